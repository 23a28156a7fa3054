/- FnDeskNew: DeskNew answers as the reference's does; the desk is ok, has the fraction, and none of before; at every draw. -/
import Derived.Test.YtmcdhajepkamjaaPFnDeskNewx0
import Derived.Test.YtmcdhajepkamjaaPFnDeskNewx1
import Derived.Test.YtmcdhajepkamjaaPFnDeskNewx2
import Derived.Test.YtmcdhajepkamjaaPFnDeskNewx3
import Derived.Test.YtmcdhajepkamjaaPFnDeskNewx4
import Derived.Test.YtmcdhajepkamjaaPFnDeskNewx5
set_option linter.unusedVariables false
set_option linter.unusedSimpArgs false
namespace Go.Proofs.Ytmcdhajepkamjaa.Pure
open Go.RowKit Go.Proofs.Ytmcdhajepkamjaa.PFnDeskNew Go.Proofs.YtmcdhajepkamjaaW.PrintWords Go.Proofs.YtmcdhajepkamjaaW.PrintLast Go.Proofs.YtmcdhajepkamjaaW.PrintMore

-- base
theorem wrap64_in {n : Int} (h : -9223372036854775808 ≤ n) (h' : n ≤ 9223372036854775807) : wrap64 n = n := by unfold wrap64; omega
theorem i64_of_wf {n : Int} (h : (Lit.int .i64 n).wf = true) : -9223372036854775808 ≤ n ∧ n ≤ 9223372036854775807 := by
  simpa [Lit.wf, IntKind.min, IntKind.max, IntKind.signed, IntKind.bits] using h
theorem bigk : ∃ k : Nat, 1000000000 ≤ k := ⟨1000000000, Nat.le_refl _⟩
theorem dec_true {p : Prop} [Decidable p] (h : p) : some (decide p) = some true := by simp [h]
theorem dec_false {p : Prop} [Decidable p] (h : ¬ p) : some (decide p) = some false := by simp [h]
theorem dec_iff {p q : Prop} [Decidable p] [Decidable q] (h : p ↔ q) : some (decide p) = some (decide q) := by simp [h]
theorem ite_to {c : Prop} [Decidable c] {α : Type} {x y z : α} (h1 : c → x = z) (h2 : ¬ c → y = z) : (if c then x else y) = z := by
  by_cases h : c
  · rw [if_pos h]; exact h1 h
  · rw [if_neg h]; exact h2 h

-- gcdmath
theorem natAbs_tmod_lt (a : Int) {b : Int} (h : b ≠ 0) : (Int.tmod a b).natAbs < b.natAbs := by
  rw [Int.natAbs_tmod]
  exact Nat.mod_lt _ (by omega)
theorem gcd_tmod (a b : Int) : Int.gcd b (Int.tmod a b) = Int.gcd a b := by
  unfold Int.gcd
  rw [Int.natAbs_tmod, Nat.gcd_comm a.natAbs, Nat.gcd_rec b.natAbs a.natAbs, Nat.gcd_comm]
theorem mx_abs {a : Int} (h : -9223372036854775808 < a) (h' : a ≤ 9223372036854775807) : mx a (wrap64 (-a)) = (a.natAbs : Int) := by
  rw [wrap64_in (by omega) (by omega)]; unfold mx; split <;> omega

-- draw
/-- The bytes that a draw reads. -/
def RdOk (s : List Int) : Prop := s.length ≤ 2000 ∧ ∀ x ∈ s, 0 ≤ x ∧ x ≤ 255
theorem rd_bd {s : List Int} (h : RdOk s) (i : Int) : 0 ≤ rd s i ∧ rd s i ≤ 255 := by
  unfold rd
  by_cases hi : i.toNat < s.length
  · have e : s.getD i.toNat 0 = s[i.toNat] := by simp [hi]
    rw [e]; exact h.2 _ (List.getElem_mem hi)
  · have e : s.getD i.toNat 0 = 0 := by simp; rw [List.getElem?_eq_none (by omega)]; rfl
    rw [e]; omega
theorem xor_nonneg {x y : Int} (hx : 0 ≤ x) (hx' : x < 4611686018427387904) (hy : 0 ≤ y) (hy' : y < 4611686018427387904) : 0 ≤ Go.bits .xor .i64 x y := by
  unfold Go.bits
  simp only
  obtain ⟨a, rfl⟩ := Int.eq_ofNat_of_zero_le hx
  obtain ⟨b, rfl⟩ := Int.eq_ofNat_of_zero_le hy
  have h64 : IntKind.i64.bits = 64 := rfl
  rw [BitVec.toNat_xor]
  have ea : (BitVec.ofInt IntKind.i64.bits (a : Int)).toNat = a := by
    rw [BitVec.toNat_ofInt, h64]; omega
  have eb : (BitVec.ofInt IntKind.i64.bits (b : Int)).toNat = b := by
    rw [BitVec.toNat_ofInt, h64]; omega
  rw [ea, eb]
  have hl : a ^^^ b < 2 ^ 62 := Nat.xor_lt_two_pow (by omega) (by omega)
  generalize a ^^^ b = c at *
  have : IntKind.i64.wrap (c : Int) = wrap64 (c : Int) := by
    simp [IntKind.wrap, wrap64, IntKind.signed, IntKind.bits]
    try omega
  rw [this, wrap64_in (by omega) (by omega)]
  omega
theorem tmod_range {x n : Int} (hx : 0 ≤ x) (hn : 1 ≤ n) : 0 ≤ Int.tmod x n ∧ Int.tmod x n < n := by
  rw [Int.tmod_eq_emod_of_nonneg hx]
  exact ⟨Int.emod_nonneg _ (by omega), Int.emod_lt_of_pos _ (by omega)⟩
theorem pick_f {s : List Int} {p : Int} (n : Int) {k : Nat} (hs : RdOk s) (hp : 0 ≤ p) (hp' : p ≤ 1000000) (hk : 1 ≤ k) :
    ∃ v, spec_l20Rd_pick.f k s p n = some (v, p + 1) ∧ 0 ≤ v ∧ (1 ≤ n → v < n) ∧ (n < 1 → v = 0) := by
  obtain ⟨k, rfl⟩ : ∃ m, k = m + 1 := ⟨k - 1, by omega⟩
  unfold spec_l20Rd_pick.f
  rw [wrap64_in (n := p + 1) (by omega) (by omega)]
  by_cases hn : n < 1
  · rw [if_pos hn]; simp only [spec_l20Rd_pick.j0]; rw [if_pos trivial]
    exact ⟨0, rfl, by omega, by omega, fun _ => rfl⟩
  · rw [if_neg hn]
    by_cases hl : (s.length : Int) = 0
    · rw [show ((s.length : Int) == 0) = true by simpa using hl]; simp only [spec_l20Rd_pick.j0]; rw [if_pos trivial]
      exact ⟨0, rfl, by omega, by omega, fun _ => rfl⟩
    · rw [show ((s.length : Int) == 0) = false by simpa using hl]; simp only [spec_l20Rd_pick.j0]; rw [if_neg (by decide)]
      have hlen := hs.1
      rw [show p + 1 - 1 = p by omega, wrap64_in (n := p) (by omega) (by omega)]
      by_cases h1 : p < (s.length : Int)
      · have hb := rd_bd hs p
        rw [if_pos h1, if_pos hp, if_neg (by omega), wrap64_in (by omega) (by omega)]
        have ht := tmod_range (n := n) hb.1 (by omega)
        exact ⟨_, rfl, ht.1, fun _ => ht.2, fun x => absurd x hn⟩
      · have t1 := tmod_range (x := p) (n := (s.length : Int)) hp (by omega)
        have t2 := tmod_range (x := p * 7 + 3) (n := (s.length : Int)) (by omega) (by omega)
        rw [if_neg h1, if_neg hl, if_pos t1.1, if_pos t1.2, wrap64_in (n := p * 7) (by omega) (by omega), wrap64_in (n := p * 7 + 3) (by omega) (by omega), if_pos t2.1, if_pos t2.2, if_neg (by omega)]
        have b1 := rd_bd hs (Int.tmod p (s.length : Int))
        have b2 := rd_bd hs (Int.tmod (p * 7 + 3) (s.length : Int))
        generalize rd s (Int.tmod p (s.length : Int)) = r1 at *
        generalize rd s (Int.tmod (p * 7 + 3) (s.length : Int)) = r2 at *
        have q1 : 0 ≤ Int.tdiv p (s.length : Int) ∧ Int.tdiv p (s.length : Int) ≤ p := by
          obtain ⟨a, rfl⟩ := Int.eq_ofNat_of_zero_le hp
          rw [Int.tdiv_eq_ediv_of_nonneg (by omega), ← Int.natCast_ediv]
          have := Nat.div_le_self a s.length
          exact ⟨Int.natCast_nonneg _, by exact_mod_cast this⟩
        generalize Int.tdiv p (s.length : Int) = q at *
        rw [wrap64_in (n := r1) (by omega) (by omega), wrap64_in (n := r1 * 131) (by omega) (by omega), wrap64_in (n := r2) (by omega) (by omega), wrap64_in (n := r2 * 1117) (by omega) (by omega), wrap64_in (n := r1 * 131 + r2 * 1117) (by omega) (by omega), wrap64_in (n := p * 29) (by omega) (by omega), wrap64_in (n := q) (by omega) (by omega), wrap64_in (n := q * 53) (by omega) (by omega), wrap64_in (n := r1 * 131 + r2 * 1117 + p * 29) (by omega) (by omega), wrap64_in (n := r1 * 131 + r2 * 1117 + p * 29 + q * 53) (by omega) (by omega)]
        generalize hX : r1 * 131 + r2 * 1117 + p * 29 + q * 53 = X
        have hX0 : 0 ≤ X := by omega
        have hX1 : X ≤ 1000000000 := by omega
        have d1 : 0 ≤ Int.tdiv X 64 ∧ Int.tdiv X 64 ≤ X := by
          rw [Int.tdiv_eq_ediv_of_nonneg hX0]; omega
        rw [wrap64_in (n := Int.tdiv X 64) (by omega) (by omega)]
        have hx := xor_nonneg (x := X) (y := Int.tdiv X 64) hX0 (by omega) d1.1 (by omega)
        have ht := tmod_range (n := n) hx (by omega)
        exact ⟨_, rfl, ht.1, fun _ => ht.2, fun x => absurd x hn⟩

-- open
theorem u8_of_wf {n : Int} (h : (Lit.int .u8 n).wf = true) : 0 ≤ n ∧ n ≤ 255 := by
  simpa [Lit.wf, IntKind.min, IntKind.max, IntKind.signed, IntKind.bits] using h
theorem open_f {l : List Int} (h : ∀ x ∈ l, (Lit.int .u8 x).wf = true) : ∃ s, spec_l20Open.f l = some (s, 0) ∧ RdOk s := by
  unfold spec_l20Open.f
  by_cases hl : (l.length : Int) > 2000
  · rw [if_pos hl, if_pos (by omega)]
    exact ⟨_, rfl, by rw [List.length_take]; omega, fun x hx => u8_of_wf (h x (List.mem_of_mem_take hx))⟩
  · rw [if_neg hl]
    exact ⟨_, rfl, by omega, fun x hx => u8_of_wf (h x hx)⟩

-- odd
theorem odd_f {s : List Int} {p : Int} (n : Int) {k : Nat} (hs : RdOk s) (hp : 0 ≤ p) (hp' : p ≤ 1000000) (hk : 1 ≤ k) :
    ∃ v q, spec_l20Rd_odd.f k s p n = some (v, q) ∧ p ≤ q ∧ q ≤ p + 1 := by
  unfold spec_l20Rd_odd.f
  by_cases h : n > 0
  · rw [if_pos h]
    obtain ⟨v, hv, _⟩ := pick_f n hs hp hp' hk
    rw [hv]; simp only [Option.bind_some]
    exact ⟨_, _, rfl, by omega, by omega⟩
  · rw [if_neg h]; exact ⟨_, _, rfl, by omega, by omega⟩

-- frac
/-- A fraction in lowest terms, as FractionOk tells it. -/
def Frac (a b : Int) : Prop := (-1000000 ≤ a ∧ a ≤ 1000000) ∧ (0 ≤ b ∧ b ≤ 1000000) ∧ Int.gcd a b = 1 ∧ (b = 0 → a = 1)
instance (a b : Int) : Decidable (Frac a b) := by unfold Frac; infer_instance

-- lowmath
/-- Two numbers in lowest terms. -/
def lowv (a b : Int) : Int × Int := if b < 0 ∨ (b = 0 ∧ a < 0) then (Int.tdiv a (-(Int.gcd a b : Int)), Int.tdiv b (-(Int.gcd a b : Int))) else (Int.tdiv a (Int.gcd a b : Int), Int.tdiv b (Int.gcd a b : Int))
theorem gcd_ne {a b : Int} (h : ¬ (a = 0 ∧ b = 0)) : Int.gcd a b ≠ 0 := by
  intro x; rw [Int.gcd_eq_zero_iff] at x; exact h x
theorem tdiv_wrap {a g : Int} (h : a.natAbs ≤ 9223372036854775807) : wrap64 (Int.tdiv a g) = Int.tdiv a g := by
  have := Nat.div_le_self a.natAbs g.natAbs
  have e : (Int.tdiv a g).natAbs = a.natAbs / g.natAbs := Int.natAbs_tdiv a g
  rw [← e] at this
  exact wrap64_in (by omega) (by omega)
theorem gcd_le_abs {a b : Int} (h : ¬ (a = 0 ∧ b = 0)) : (Int.gcd a b) ≤ a.natAbs + b.natAbs := by
  by_cases ha : a = 0
  · subst ha; rw [Int.gcd_zero_left]; omega
  · have := Int.gcd_le_natAbs_left (b := b) ha; omega

-- lowestof
/-- What LowestOf answers. -/
def LowOk (a b : Int) : Prop := (-1000000 ≤ a ∧ a ≤ 1000000) ∧ (-1000000 ≤ b ∧ b ≤ 1000000) ∧ ¬ (a = 0 ∧ b = 0)
instance (a b : Int) : Decidable (LowOk a b) := by unfold LowOk; infer_instance
def lowofv (a b : Int) : Int × Int × Bool := if LowOk a b then ((lowv a b).1, (lowv a b).2, true) else (0, 0, false)

-- spec_l1Common
theorem spec_l1Common_l0 (n : Nat) : ∀ (a b : Int), b.natAbs ≤ n → 0 ≤ a → 0 ≤ b → ∀ k, n < k → spec_l1Common.l0 k a b = some (Int.gcd a b : Int) := by
  induction n with
  | zero =>
    intro a b hb ha _ k hk
    obtain ⟨k, rfl⟩ : ∃ m, k = m + 1 := ⟨k - 1, by omega⟩
    obtain rfl : b = 0 := by omega
    simp only [spec_l1Common.l0]
    rw [if_neg (by omega), Int.gcd_zero_right]
    congr 1; omega
  | succ n ih =>
    intro a b hb ha hb' k hk
    obtain ⟨k, rfl⟩ : ∃ m, k = m + 1 := ⟨k - 1, by omega⟩
    simp only [spec_l1Common.l0]
    by_cases h : b = 0
    · subst h; rw [if_neg (by omega), Int.gcd_zero_right]; congr 1; omega
    · have := natAbs_tmod_lt a h
      rw [if_pos (by omega), if_neg h, ih b (Int.tmod a b) (by omega) hb' (Int.tmod_nonneg _ ha) k (by omega), gcd_tmod]
theorem spec_l1Common_f {a b : Int} {k : Nat} (ha : a.natAbs ≤ 9223372036854775807) (hb : b.natAbs ≤ 9223372036854775807) (hk : b.natAbs < k) : spec_l1Common.f k a b = some (Int.gcd a b : Int) := by
  unfold spec_l1Common.f
  rw [mx_abs (by omega) (by omega), mx_abs (by omega) (by omega), spec_l1Common_l0 b.natAbs _ _ (by omega) (by omega) (by omega) k hk]
  rfl

-- spec_l1In
theorem spec_l1In_f (a b c : Int) : spec_l1In.f a b c = some (decide (b ≤ a ∧ a ≤ c)) := by
  unfold spec_l1In.f
  by_cases h : b ≤ a
  · rw [if_pos h]; exact dec_iff ⟨fun x => ⟨h, x⟩, fun x => x.2⟩
  · rw [if_neg h]; exact (dec_false (fun x => h x.1)).symm

-- spec_LowestOf
theorem spec_LowestOf_f (a b : Int) {k : Nat} (hk : 1000002 ≤ k) : spec_LowestOf.f k a b = some (lowofv a b) := by
  obtain ⟨k, rfl⟩ : ∃ m, k = m + 1 := ⟨k - 1, by omega⟩
  unfold spec_LowestOf.f
  simp only [spec_l1In_f, Option.bind_some, decide_eq_true_eq]
  unfold lowofv
  by_cases h : LowOk a b
  · rw [if_pos h.1, if_pos h.2.1, if_pos h]
    have e : (if a = 0 then spec_LowestOf.j0 (k + 1) a b (b == 0) else spec_LowestOf.j0 (k + 1) a b false) = spec_LowestOf.j0 (k + 1) a b false := by
      by_cases h3 : a = 0
      · rw [if_pos h3, show (b == 0) = false from by simp; exact fun x => h.2.2 ⟨h3, x⟩]
      · rw [if_neg h3]
    rw [e]
    have h1 := h.1
    have h2 := h.2.1
    simp only [spec_LowestOf.j0]
    rw [if_neg (by decide), spec_l1Common_f (by omega) (by omega) (by omega)]; simp only [Option.bind_some]
    have hg := gcd_ne h.2.2
    have hl := gcd_le_abs h.2.2
    rw [wrap64_in (n := -((Int.gcd a b : Nat) : Int)) (by omega) (by omega)]
    unfold lowv
    by_cases h1 : b < 0
    · rw [if_pos h1, if_neg (by omega), if_pos (.inl h1), tdiv_wrap (by omega), tdiv_wrap (by omega)]
    · rw [if_neg h1]
      by_cases h2 : b = 0
      · rw [if_pos h2]
        by_cases h3 : a < 0
        · rw [if_pos h3, if_neg (by omega), if_pos (.inr ⟨h2, h3⟩), tdiv_wrap (by omega), tdiv_wrap (by omega)]
        · rw [if_neg h3, if_neg (by omega), if_neg (by omega), tdiv_wrap (by omega), tdiv_wrap (by omega)]
      · rw [if_neg h2, if_neg (by omega), if_neg (by omega), tdiv_wrap (by omega), tdiv_wrap (by omega)]
  · rw [if_neg h]
    have e : spec_LowestOf.j0 (k + 1) a b true = some (0, 0, false) := by simp only [spec_LowestOf.j0]; rw [if_pos trivial]
    by_cases h1 : -1000000 ≤ a ∧ a ≤ 1000000
    · rw [if_pos h1]
      by_cases h2 : -1000000 ≤ b ∧ b ≤ 1000000
      · rw [if_pos h2]
        have h3 : a = 0 ∧ b = 0 := by
          by_cases x : a = 0 ∧ b = 0
          · exact x
          · exact absurd ⟨h1, h2, x⟩ h
        rw [if_pos h3.1, h3.2]
        rw [h3.2] at e
        exact e
      · rw [if_neg h2, e]
    · rw [if_neg h1, e]

-- lowbd
theorem lowofv_bd (a b : Int) : (lowofv a b).1.natAbs ≤ 1000000 ∧ (lowofv a b).2.1.natAbs ≤ 1000000 := by
  unfold lowofv
  by_cases h : LowOk a b
  · rw [if_pos h]
    have h1 := h.1
    have h2 := h.2.1
    have key : ∀ (x g : Int), x.natAbs ≤ 1000000 → (Int.tdiv x g).natAbs ≤ 1000000 := by
      intro x g hx
      have := Nat.div_le_self x.natAbs g.natAbs
      have e : (Int.tdiv x g).natAbs = x.natAbs / g.natAbs := Int.natAbs_tdiv x g
      omega
    unfold lowv
    split
    · exact ⟨key _ _ (by omega), key _ _ (by omega)⟩
    · exact ⟨key _ _ (by omega), key _ _ (by omega)⟩
  · rw [if_neg h]; simp

-- drawfrac
/-- Numbers of a drawn fraction. -/
def Drawn2 (a b : Int) : Prop := a.natAbs ≤ 1000001 ∧ b.natAbs ≤ 1000001
theorem l20Fraction_f {s : List Int} {p : Int} (n : Int) {k : Nat} (hs : RdOk s) (hp : 0 ≤ p) (hp' : p ≤ 900000) (hk : 1000003 ≤ k) :
    ∃ a b q, spec_l20Fraction.f k s p n = some (a, b, q) ∧ Drawn2 a b ∧ p ≤ q ∧ q ≤ p + 6 := by
  obtain ⟨k, rfl⟩ : ∃ m, k = m + 1 := ⟨k - 1, by omega⟩
  unfold spec_l20Fraction.f
  simp only [Option.bind_some]
  obtain ⟨v, hv, v0, v1, _⟩ := pick_f (k := k + 1) 4 hs hp (by omega) (by omega)
  have v1 := v1 (by omega)
  rw [hv]; simp only [Option.bind_some]
  rw [if_pos v0, if_pos (by simpa using v1)]
  have hm : 4 ≤ rd ([4, 10, 50, 1000] : List Int) v ∧ rd ([4, 10, 50, 1000] : List Int) v ≤ 1000 := by
    obtain ⟨m, rfl⟩ := Int.eq_ofNat_of_zero_le v0
    have : m = 0 ∨ m = 1 ∨ m = 2 ∨ m = 3 := by omega
    rcases this with rfl | rfl | rfl | rfl <;> decide
  generalize rd ([4, 10, 50, 1000] : List Int) v = m at *
  obtain ⟨x, hx, x0, x1, _⟩ := pick_f (k := k + 1) (p := p + 1) m hs (by omega) (by omega) (by omega)
  rw [hx]; simp only [Option.bind_some]
  obtain ⟨y, hy, y0, y1, _⟩ := pick_f (k := k + 1) (p := p + 1 + 1) m hs (by omega) (by omega) (by omega)
  rw [hy]; simp only [Option.bind_some]
  obtain ⟨z, hz, z0, z1, _⟩ := pick_f (k := k + 1) (p := p + 1 + 1 + 1) m hs (by omega) (by omega) (by omega)
  rw [hz]; simp only [Option.bind_some]
  rw [spec_LowestOf_f _ _ (by omega)]; simp only [Option.bind_some]
  have hj : ∀ a b, Drawn2 a b → ∃ a' b' q, spec_l20Fraction.j0 (k + 1) n s (p + 1 + 1 + 1 + 1) a b = some (a', b', q) ∧ Drawn2 a' b' ∧ p ≤ q ∧ q ≤ p + 6 := by
    intro a b hab
    simp only [spec_l20Fraction.j0]
    obtain ⟨o, q, ho, q0, q1⟩ := odd_f (k := k) (p := p + 1 + 1 + 1 + 1) n hs (by omega) (by omega) (by omega)
    rw [ho]; simp only [Option.bind_some]
    by_cases hc : o = true
    · rw [if_pos hc]
      obtain ⟨w, hw, w0, w1, _⟩ := pick_f (k := k) (p := q) 5 hs (by omega) (by omega) (by omega)
      have w1 := w1 (by omega)
      rw [hw]; simp only [Option.bind_some]
      rw [if_pos w0, if_pos (by simpa using w1)]
      refine ⟨_, _, _, rfl, ?_, by omega, by omega⟩
      obtain ⟨m, rfl⟩ := Int.eq_ofNat_of_zero_le w0
      have : m = 0 ∨ m = 1 ∨ m = 2 ∨ m = 3 ∨ m = 4 := by omega
      rcases this with rfl | rfl | rfl | rfl | rfl <;> (unfold Drawn2; decide)
    · rw [if_neg hc]; exact ⟨_, _, _, rfl, hab, by omega, by omega⟩
  have hb := lowofv_bd (wrap64 (x - y)) z
  split
  · exact hj _ _ ⟨by omega, by omega⟩
  · exact hj _ _ ⟨by omega, by omega⟩

-- deskmath
def AllF (l : List S34) : Prop := ∀ x ∈ l, Frac x.f0 x.f1
instance (l : List S34) : Decidable (AllF l) := by unfold AllF; infer_instance
theorem allF_cons (x : S34) (l : List S34) : AllF (x :: l) ↔ Frac x.f0 x.f1 ∧ AllF l := by unfold AllF; simp
/-- What DeskOk answers. -/
def DeskP (a b : Int) (l : List S34) : Prop := Frac a b ∧ l.length ≤ 8 ∧ AllF l
instance (a b : Int) (l : List S34) : Decidable (DeskP a b l) := by unfold DeskP; infer_instance
theorem rdF_drop (l : List S34) (i : Nat) (h : i < l.length) : l.drop i = rd_T34 l (i : Int) :: l.drop (i + 1) := by
  rw [List.drop_eq_getElem_cons h]
  unfold rd_T34
  simp [h]

-- impl_isPart
theorem impl_isPart_f (a : Int) : impl_isPart.f a = some (decide (-1000000 ≤ a ∧ a ≤ 1000000)) := by
  unfold impl_isPart.f
  by_cases h : -1000000 ≤ a
  · rw [if_pos h]; exact dec_iff ⟨fun x => ⟨h, x⟩, fun x => x.2⟩
  · rw [if_neg h]; exact (dec_false (fun x => h x.1)).symm

-- impl_gcd
theorem impl_gcd_l0 (n : Nat) : ∀ (a b : Int), b.natAbs ≤ n → a.natAbs ≤ 9223372036854775807 → b.natAbs ≤ 9223372036854775807 → ∀ k, n < k → impl_gcd.l0 k a b = some (Int.gcd a b : Int) := by
  induction n with
  | zero =>
    intro a b hb ha _ k hk
    obtain ⟨k, rfl⟩ : ∃ m, k = m + 1 := ⟨k - 1, by omega⟩
    obtain rfl : b = 0 := by omega
    simp only [impl_gcd.l0]
    rw [if_pos trivial, mx_abs (by omega) (by omega), Int.gcd_zero_right]
  | succ n ih =>
    intro a b hb ha hb' k hk
    obtain ⟨k, rfl⟩ : ∃ m, k = m + 1 := ⟨k - 1, by omega⟩
    simp only [impl_gcd.l0]
    by_cases h : b = 0
    · subst h; rw [if_pos rfl, mx_abs (by omega) (by omega), Int.gcd_zero_right]
    · have := natAbs_tmod_lt a h
      rw [if_neg h, ih b (Int.tmod a b) (by omega) hb' (by omega) k (by omega), gcd_tmod]
theorem impl_gcd_f {a b : Int} {k : Nat} (ha : a.natAbs ≤ 9223372036854775807) (hb : b.natAbs ≤ 9223372036854775807) (hk : b.natAbs < k) : impl_gcd.f k a b = some (Int.gcd a b : Int) :=
  impl_gcd_l0 b.natAbs a b (Nat.le_refl _) ha hb k hk

-- impl_isFraction
theorem impl_isFraction_f (a b : Int) {k : Nat} (hk : 1000001 ≤ k) : impl_isFraction.f k a b = some (decide (Frac a b)) := by
  unfold impl_isFraction.f
  rw [impl_isPart_f]; simp only [Option.bind_some, decide_eq_true_eq]
  by_cases h1 : -1000000 ≤ a ∧ a ≤ 1000000
  · rw [if_pos h1]
    by_cases h2 : b < 0
    · rw [if_pos h2]; exact (dec_false (fun x => by have := x.2.1; omega)).symm
    · rw [if_neg h2]
      by_cases h2' : b > 1000000
      · rw [if_pos h2']; exact (dec_false (fun x => by have := x.2.1; omega)).symm
      · rw [if_neg h2', impl_gcd_f (by omega) (by omega) (by omega)]; simp only [Option.bind_some]
        have hb : (((Int.gcd a b : Nat) : Int) == 1) = decide (Int.gcd a b = 1) := by
          rw [Bool.eq_iff_iff]; simp; omega
        rw [hb]
        by_cases h4 : b = 0
        · rw [if_pos h4]
          by_cases h5 : a = 1
          · rw [if_pos h5]; exact dec_iff ⟨fun h => ⟨h1, by omega, h, fun _ => h5⟩, fun h => h.2.2.1⟩
          · rw [if_neg h5]; exact (dec_false (fun x => h5 (x.2.2.2 h4))).symm
        · rw [if_neg h4]; exact dec_iff ⟨fun h => ⟨h1, by omega, h, fun h' => absurd h' h4⟩, fun h => h.2.2.1⟩
  · rw [if_neg h1]; exact (dec_false (fun x => h1 x.1)).symm

-- impl_isDesk
theorem impl_IndexFunc_l0 (l : List S34) (hl : l.length ≤ 1000000000) (n : Nat) : ∀ i : Nat, i + n = l.length → ∀ k, n + 1000001 ≤ k → ∃ r, impl_Fraction_99.l0 k l (l.length : Int) (i : Int) = some r ∧ (r ≥ 0 ↔ ¬ AllF (l.drop i)) := by
  induction n with
  | zero =>
    intro i hi k hk
    obtain ⟨k, rfl⟩ : ∃ m, k = m + 1 := ⟨k - 1, by omega⟩
    simp only [impl_Fraction_99.l0]
    rw [if_neg (by omega), List.drop_of_length_le (by omega)]
    refine ⟨-1, rfl, ?_⟩
    constructor
    · intro h; omega
    · intro h; exact absurd (by intro x hx; simp at hx) h
  | succ n ih =>
    intro i hi k hk
    obtain ⟨k, rfl⟩ : ∃ m, k = m + 1 := ⟨k - 1, by omega⟩
    obtain ⟨r, h1, h2⟩ := ih (i + 1) (by omega) k (by omega)
    simp only [impl_Fraction_99.l0]
    unfold impl_isDesk_1.f
    rw [if_pos (by omega), if_pos (by omega), if_pos (by omega), impl_isFraction_f _ _ (by omega), rdF_drop l i (by omega)]; simp only [Option.bind_some]
    by_cases h : Frac (rd_T34 l (i : Int)).f0 (rd_T34 l (i : Int)).f1
    · rw [decide_eq_true h, if_neg (by decide), wrap64_in (by omega) (by omega), show ((i : Int) + 1) = ((i + 1 : Nat) : Int) by omega]
      refine ⟨r, h1, ?_⟩
      rw [h2, allF_cons]
      exact ⟨fun x y => x y.2, fun x y => x ⟨h, y⟩⟩
    · rw [decide_eq_false h, if_pos (by decide)]
      refine ⟨_, rfl, ?_⟩
      rw [allF_cons]
      exact ⟨fun _ y => h y.1, fun _ => by omega⟩
theorem impl_ContainsFunc_f (l : List S34) (hl : l.length ≤ 1000000000) (z : Int) {k : Nat} (hk : l.length + 1000001 ≤ k) : impl_Fraction_95.f k l z = some (decide (¬ AllF l)) := by
  unfold impl_Fraction_95.f impl_Fraction_99.f
  obtain ⟨r, h1, h2⟩ := impl_IndexFunc_l0 l hl l.length 0 (by omega) k (by omega)
  rw [List.drop_zero] at h2
  rw [show ((0 : Nat) : Int) = 0 from rfl] at h1
  rw [h1]; simp only [Option.bind_some]
  exact dec_iff h2
theorem impl_isDesk_f (a b : Int) (l : List S34) (hl : l.length ≤ 1000000000) {k : Nat} (hk : 1001000 ≤ k) : impl_isDesk.f k a b l = some (decide (DeskP a b l)) := by
  unfold impl_isDesk.f
  rw [impl_isFraction_f _ _ (by omega)]; simp only [Option.bind_some, decide_eq_true_eq]
  by_cases h : Frac a b
  · rw [if_pos h]
    by_cases h1 : (l.length : Int) ≤ 8
    · rw [if_pos h1, impl_ContainsFunc_f l hl _ (by omega)]; simp only [Option.bind_some]
      by_cases h2 : AllF l
      · rw [decide_eq_false (not_not_intro h2), decide_eq_true (show DeskP a b l from ⟨h, by omega, h2⟩)]; rfl
      · rw [decide_eq_true h2, decide_eq_false (fun x : DeskP a b l => h2 x.2.2)]; rfl
    · rw [if_neg h1]; exact (dec_false (fun x => by have := x.2.1; omega)).symm
  · rw [if_neg h]; exact (dec_false (fun x => h x.1)).symm

-- impl_DeskOk
theorem impl_DeskOk_f (a b : Int) (l : List S34) (hl : l.length ≤ 1000000000) {k : Nat} (hk : 1001000 ≤ k) : impl_DeskOk.f k a b l = some (decide (DeskP a b l)) := by
  unfold impl_DeskOk.f
  rw [impl_isDesk_f a b l hl hk]; rfl

-- impl_FractionOk
theorem impl_FractionOk_f (a b : Int) {k : Nat} (hk : 1000001 ≤ k) : impl_FractionOk.f k a b = some (decide (Frac a b)) := by
  unfold impl_FractionOk.f; rw [impl_isFraction_f _ _ hk]; rfl

-- spec_FractionOk
theorem spec_FractionOk_f (a b : Int) {k : Nat} (hk : 1000001 ≤ k) : spec_FractionOk.f k a b = some (decide (Frac a b)) := by
  unfold spec_FractionOk.f
  rw [spec_l1In_f]; simp only [Option.bind_some, decide_eq_true_eq]
  by_cases h1 : -1000000 ≤ a ∧ a ≤ 1000000
  · rw [if_pos h1, spec_l1In_f]; simp only [Option.bind_some, decide_eq_true_eq]
    by_cases h2 : 0 ≤ b ∧ b ≤ 1000000
    · rw [if_pos h2, spec_l1Common_f (by omega) (by omega) (by omega)]; simp only [Option.bind_some]
      by_cases h3 : Int.gcd a b = 1
      · rw [if_pos (by omega)]
        by_cases h4 : b > 0
        · rw [if_pos h4]; exact (dec_true ⟨h1, h2, h3, by omega⟩).symm
        · rw [if_neg h4]
          by_cases h5 : a = 1
          · rw [(dec_true ⟨h1, h2, h3, fun _ => h5⟩ : some (decide (Frac a b)) = _)]; simp [h5]
          · rw [(dec_false (fun x => h5 (x.2.2.2 (by omega))) : some (decide (Frac a b)) = _)]; simp [h5]
      · rw [if_neg (by omega)]; exact (dec_false (fun x => h3 x.2.2.1)).symm
    · rw [if_neg h2]; exact (dec_false (fun x => h2 x.2.1)).symm
  · rw [if_neg h1]; exact (dec_false (fun x => h1 x.1)).symm

-- alive
theorem alive_f {k : Nat} (hk : 1000001 ≤ k) : laws_alive.f k = some true := by
  unfold laws_alive.f impl_FractionOk.f
  simp only [impl_isFraction_f _ _ hk, Option.bind_some]
  rw [if_pos (by decide)]
  congr 1

theorem DrawDeskNew_f {l : List Int} {k : Nat} (h : ∀ x ∈ l, (Lit.int .u8 x).wf = true) (hk : 2000000 ≤ k) : ∃ a b, spec_DrawDeskNew.f k l = some (a, b) := by
  unfold spec_DrawDeskNew.f
  obtain ⟨s, hs, hr⟩ := open_f h
  rw [hs]; simp only [Option.bind_some]
  obtain ⟨a, b, q, hf, hd, q0, q1⟩ := l20Fraction_f (k := k) (p := 0) 3 hr (by omega) (by omega) (by omega)
  rw [hf]; simp only [Option.bind_some]
  exact ⟨a, b, rfl⟩
theorem FnDeskNew : laws_FnDeskNew.Pure := by
  intro l _ _ hw
  refine ⟨3000003, ?_⟩
  unfold laws_FnDeskNew.f
  refine ite_to (fun _ => rfl) (fun _ => ?_)
  obtain ⟨a, b, hd⟩ := DrawDeskNew_f hw (show 2000000 ≤ 3000003 by omega)
  rw [hd]; simp only [Option.bind_some]
  have hs : spec_DeskNew.f 3000003 a b = some (if Frac a b then (a, b, [], true) else (0, 0, [], false)) := by
    unfold spec_DeskNew.f
    rw [spec_FractionOk_f _ _ (by omega)]; simp only [Option.bind_some, decide_eq_true_eq]
    split <;> rfl
  have hi : impl_DeskNew.f 3000003 a b = some (if Frac a b then (a, b, [], true) else (0, 0, [], false)) := by
    unfold impl_DeskNew.f
    rw [impl_isFraction_f _ _ (by omega)]; simp only [Option.bind_some, decide_eq_true_eq]
    split <;> rfl
  have same : ∀ (n : Nat) (x y : Int), laws_sameDesk.f (n + 2) x y [] x y [] = some true := by
    intro n x y
    unfold laws_sameDesk.f
    simp [laws_sameDesk.j0, laws_sameDesk.l0]
  rw [hs, hi]; simp only [Option.bind_some]
  have ex : ∀ P : Nat → Prop, P (3000002 + 1) → P 3000003 := fun P h => h
  by_cases h : Frac a b
  · rw [if_pos h]; simp only
    rw [same 3000001]; simp only [Option.bind_some, if_true]
    refine ex (fun K => laws_FnDeskNew.j0 K _ _ _ _ _ _ _ = some true) ?_
    simp only [laws_FnDeskNew.j0]
    rw [impl_DeskOk_f _ _ _ (by simp) (by omega), decide_eq_true (show DeskP a b [] from ⟨h, by simp, by intro x hx; simp at hx⟩)]
    simp
  · rw [if_neg h]; simp only
    rw [same 3000001]; simp only [Option.bind_some, if_true]
    refine ex (fun K => laws_FnDeskNew.j0 K _ _ _ _ _ _ _ = some true) ?_
    simp only [laws_FnDeskNew.j0]
    unfold laws_noDesk.f
    rw [same 3000000]; simp only [Option.bind_some, if_true]
    rw [impl_FractionOk_f _ _ (by omega), alive_f (by omega)]; simp [h]

end Go.Proofs.Ytmcdhajepkamjaa.Pure
