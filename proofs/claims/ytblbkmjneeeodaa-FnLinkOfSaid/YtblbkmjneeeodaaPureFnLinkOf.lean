/- FnLinkOf: LinkOf answers as the reference's does; it is a link, ropes twisted below make the same, and it has two rings exactly if the number above is even; at every draw. -/
import Derived.Test.YtblbkmjneeeodaaPFnLinkOfx0
import Derived.Test.YtblbkmjneeeodaaPFnLinkOfx1
import Derived.Test.YtblbkmjneeeodaaPFnLinkOfx2
import Derived.Test.YtblbkmjneeeodaaPFnLinkOfx3
import Derived.Test.YtblbkmjneeeodaaPFnLinkOfx4
import Derived.Test.YtblbkmjneeeodaaPFnLinkOfx5
import Derived.Test.YtblbkmjneeeodaaPFnLinkOfx6
import Derived.Test.YtblbkmjneeeodaaPFnLinkOfx7
set_option linter.unusedVariables false
set_option linter.unusedSimpArgs false
namespace Go.Proofs.Ytblbkmjneeeodaa.Pure
open Go.RowKit Go.Proofs.Ytblbkmjneeeodaa.PFnLinkOf Go.Proofs.YtblbkmjneeeodaaW.PrintWords Go.Proofs.YtblbkmjneeeodaaW.PrintLast Go.Proofs.YtblbkmjneeeodaaW.PrintMore

-- base
theorem wrap64_in {n : Int} (h : -9223372036854775808 ≤ n) (h' : n ≤ 9223372036854775807) : wrap64 n = n := by unfold wrap64; omega
theorem i64_of_wf {n : Int} (h : (Lit.int .i64 n).wf = true) : -9223372036854775808 ≤ n ∧ n ≤ 9223372036854775807 := by
  simpa [Lit.wf, IntKind.min, IntKind.max, IntKind.signed, IntKind.bits] using h
theorem bigk : ∃ k : Nat, 1000000000 ≤ k := ⟨1000000000, Nat.le_refl _⟩
theorem dec_true {p : Prop} [Decidable p] (h : p) : some (decide p) = some true := by simp [h]
theorem dec_false {p : Prop} [Decidable p] (h : ¬ p) : some (decide p) = some false := by simp [h]
theorem dec_iff {p q : Prop} [Decidable p] [Decidable q] (h : p ↔ q) : some (decide p) = some (decide q) := by simp [h]
theorem ite_to {c : Prop} [Decidable c] {α : Type} {x y z : α} (h1 : c → x = z) (h2 : ¬ c → y = z) : (if c then x else y) = z := by
  by_cases h : c
  · rw [if_pos h]; exact h1 h
  · rw [if_neg h]; exact h2 h

-- gcdmath
theorem natAbs_tmod_lt (a : Int) {b : Int} (h : b ≠ 0) : (Int.tmod a b).natAbs < b.natAbs := by
  rw [Int.natAbs_tmod]
  exact Nat.mod_lt _ (by omega)
theorem gcd_tmod (a b : Int) : Int.gcd b (Int.tmod a b) = Int.gcd a b := by
  unfold Int.gcd
  rw [Int.natAbs_tmod, Nat.gcd_comm a.natAbs, Nat.gcd_rec b.natAbs a.natAbs, Nat.gcd_comm]
theorem mx_abs {a : Int} (h : -9223372036854775808 < a) (h' : a ≤ 9223372036854775807) : mx a (wrap64 (-a)) = (a.natAbs : Int) := by
  rw [wrap64_in (by omega) (by omega)]; unfold mx; split <;> omega

-- draw
/-- The bytes that a draw reads. -/
def RdOk (s : List Int) : Prop := s.length ≤ 2000 ∧ ∀ x ∈ s, 0 ≤ x ∧ x ≤ 255
theorem rd_bd {s : List Int} (h : RdOk s) (i : Int) : 0 ≤ rd s i ∧ rd s i ≤ 255 := by
  unfold rd
  by_cases hi : i.toNat < s.length
  · have e : s.getD i.toNat 0 = s[i.toNat] := by simp [hi]
    rw [e]; exact h.2 _ (List.getElem_mem hi)
  · have e : s.getD i.toNat 0 = 0 := by simp; rw [List.getElem?_eq_none (by omega)]; rfl
    rw [e]; omega
theorem xor_nonneg {x y : Int} (hx : 0 ≤ x) (hx' : x < 4611686018427387904) (hy : 0 ≤ y) (hy' : y < 4611686018427387904) : 0 ≤ Go.bits .xor .i64 x y := by
  unfold Go.bits
  simp only
  obtain ⟨a, rfl⟩ := Int.eq_ofNat_of_zero_le hx
  obtain ⟨b, rfl⟩ := Int.eq_ofNat_of_zero_le hy
  have h64 : IntKind.i64.bits = 64 := rfl
  rw [BitVec.toNat_xor]
  have ea : (BitVec.ofInt IntKind.i64.bits (a : Int)).toNat = a := by
    rw [BitVec.toNat_ofInt, h64]; omega
  have eb : (BitVec.ofInt IntKind.i64.bits (b : Int)).toNat = b := by
    rw [BitVec.toNat_ofInt, h64]; omega
  rw [ea, eb]
  have hl : a ^^^ b < 2 ^ 62 := Nat.xor_lt_two_pow (by omega) (by omega)
  generalize a ^^^ b = c at *
  have : IntKind.i64.wrap (c : Int) = wrap64 (c : Int) := by
    simp [IntKind.wrap, wrap64, IntKind.signed, IntKind.bits]
    try omega
  rw [this, wrap64_in (by omega) (by omega)]
  omega
theorem tmod_range {x n : Int} (hx : 0 ≤ x) (hn : 1 ≤ n) : 0 ≤ Int.tmod x n ∧ Int.tmod x n < n := by
  rw [Int.tmod_eq_emod_of_nonneg hx]
  exact ⟨Int.emod_nonneg _ (by omega), Int.emod_lt_of_pos _ (by omega)⟩
theorem pick_f {s : List Int} {p : Int} (n : Int) {k : Nat} (hs : RdOk s) (hp : 0 ≤ p) (hp' : p ≤ 1000000) (hk : 1 ≤ k) :
    ∃ v, spec_l20Rd_pick.f k s p n = some (v, p + 1) ∧ 0 ≤ v ∧ (1 ≤ n → v < n) ∧ (n < 1 → v = 0) := by
  obtain ⟨k, rfl⟩ : ∃ m, k = m + 1 := ⟨k - 1, by omega⟩
  unfold spec_l20Rd_pick.f
  rw [wrap64_in (n := p + 1) (by omega) (by omega)]
  by_cases hn : n < 1
  · rw [if_pos hn]; simp only [spec_l20Rd_pick.j0]; rw [if_pos trivial]
    exact ⟨0, rfl, by omega, by omega, fun _ => rfl⟩
  · rw [if_neg hn]
    by_cases hl : (s.length : Int) = 0
    · rw [show ((s.length : Int) == 0) = true by simpa using hl]; simp only [spec_l20Rd_pick.j0]; rw [if_pos trivial]
      exact ⟨0, rfl, by omega, by omega, fun _ => rfl⟩
    · rw [show ((s.length : Int) == 0) = false by simpa using hl]; simp only [spec_l20Rd_pick.j0]; rw [if_neg (by decide)]
      have hlen := hs.1
      rw [show p + 1 - 1 = p by omega, wrap64_in (n := p) (by omega) (by omega)]
      by_cases h1 : p < (s.length : Int)
      · have hb := rd_bd hs p
        rw [if_pos h1, if_pos hp, if_neg (by omega), wrap64_in (by omega) (by omega)]
        have ht := tmod_range (n := n) hb.1 (by omega)
        exact ⟨_, rfl, ht.1, fun _ => ht.2, fun x => absurd x hn⟩
      · have t1 := tmod_range (x := p) (n := (s.length : Int)) hp (by omega)
        have t2 := tmod_range (x := p * 7 + 3) (n := (s.length : Int)) (by omega) (by omega)
        rw [if_neg h1, if_neg hl, if_pos t1.1, if_pos t1.2, wrap64_in (n := p * 7) (by omega) (by omega), wrap64_in (n := p * 7 + 3) (by omega) (by omega), if_pos t2.1, if_pos t2.2, if_neg (by omega)]
        have b1 := rd_bd hs (Int.tmod p (s.length : Int))
        have b2 := rd_bd hs (Int.tmod (p * 7 + 3) (s.length : Int))
        generalize rd s (Int.tmod p (s.length : Int)) = r1 at *
        generalize rd s (Int.tmod (p * 7 + 3) (s.length : Int)) = r2 at *
        have q1 : 0 ≤ Int.tdiv p (s.length : Int) ∧ Int.tdiv p (s.length : Int) ≤ p := by
          obtain ⟨a, rfl⟩ := Int.eq_ofNat_of_zero_le hp
          rw [Int.tdiv_eq_ediv_of_nonneg (by omega), ← Int.natCast_ediv]
          have := Nat.div_le_self a s.length
          exact ⟨Int.natCast_nonneg _, by exact_mod_cast this⟩
        generalize Int.tdiv p (s.length : Int) = q at *
        rw [wrap64_in (n := r1) (by omega) (by omega), wrap64_in (n := r1 * 131) (by omega) (by omega), wrap64_in (n := r2) (by omega) (by omega), wrap64_in (n := r2 * 1117) (by omega) (by omega), wrap64_in (n := r1 * 131 + r2 * 1117) (by omega) (by omega), wrap64_in (n := p * 29) (by omega) (by omega), wrap64_in (n := q) (by omega) (by omega), wrap64_in (n := q * 53) (by omega) (by omega), wrap64_in (n := r1 * 131 + r2 * 1117 + p * 29) (by omega) (by omega), wrap64_in (n := r1 * 131 + r2 * 1117 + p * 29 + q * 53) (by omega) (by omega)]
        generalize hX : r1 * 131 + r2 * 1117 + p * 29 + q * 53 = X
        have hX0 : 0 ≤ X := by omega
        have hX1 : X ≤ 1000000000 := by omega
        have d1 : 0 ≤ Int.tdiv X 64 ∧ Int.tdiv X 64 ≤ X := by
          rw [Int.tdiv_eq_ediv_of_nonneg hX0]; omega
        rw [wrap64_in (n := Int.tdiv X 64) (by omega) (by omega)]
        have hx := xor_nonneg (x := X) (y := Int.tdiv X 64) hX0 (by omega) d1.1 (by omega)
        have ht := tmod_range (n := n) hx (by omega)
        exact ⟨_, rfl, ht.1, fun _ => ht.2, fun x => absurd x hn⟩

-- open
theorem u8_of_wf {n : Int} (h : (Lit.int .u8 n).wf = true) : 0 ≤ n ∧ n ≤ 255 := by
  simpa [Lit.wf, IntKind.min, IntKind.max, IntKind.signed, IntKind.bits] using h
theorem open_f {l : List Int} (h : ∀ x ∈ l, (Lit.int .u8 x).wf = true) : ∃ s, spec_l20Open.f l = some (s, 0) ∧ RdOk s := by
  unfold spec_l20Open.f
  by_cases hl : (l.length : Int) > 2000
  · rw [if_pos hl, if_pos (by omega)]
    exact ⟨_, rfl, by rw [List.length_take]; omega, fun x hx => u8_of_wf (h x (List.mem_of_mem_take hx))⟩
  · rw [if_neg hl]
    exact ⟨_, rfl, by omega, fun x hx => u8_of_wf (h x hx)⟩

-- odd
theorem odd_f {s : List Int} {p : Int} (n : Int) {k : Nat} (hs : RdOk s) (hp : 0 ≤ p) (hp' : p ≤ 1000000) (hk : 1 ≤ k) :
    ∃ v q, spec_l20Rd_odd.f k s p n = some (v, q) ∧ p ≤ q ∧ q ≤ p + 1 := by
  unfold spec_l20Rd_odd.f
  by_cases h : n > 0
  · rw [if_pos h]
    obtain ⟨v, hv, _⟩ := pick_f n hs hp hp' hk
    rw [hv]; simp only [Option.bind_some]
    exact ⟨_, _, rfl, by omega, by omega⟩
  · rw [if_neg h]; exact ⟨_, _, rfl, by omega, by omega⟩

-- frac
/-- A fraction in lowest terms, as FractionOk tells it. -/
def Frac (a b : Int) : Prop := (-1000000 ≤ a ∧ a ≤ 1000000) ∧ (0 ≤ b ∧ b ≤ 1000000) ∧ Int.gcd a b = 1 ∧ (b = 0 → a = 1)
instance (a b : Int) : Decidable (Frac a b) := by unfold Frac; infer_instance

-- lowmath
/-- Two numbers in lowest terms. -/
def lowv (a b : Int) : Int × Int := if b < 0 ∨ (b = 0 ∧ a < 0) then (Int.tdiv a (-(Int.gcd a b : Int)), Int.tdiv b (-(Int.gcd a b : Int))) else (Int.tdiv a (Int.gcd a b : Int), Int.tdiv b (Int.gcd a b : Int))
theorem gcd_ne {a b : Int} (h : ¬ (a = 0 ∧ b = 0)) : Int.gcd a b ≠ 0 := by
  intro x; rw [Int.gcd_eq_zero_iff] at x; exact h x
theorem tdiv_wrap {a g : Int} (h : a.natAbs ≤ 9223372036854775807) : wrap64 (Int.tdiv a g) = Int.tdiv a g := by
  have := Nat.div_le_self a.natAbs g.natAbs
  have e : (Int.tdiv a g).natAbs = a.natAbs / g.natAbs := Int.natAbs_tdiv a g
  rw [← e] at this
  exact wrap64_in (by omega) (by omega)
theorem gcd_le_abs {a b : Int} (h : ¬ (a = 0 ∧ b = 0)) : (Int.gcd a b) ≤ a.natAbs + b.natAbs := by
  by_cases ha : a = 0
  · subst ha; rw [Int.gcd_zero_left]; omega
  · have := Int.gcd_le_natAbs_left (b := b) ha; omega

-- lowestof
/-- What LowestOf answers. -/
def LowOk (a b : Int) : Prop := (-1000000 ≤ a ∧ a ≤ 1000000) ∧ (-1000000 ≤ b ∧ b ≤ 1000000) ∧ ¬ (a = 0 ∧ b = 0)
instance (a b : Int) : Decidable (LowOk a b) := by unfold LowOk; infer_instance
def lowofv (a b : Int) : Int × Int × Bool := if LowOk a b then ((lowv a b).1, (lowv a b).2, true) else (0, 0, false)

-- spec_l1Common
theorem spec_l1Common_l0 (n : Nat) : ∀ (a b : Int), b.natAbs ≤ n → 0 ≤ a → 0 ≤ b → ∀ k, n < k → spec_l1Common.l0 k a b = some (Int.gcd a b : Int) := by
  induction n with
  | zero =>
    intro a b hb ha _ k hk
    obtain ⟨k, rfl⟩ : ∃ m, k = m + 1 := ⟨k - 1, by omega⟩
    obtain rfl : b = 0 := by omega
    simp only [spec_l1Common.l0]
    rw [if_neg (by omega), Int.gcd_zero_right]
    congr 1; omega
  | succ n ih =>
    intro a b hb ha hb' k hk
    obtain ⟨k, rfl⟩ : ∃ m, k = m + 1 := ⟨k - 1, by omega⟩
    simp only [spec_l1Common.l0]
    by_cases h : b = 0
    · subst h; rw [if_neg (by omega), Int.gcd_zero_right]; congr 1; omega
    · have := natAbs_tmod_lt a h
      rw [if_pos (by omega), if_neg h, ih b (Int.tmod a b) (by omega) hb' (Int.tmod_nonneg _ ha) k (by omega), gcd_tmod]
theorem spec_l1Common_f {a b : Int} {k : Nat} (ha : a.natAbs ≤ 9223372036854775807) (hb : b.natAbs ≤ 9223372036854775807) (hk : b.natAbs < k) : spec_l1Common.f k a b = some (Int.gcd a b : Int) := by
  unfold spec_l1Common.f
  rw [mx_abs (by omega) (by omega), mx_abs (by omega) (by omega), spec_l1Common_l0 b.natAbs _ _ (by omega) (by omega) (by omega) k hk]
  rfl

-- spec_l1In
theorem spec_l1In_f (a b c : Int) : spec_l1In.f a b c = some (decide (b ≤ a ∧ a ≤ c)) := by
  unfold spec_l1In.f
  by_cases h : b ≤ a
  · rw [if_pos h]; exact dec_iff ⟨fun x => ⟨h, x⟩, fun x => x.2⟩
  · rw [if_neg h]; exact (dec_false (fun x => h x.1)).symm

-- spec_LowestOf
theorem spec_LowestOf_f (a b : Int) {k : Nat} (hk : 1000002 ≤ k) : spec_LowestOf.f k a b = some (lowofv a b) := by
  obtain ⟨k, rfl⟩ : ∃ m, k = m + 1 := ⟨k - 1, by omega⟩
  unfold spec_LowestOf.f
  simp only [spec_l1In_f, Option.bind_some, decide_eq_true_eq]
  unfold lowofv
  by_cases h : LowOk a b
  · rw [if_pos h.1, if_pos h.2.1, if_pos h]
    have e : (if a = 0 then spec_LowestOf.j0 (k + 1) a b (b == 0) else spec_LowestOf.j0 (k + 1) a b false) = spec_LowestOf.j0 (k + 1) a b false := by
      by_cases h3 : a = 0
      · rw [if_pos h3, show (b == 0) = false from by simp; exact fun x => h.2.2 ⟨h3, x⟩]
      · rw [if_neg h3]
    rw [e]
    have h1 := h.1
    have h2 := h.2.1
    simp only [spec_LowestOf.j0]
    rw [if_neg (by decide), spec_l1Common_f (by omega) (by omega) (by omega)]; simp only [Option.bind_some]
    have hg := gcd_ne h.2.2
    have hl := gcd_le_abs h.2.2
    rw [wrap64_in (n := -((Int.gcd a b : Nat) : Int)) (by omega) (by omega)]
    unfold lowv
    by_cases h1 : b < 0
    · rw [if_pos h1, if_neg (by omega), if_pos (.inl h1), tdiv_wrap (by omega), tdiv_wrap (by omega)]
    · rw [if_neg h1]
      by_cases h2 : b = 0
      · rw [if_pos h2]
        by_cases h3 : a < 0
        · rw [if_pos h3, if_neg (by omega), if_pos (.inr ⟨h2, h3⟩), tdiv_wrap (by omega), tdiv_wrap (by omega)]
        · rw [if_neg h3, if_neg (by omega), if_neg (by omega), tdiv_wrap (by omega), tdiv_wrap (by omega)]
      · rw [if_neg h2, if_neg (by omega), if_neg (by omega), tdiv_wrap (by omega), tdiv_wrap (by omega)]
  · rw [if_neg h]
    have e : spec_LowestOf.j0 (k + 1) a b true = some (0, 0, false) := by simp only [spec_LowestOf.j0]; rw [if_pos trivial]
    by_cases h1 : -1000000 ≤ a ∧ a ≤ 1000000
    · rw [if_pos h1]
      by_cases h2 : -1000000 ≤ b ∧ b ≤ 1000000
      · rw [if_pos h2]
        have h3 : a = 0 ∧ b = 0 := by
          by_cases x : a = 0 ∧ b = 0
          · exact x
          · exact absurd ⟨h1, h2, x⟩ h
        rw [if_pos h3.1, h3.2]
        rw [h3.2] at e
        exact e
      · rw [if_neg h2, e]
    · rw [if_neg h1, e]

-- lowbd
theorem lowofv_bd (a b : Int) : (lowofv a b).1.natAbs ≤ 1000000 ∧ (lowofv a b).2.1.natAbs ≤ 1000000 := by
  unfold lowofv
  by_cases h : LowOk a b
  · rw [if_pos h]
    have h1 := h.1
    have h2 := h.2.1
    have key : ∀ (x g : Int), x.natAbs ≤ 1000000 → (Int.tdiv x g).natAbs ≤ 1000000 := by
      intro x g hx
      have := Nat.div_le_self x.natAbs g.natAbs
      have e : (Int.tdiv x g).natAbs = x.natAbs / g.natAbs := Int.natAbs_tdiv x g
      omega
    unfold lowv
    split
    · exact ⟨key _ _ (by omega), key _ _ (by omega)⟩
    · exact ⟨key _ _ (by omega), key _ _ (by omega)⟩
  · rw [if_neg h]; simp

-- drawfrac
/-- Numbers of a drawn fraction. -/
def Drawn2 (a b : Int) : Prop := a.natAbs ≤ 1000001 ∧ b.natAbs ≤ 1000001
theorem l20Fraction_f {s : List Int} {p : Int} (n : Int) {k : Nat} (hs : RdOk s) (hp : 0 ≤ p) (hp' : p ≤ 900000) (hk : 1000003 ≤ k) :
    ∃ a b q, spec_l20Fraction.f k s p n = some (a, b, q) ∧ Drawn2 a b ∧ p ≤ q ∧ q ≤ p + 6 := by
  obtain ⟨k, rfl⟩ : ∃ m, k = m + 1 := ⟨k - 1, by omega⟩
  unfold spec_l20Fraction.f
  simp only [Option.bind_some]
  obtain ⟨v, hv, v0, v1, _⟩ := pick_f (k := k + 1) 4 hs hp (by omega) (by omega)
  have v1 := v1 (by omega)
  rw [hv]; simp only [Option.bind_some]
  rw [if_pos v0, if_pos (by simpa using v1)]
  have hm : 4 ≤ rd ([4, 10, 50, 1000] : List Int) v ∧ rd ([4, 10, 50, 1000] : List Int) v ≤ 1000 := by
    obtain ⟨m, rfl⟩ := Int.eq_ofNat_of_zero_le v0
    have : m = 0 ∨ m = 1 ∨ m = 2 ∨ m = 3 := by omega
    rcases this with rfl | rfl | rfl | rfl <;> decide
  generalize rd ([4, 10, 50, 1000] : List Int) v = m at *
  obtain ⟨x, hx, x0, x1, _⟩ := pick_f (k := k + 1) (p := p + 1) m hs (by omega) (by omega) (by omega)
  rw [hx]; simp only [Option.bind_some]
  obtain ⟨y, hy, y0, y1, _⟩ := pick_f (k := k + 1) (p := p + 1 + 1) m hs (by omega) (by omega) (by omega)
  rw [hy]; simp only [Option.bind_some]
  obtain ⟨z, hz, z0, z1, _⟩ := pick_f (k := k + 1) (p := p + 1 + 1 + 1) m hs (by omega) (by omega) (by omega)
  rw [hz]; simp only [Option.bind_some]
  rw [spec_LowestOf_f _ _ (by omega)]; simp only [Option.bind_some]
  have hj : ∀ a b, Drawn2 a b → ∃ a' b' q, spec_l20Fraction.j0 (k + 1) n s (p + 1 + 1 + 1 + 1) a b = some (a', b', q) ∧ Drawn2 a' b' ∧ p ≤ q ∧ q ≤ p + 6 := by
    intro a b hab
    simp only [spec_l20Fraction.j0]
    obtain ⟨o, q, ho, q0, q1⟩ := odd_f (k := k) (p := p + 1 + 1 + 1 + 1) n hs (by omega) (by omega) (by omega)
    rw [ho]; simp only [Option.bind_some]
    by_cases hc : o = true
    · rw [if_pos hc]
      obtain ⟨w, hw, w0, w1, _⟩ := pick_f (k := k) (p := q) 5 hs (by omega) (by omega) (by omega)
      have w1 := w1 (by omega)
      rw [hw]; simp only [Option.bind_some]
      rw [if_pos w0, if_pos (by simpa using w1)]
      refine ⟨_, _, _, rfl, ?_, by omega, by omega⟩
      obtain ⟨m, rfl⟩ := Int.eq_ofNat_of_zero_le w0
      have : m = 0 ∨ m = 1 ∨ m = 2 ∨ m = 3 ∨ m = 4 := by omega
      rcases this with rfl | rfl | rfl | rfl | rfl <;> (unfold Drawn2; decide)
    · rw [if_neg hc]; exact ⟨_, _, _, rfl, hab, by omega, by omega⟩
  have hb := lowofv_bd (wrap64 (x - y)) z
  split
  · exact hj _ _ ⟨by omega, by omega⟩
  · exact hj _ _ ⟨by omega, by omega⟩

-- linkofmath
/-- What LinkOf answers. -/
def linkofv (a b : Int) : Int × Int × Bool :=
  if Frac a b ∧ (-60 ≤ a ∧ a ≤ 60) then
    if a = 0 then (0, 1, true) else if a < 0 then ((a.natAbs : Int), ((a.natAbs : Int) - b % a.natAbs) % a.natAbs, true) else (a, b % a, true)
  else (0, 0, false)
theorem linkof_value {a b : Int} (h : Frac a b) (ha : -60 ≤ a ∧ a ≤ 60) (h0 : a ≠ 0) :
    (if (mx a (wrap64 (-a))) = 0 then (none : Option (Int × Int × Bool)) else (if a < 0 then (some (mx a (wrap64 (-a)), Int.tmod (wrap64 ((mx a (wrap64 (-a))) - (Int.tmod b (mx a (wrap64 (-a)))))) (mx a (wrap64 (-a))), true)) else (some (mx a (wrap64 (-a)), Int.tmod b (mx a (wrap64 (-a))), true))))
      = some (linkofv a b) := by
  unfold linkofv
  rw [if_pos (show Frac a b ∧ (-60 ≤ a ∧ a ≤ 60) from ⟨h, ha⟩), mx_abs (by omega) (by omega), if_neg h0, if_neg (by omega)]
  have hb := h.2.1
  have e1 : Int.tmod b (a.natAbs : Int) = b % (a.natAbs : Int) := Int.tmod_eq_emod_of_nonneg (by omega)
  have r1 := Int.emod_nonneg b (show ((a.natAbs : Nat) : Int) ≠ 0 by omega)
  have r2 := Int.emod_lt_of_pos b (show (0 : Int) < (a.natAbs : Int) by omega)
  rw [e1]
  by_cases hn : a < 0
  · rw [if_pos hn, if_pos hn, wrap64_in (by omega) (by omega), Int.tmod_eq_emod_of_nonneg (by omega)]
  · rw [if_neg hn, if_neg hn]
    have : ((a.natAbs : Nat) : Int) = a := by omega
    rw [this]

-- impl_isPart
theorem impl_isPart_f (a : Int) : impl_isPart.f a = some (decide (-1000000 ≤ a ∧ a ≤ 1000000)) := by
  unfold impl_isPart.f
  by_cases h : -1000000 ≤ a
  · rw [if_pos h]; exact dec_iff ⟨fun x => ⟨h, x⟩, fun x => x.2⟩
  · rw [if_neg h]; exact (dec_false (fun x => h x.1)).symm

-- impl_gcd
theorem impl_gcd_l0 (n : Nat) : ∀ (a b : Int), b.natAbs ≤ n → a.natAbs ≤ 9223372036854775807 → b.natAbs ≤ 9223372036854775807 → ∀ k, n < k → impl_gcd.l0 k a b = some (Int.gcd a b : Int) := by
  induction n with
  | zero =>
    intro a b hb ha _ k hk
    obtain ⟨k, rfl⟩ : ∃ m, k = m + 1 := ⟨k - 1, by omega⟩
    obtain rfl : b = 0 := by omega
    simp only [impl_gcd.l0]
    rw [if_pos trivial, mx_abs (by omega) (by omega), Int.gcd_zero_right]
  | succ n ih =>
    intro a b hb ha hb' k hk
    obtain ⟨k, rfl⟩ : ∃ m, k = m + 1 := ⟨k - 1, by omega⟩
    simp only [impl_gcd.l0]
    by_cases h : b = 0
    · subst h; rw [if_pos rfl, mx_abs (by omega) (by omega), Int.gcd_zero_right]
    · have := natAbs_tmod_lt a h
      rw [if_neg h, ih b (Int.tmod a b) (by omega) hb' (by omega) k (by omega), gcd_tmod]
theorem impl_gcd_f {a b : Int} {k : Nat} (ha : a.natAbs ≤ 9223372036854775807) (hb : b.natAbs ≤ 9223372036854775807) (hk : b.natAbs < k) : impl_gcd.f k a b = some (Int.gcd a b : Int) :=
  impl_gcd_l0 b.natAbs a b (Nat.le_refl _) ha hb k hk

-- impl_isFraction
theorem impl_isFraction_f (a b : Int) {k : Nat} (hk : 1000001 ≤ k) : impl_isFraction.f k a b = some (decide (Frac a b)) := by
  unfold impl_isFraction.f
  rw [impl_isPart_f]; simp only [Option.bind_some, decide_eq_true_eq]
  by_cases h1 : -1000000 ≤ a ∧ a ≤ 1000000
  · rw [if_pos h1]
    by_cases h2 : b < 0
    · rw [if_pos h2]; exact (dec_false (fun x => by have := x.2.1; omega)).symm
    · rw [if_neg h2]
      by_cases h2' : b > 1000000
      · rw [if_pos h2']; exact (dec_false (fun x => by have := x.2.1; omega)).symm
      · rw [if_neg h2', impl_gcd_f (by omega) (by omega) (by omega)]; simp only [Option.bind_some]
        have hb : (((Int.gcd a b : Nat) : Int) == 1) = decide (Int.gcd a b = 1) := by
          rw [Bool.eq_iff_iff]; simp; omega
        rw [hb]
        by_cases h4 : b = 0
        · rw [if_pos h4]
          by_cases h5 : a = 1
          · rw [if_pos h5]; exact dec_iff ⟨fun h => ⟨h1, by omega, h, fun _ => h5⟩, fun h => h.2.2.1⟩
          · rw [if_neg h5]; exact (dec_false (fun x => h5 (x.2.2.2 h4))).symm
        · rw [if_neg h4]; exact dec_iff ⟨fun h => ⟨h1, by omega, h, fun h' => absurd h' h4⟩, fun h => h.2.2.1⟩
  · rw [if_neg h1]; exact (dec_false (fun x => h1 x.1)).symm

-- impl_linkOf
theorem impl_linkOf_f (a b : Int) {k : Nat} (hk : 1000002 ≤ k) : impl_linkOf.f k a b = some (linkofv a b) := by
  obtain ⟨k, rfl⟩ : ∃ m, k = m + 1 := ⟨k - 1, by omega⟩
  unfold impl_linkOf.f
  rw [impl_isFraction_f _ _ (by omega)]; simp only [Option.bind_some, decide_eq_true_eq]
  have no : ¬ (Frac a b ∧ (-60 ≤ a ∧ a ≤ 60)) → impl_linkOf.j0 (k + 1) true a b = some (linkofv a b) := by
    intro h; simp only [impl_linkOf.j0]; rw [if_pos trivial]; unfold linkofv; rw [if_neg h]
  by_cases h : Frac a b
  · rw [if_pos h]
    by_cases h1 : a < -60
    · rw [if_pos h1]; exact no (fun x => by omega)
    · rw [if_neg h1]
      by_cases h2 : a > 60
      · rw [decide_eq_true h2]; exact no (fun x => by omega)
      · rw [decide_eq_false h2]; simp only [impl_linkOf.j0]; rw [if_neg (by decide)]
        by_cases h0 : a = 0
        · rw [if_pos h0]; unfold linkofv; rw [if_pos ⟨h, by omega⟩, if_pos h0]
        · rw [if_neg h0]; exact linkof_value h (by omega) h0
  · rw [if_neg h]; exact no (fun x => h x.1)

-- spec_FractionOk
theorem spec_FractionOk_f (a b : Int) {k : Nat} (hk : 1000001 ≤ k) : spec_FractionOk.f k a b = some (decide (Frac a b)) := by
  unfold spec_FractionOk.f
  rw [spec_l1In_f]; simp only [Option.bind_some, decide_eq_true_eq]
  by_cases h1 : -1000000 ≤ a ∧ a ≤ 1000000
  · rw [if_pos h1, spec_l1In_f]; simp only [Option.bind_some, decide_eq_true_eq]
    by_cases h2 : 0 ≤ b ∧ b ≤ 1000000
    · rw [if_pos h2, spec_l1Common_f (by omega) (by omega) (by omega)]; simp only [Option.bind_some]
      by_cases h3 : Int.gcd a b = 1
      · rw [if_pos (by omega)]
        by_cases h4 : b > 0
        · rw [if_pos h4]; exact (dec_true ⟨h1, h2, h3, by omega⟩).symm
        · rw [if_neg h4]
          by_cases h5 : a = 1
          · rw [(dec_true ⟨h1, h2, h3, fun _ => h5⟩ : some (decide (Frac a b)) = _)]; simp [h5]
          · rw [(dec_false (fun x => h5 (x.2.2.2 (by omega))) : some (decide (Frac a b)) = _)]; simp [h5]
      · rw [if_neg (by omega)]; exact (dec_false (fun x => h3 x.2.2.1)).symm
    · rw [if_neg h2]; exact (dec_false (fun x => h2 x.2.1)).symm
  · rw [if_neg h1]; exact (dec_false (fun x => h1 x.1)).symm

-- spec_LinkOf
theorem spec_LinkOf_f (a b : Int) {k : Nat} (hk : 1000002 ≤ k) : spec_LinkOf.f k a b = some (linkofv a b) := by
  obtain ⟨k, rfl⟩ : ∃ m, k = m + 1 := ⟨k - 1, by omega⟩
  unfold spec_LinkOf.f
  rw [spec_FractionOk_f _ _ (by omega)]; simp only [spec_l1In_f, Option.bind_some, decide_eq_true_eq]
  have no : ¬ (Frac a b ∧ (-60 ≤ a ∧ a ≤ 60)) → spec_LinkOf.j0 (k + 1) true a b = some (linkofv a b) := by
    intro h; simp only [spec_LinkOf.j0]; rw [if_pos trivial]; unfold linkofv; rw [if_neg h]
  by_cases h : Frac a b
  · rw [if_pos h]
    by_cases h2 : -60 ≤ a ∧ a ≤ 60
    · rw [decide_eq_true h2]; simp only [spec_LinkOf.j0]; rw [if_neg (by decide)]
      by_cases h0 : a = 0
      · rw [if_pos h0]; unfold linkofv; rw [if_pos ⟨h, by omega⟩, if_pos h0]
      · rw [if_neg h0]; exact linkof_value h (by omega) h0
    · rw [decide_eq_false h2]; exact no (fun x => h2 x.2)
  · rw [if_neg h]; exact no (fun x => h x.1)

-- mirmath
theorem gcd_neg_left (a b : Int) : Int.gcd (-a) b = Int.gcd a b := by simp
theorem lowv_coprime {a b : Int} (h : Int.gcd a b = 1) : lowv a b = if b < 0 ∨ (b = 0 ∧ a < 0) then (-a, -b) else (a, b) := by
  unfold lowv; rw [h]; split <;> simp
/-- The fraction with the other sign. -/
def mirv (a b : Int) : Int × Int := if b > 0 then (-a, b) else (a, b)
theorem mir_frac {a b : Int} (h : Frac a b) : Frac (mirv a b).1 (mirv a b).2 := by
  unfold mirv; split
  · refine ⟨by have := h.1; simp; omega, h.2.1, by simpa using h.2.2.1, fun x => by omega⟩
  · exact h
theorem mir_low {a b : Int} (h : Frac a b) : lowofv (-a) b = ((mirv a b).1, (mirv a b).2, true) := by
  have h1 := h.1
  have h2 := h.2.1
  have hg := h.2.2.1
  have hz := h.2.2.2
  unfold lowofv
  rw [if_pos ⟨by omega, by omega, by omega⟩, lowv_coprime (by rw [gcd_neg_left]; exact hg)]
  unfold mirv
  by_cases hb : b > 0
  · rw [if_neg (by omega), if_pos hb]
  · have : b = 0 := by omega
    have := hz this
    rw [if_pos (by omega), if_neg hb]
    subst this; subst b; rfl

-- overmath
/-- A fraction turned over, with the other sign. -/
def overv (a b : Int) : Int × Int := if a ≤ 0 then (b, -a) else (-b, a)
theorem frac_zero {b : Int} (h : Frac 0 b) : b = 1 := by
  have h2 := h.2.1
  have h3 := h.2.2.1
  rw [Int.gcd_zero_left] at h3
  omega
theorem over_frac {a b : Int} (h : Frac a b) : Frac (overv a b).1 (overv a b).2 := by
  have h1 := h.1
  have h2 := h.2.1
  have h3 := h.2.2.1
  have h4 := h.2.2.2
  unfold overv
  split
  · refine ⟨by simp only; omega, by simp only; omega, by simp only; rw [Int.gcd_comm]; simpa using h3, ?_⟩
    simp only
    intro x
    obtain rfl : a = 0 := by omega
    exact frac_zero h
  · refine ⟨by simp only; omega, by simp only; omega, by simp only; rw [Int.gcd_comm]; simpa using h3, ?_⟩
    simp only
    intro x
    omega
theorem over_low {a b : Int} (h : Frac a b) : lowv (-b) a = overv a b := by
  have h2 := h.2.1
  have h3 := h.2.2.1
  have h4 := h.2.2.2
  rw [lowv_coprime (by rw [gcd_neg_left, Int.gcd_comm]; exact h3)]
  unfold overv
  by_cases h0 : a = 0
  · subst h0
    have := frac_zero h
    subst this
    decide
  · by_cases hn : a ≤ 0
    · rw [if_pos (by omega), if_pos hn]; simp
    · rw [if_neg (by omega), if_neg hn]
theorem over_lowof {a b : Int} (h : Frac a b) : lowofv (-b) a = ((overv a b).1, (overv a b).2, true) := by
  have h1 := h.1
  have h2 := h.2.1
  have h4 := h.2.2.2
  unfold lowofv
  rw [if_pos ⟨by omega, by omega, by omega⟩, over_low h]
theorem over_over {a b : Int} (h : Frac a b) : overv (overv a b).1 (overv a b).2 = (a, b) := by
  have h2 := h.2.1
  have h4 := h.2.2.2
  unfold overv
  by_cases hn : a ≤ 0
  · rw [if_pos hn]; simp only
    by_cases hb : b ≤ 0
    · exfalso; have := h4 (by omega); omega
    · rw [if_neg hb]; simp
  · rw [if_neg hn]; simp only; rw [if_pos (by omega)]; simp

-- impl_lowest
theorem impl_lowest_f {a b : Int} {k : Nat} (h : ¬ (a = 0 ∧ b = 0)) (ha : a.natAbs ≤ 1000000) (hb : b.natAbs ≤ 1000000) (hk : 1000001 ≤ k) : impl_lowest.f k a b = some (lowv a b) := by
  unfold impl_lowest.f
  rw [impl_gcd_f (by omega) (by omega) (by omega)]; simp only [Option.bind_some]
  have hg := gcd_ne h
  have hl := gcd_le_abs h
  rw [wrap64_in (n := -((Int.gcd a b : Nat) : Int)) (by omega) (by omega)]
  unfold lowv
  by_cases h1 : b < 0
  · rw [if_pos h1, if_neg (by omega), if_pos (.inl h1), tdiv_wrap (by omega), tdiv_wrap (by omega)]
  · rw [if_neg h1]
    by_cases h2 : b = 0
    · rw [if_pos h2]
      by_cases h3 : a < 0
      · rw [if_pos h3, if_neg (by omega), if_pos (.inr ⟨h2, h3⟩), tdiv_wrap (by omega), tdiv_wrap (by omega)]
      · rw [if_neg h3, if_neg (by omega), if_neg (by omega), tdiv_wrap (by omega), tdiv_wrap (by omega)]
    · rw [if_neg h2, if_neg (by omega), if_neg (by omega), tdiv_wrap (by omega), tdiv_wrap (by omega)]

-- impl_OverOf
theorem impl_OverOf_f (a b : Int) {k : Nat} (hk : 1000001 ≤ k) : impl_OverOf.f k a b = some (if Frac a b then overv a b else (0, 0)) := by
  unfold impl_OverOf.f
  rw [impl_isFraction_f _ _ hk]; simp only [Option.bind_some, decide_eq_true_eq]
  by_cases h : Frac a b
  · have h1 := h.1
    have h2 := h.2.1
    have h4 := h.2.2.2
    rw [if_pos h, if_pos h, wrap64_in (by omega) (by omega), impl_lowest_f (by omega) (by omega) (by omega) hk, over_low h]; rfl
  · rw [if_neg h, if_neg h]

-- small
def Small (a b m : Int) : Prop := Frac a b ∧ (-m ≤ a ∧ a ≤ m) ∧ b ≤ m
instance (a b m : Int) : Decidable (Small a b m) := by unfold Small; infer_instance

-- nummath
theorem mul_bd {a b : Int} {m n : Nat} (h : a.natAbs ≤ m) (h' : b.natAbs ≤ n) : (a * b).natAbs ≤ m * n := by
  rw [Int.natAbs_mul]; exact Nat.mul_le_mul h h'
/-- NumberOf of two fractions. -/
def numv (a b c d : Int) : Int := if Small a b 1000 ∧ Small c d 1000 then (((a * d + c * b).natAbs : Nat) : Int) else -1
theorem num_value {a b c d : Int} (h : Small a b 1000) (h' : Small c d 1000) :
    mx (wrap64 ((wrap64 (a * d)) + (wrap64 (c * b)))) (wrap64 (-(wrap64 ((wrap64 (a * d)) + (wrap64 (c * b)))))) = (((a * d + c * b).natAbs : Nat) : Int) := by
  have h1 := mul_bd (a := a) (b := d) (m := 1000) (n := 1000) (by have := h.2.1; omega) (by have := h'.1.2.1; have := h'.2.2; omega)
  have h2 := mul_bd (a := c) (b := b) (m := 1000) (n := 1000) (by have := h'.2.1; omega) (by have := h.1.2.1; have := h.2.2; omega)
  rw [wrap64_in (n := a * d) (by omega) (by omega), wrap64_in (n := c * b) (by omega) (by omega), wrap64_in (n := a * d + c * b) (by omega) (by omega), mx_abs (by omega) (by omega)]

-- plusmath
def plusv (a b n : Int) : Int × Int × Bool := if Frac (a + n * b) b then (a + n * b, b, true) else (0, 0, false)
theorem plus_wrap {a b n : Int} (h : Frac a b) (hn : -1000000 ≤ n ∧ n ≤ 1000000) : wrap64 (a + wrap64 (n * b)) = a + n * b := by
  have h1 := mul_bd (a := n) (b := b) (m := 1000000) (n := 1000000) (by omega) (by have := h.2.1; omega)
  have h2 := h.1
  rw [wrap64_in (n := n * b) (by omega) (by omega), wrap64_in (by omega) (by omega)]

-- impl_plus
theorem impl_plus_f {a b n : Int} {k : Nat} (hk : 1000001 ≤ k) (h : Frac a b) (hn : -1000000 ≤ n ∧ n ≤ 1000000) : impl_plus.f k a b n = some (plusv a b n) := by
  unfold impl_plus.f
  rw [plus_wrap h hn, impl_isFraction_f _ _ hk]; simp only [Option.bind_some, decide_eq_true_eq]
  unfold plusv; split <;> rfl

-- impl_PlusOf
theorem impl_PlusOf_f (a b n : Int) {k : Nat} (hk : 1000001 ≤ k) : impl_PlusOf.f k a b n = some (if Frac a b ∧ (-1000000 ≤ n ∧ n ≤ 1000000) then plusv a b n else (0, 0, false)) := by
  unfold impl_PlusOf.f
  simp only [impl_isFraction_f _ _ hk, impl_isPart_f, Option.bind_some, decide_eq_true_eq]
  by_cases h : Frac a b
  · rw [if_pos h]
    by_cases hn : -1000000 ≤ n ∧ n ≤ 1000000
    · rw [if_pos hn, impl_plus_f hk h hn, if_pos ⟨h, hn⟩]; rfl
    · rw [if_neg hn, if_neg (fun x => hn x.2)]
  · rw [if_neg h, if_neg (fun x => h x.1)]

-- link
/-- A link as LinkOk tells it. -/
def LinkP (a b : Int) : Prop := (a = 0 ∧ b = 1) ∨ (a = 1 ∧ b = 0) ∨ ((2 ≤ a ∧ a ≤ 60) ∧ (1 ≤ b ∧ b < a) ∧ Int.gcd a b = 1)
instance (a b : Int) : Decidable (LinkP a b) := by unfold LinkP; infer_instance
theorem linkP_zero (b : Int) : LinkP 0 b ↔ b = 1 := by unfold LinkP; omega
theorem linkP_one (b : Int) : LinkP 1 b ↔ b = 0 := by unfold LinkP; omega
theorem linkP_more {a b : Int} (h : a ≠ 0) (h' : a ≠ 1) : LinkP a b ↔ ((2 ≤ a ∧ a ≤ 60) ∧ (1 ≤ b ∧ b < a) ∧ Int.gcd a b = 1) := by
  unfold LinkP; constructor
  · rintro (x | x | x)
    · exact absurd x.1 h
    · exact absurd x.1 h'
    · exact x
  · exact fun x => .inr (.inr x)
theorem linkP_range {a b : Int} (h : LinkP a b) : 0 ≤ a ∧ a ≤ 60 ∧ 0 ≤ b ∧ b ≤ 59 := by
  unfold LinkP at h; omega
theorem gcd_beq (a b : Int) : (((Int.gcd a b : Nat) : Int) == 1) = decide (Int.gcd a b = 1) := by
  rw [Bool.eq_iff_iff]; simp; omega

-- impl_isLink
theorem impl_isLink_f (a b : Int) {k : Nat} (hk : 1000 ≤ k) : impl_isLink.f k a b = some (decide (LinkP a b)) := by
  obtain ⟨k, rfl⟩ : ∃ m, k = m + 1 := ⟨k - 1, by omega⟩
  unfold impl_isLink.f
  by_cases h0 : a < 0
  · rw [if_pos h0]; simp only [impl_isLink.j0]; rw [if_pos trivial]
    exact (dec_false (fun x => by have := linkP_range x; omega)).symm
  · rw [if_neg h0]; simp only [impl_isLink.j0, decide_eq_true_eq]
    by_cases h1 : a > 60
    · rw [if_pos h1]; exact (dec_false (fun x => by have := linkP_range x; omega)).symm
    · rw [if_neg h1]
      by_cases h2 : a = 0
      · rw [if_pos h2]; subst h2; exact dec_iff (linkP_zero b).symm
      · rw [if_neg h2]
        by_cases h3 : a = 1
        · rw [if_pos h3]; subst h3; exact dec_iff (linkP_one b).symm
        · rw [if_neg h3]
          by_cases h4 : b ≥ 1
          · rw [if_pos h4]
            by_cases h5 : b < a
            · rw [if_pos h5, impl_gcd_f (by omega) (by omega) (by omega)]; simp only [Option.bind_some, gcd_beq]
              exact dec_iff ⟨fun x => (linkP_more h2 h3).2 ⟨by omega, by omega, x⟩, fun x => ((linkP_more h2 h3).1 x).2.2⟩
            · rw [if_neg h5]; exact (dec_false (fun x => by have := (linkP_more h2 h3).1 x; omega)).symm
          · rw [if_neg h4]; exact (dec_false (fun x => by have := (linkP_more h2 h3).1 x; omega)).symm

-- linkofmore
theorem emod_flip (b : Int) {n : Int} (hn : 0 < n) : (n - b % n) % n = (-b) % n := by
  have e : n - b % n = -b + n * (b / n + 1) := by
    have := Int.mul_ediv_add_emod b n
    rw [Int.mul_add, Int.mul_one]; omega
  rw [e, Int.add_mul_emod_self_left]
theorem gcd_emod2 (n x : Int) : Int.gcd n (x % n) = Int.gcd n x := by
  have e : x % n = x + n * (-(x / n)) := by
    have := Int.mul_ediv_add_emod x n
    rw [Int.mul_neg]; omega
  rw [e, Int.gcd_add_mul_left_right]
theorem link_ok {a b : Int} (h : Frac a b) (ha : -60 ≤ a ∧ a ≤ 60) : LinkP (linkofv a b).1 (linkofv a b).2.1 := by
  unfold linkofv
  rw [if_pos (show Frac a b ∧ (-60 ≤ a ∧ a ≤ 60) from ⟨h, ha⟩)]
  by_cases h0 : a = 0
  · rw [if_pos h0]; exact .inl ⟨rfl, rfl⟩
  · rw [if_neg h0]
    have hg := h.2.2.1
    have key : ∀ r : Int, 0 ≤ r → r < (a.natAbs : Int) → Int.gcd (a.natAbs : Int) r = 1 → LinkP (a.natAbs : Int) r := by
      intro r r0 r1 r2
      by_cases h1 : a.natAbs = 1
      · right; left; exact ⟨by omega, by omega⟩
      · right; right
        refine ⟨by omega, ⟨?_, r1⟩, r2⟩
        by_cases hr : r = 0
        · subst hr; rw [Int.gcd_zero_right] at r2; simp at r2; omega
        · omega
    have gn : Int.gcd (a.natAbs : Int) b = 1 := by
      unfold Int.gcd at hg ⊢; simpa using hg
    by_cases hn : a < 0
    · rw [if_pos hn]; simp only
      refine key _ (Int.emod_nonneg _ (by omega)) (Int.emod_lt_of_pos _ (by omega)) ?_
      rw [emod_flip b (by omega), gcd_emod2]
      simpa using gn
    · rw [if_neg hn]; simp only
      have e : ((a.natAbs : Nat) : Int) = a := by omega
      have := key (b % a) (Int.emod_nonneg _ h0) (by rw [e]; exact Int.emod_lt_of_pos _ (by omega)) (by rw [e, gcd_emod2]; exact hg)
      rw [e] at this
      exact this
/-- Turned over, with one less, and turned over again the link is the same. -/
theorem link_turn {a b : Int} (h : Frac a b) (ha : -60 ≤ a ∧ a ≤ 60) (hp : Frac ((overv a b).1 + -1 * (overv a b).2) (overv a b).2) :
    linkofv (overv ((overv a b).1 + -1 * (overv a b).2) (overv a b).2).1 (overv ((overv a b).1 + -1 * (overv a b).2) (overv a b).2).2 = linkofv a b := by
  have hf := over_frac hp
  have h2 := h.2.1
  have h4 := h.2.2.2
  generalize hc : overv ((overv a b).1 + -1 * (overv a b).2) (overv a b).2 = w at hf
  obtain ⟨c, d⟩ := w
  simp only at hf ⊢
  by_cases ha0 : a ≤ 0
  · have eo : overv a b = (b, -a) := by unfold overv; rw [if_pos ha0]
    rw [eo] at hc
    simp only at hc
    unfold overv at hc
    by_cases h0 : a = 0
    · subst h0
      have := frac_zero h
      subst this
      rw [if_neg (by omega)] at hc
      simp only [Prod.mk.injEq] at hc
      obtain ⟨rfl, rfl⟩ := hc
      rfl
    · unfold linkofv
      by_cases hs : b + -1 * -a ≤ 0
      · rw [if_pos hs] at hc
        simp only [Prod.mk.injEq] at hc
        obtain ⟨rfl, rfl⟩ := hc
        rw [if_pos (show Frac (-a) (-(b + -1 * -a)) ∧ (-60 ≤ -a ∧ -a ≤ 60) from ⟨hf, by omega⟩), if_pos (show Frac a b ∧ (-60 ≤ a ∧ a ≤ 60) from ⟨h, ha⟩), if_neg (show ¬ -a = 0 by omega), if_neg h0, if_neg (show ¬ -a < 0 by omega), if_pos (show a < 0 by omega)]
        have e : ((a.natAbs : Nat) : Int) = -a := by omega
        rw [e, emod_flip b (by omega)]
        rw [show -(b + -1 * -a) = -b + -a * 1 by omega, Int.add_mul_emod_self_left]
      · rw [if_neg hs] at hc
        simp only [Prod.mk.injEq] at hc
        obtain ⟨rfl, rfl⟩ := hc
        have ea : -(-a) = a := by omega
        rw [ea] at hf ⊢
        rw [if_pos (show Frac a (b + -1 * -a) ∧ (-60 ≤ a ∧ a ≤ 60) from ⟨hf, ha⟩), if_pos (show Frac a b ∧ (-60 ≤ a ∧ a ≤ 60) from ⟨h, ha⟩), if_neg h0, if_neg h0, if_pos (show a < 0 by omega), if_pos (show a < 0 by omega)]
        have e : ((a.natAbs : Nat) : Int) = -a := by omega
        rw [e, show b + -1 * -a = b + -a * (-1) by omega, Int.add_mul_emod_self_left]
  · have eo : overv a b = (-b, a) := by unfold overv; rw [if_neg ha0]
    rw [eo] at hc
    simp only at hc
    unfold overv at hc
    rw [if_pos (by omega)] at hc
    simp only [Prod.mk.injEq] at hc
    obtain ⟨rfl, rfl⟩ := hc
    unfold linkofv
    rw [if_pos (show Frac a (-(-b + -1 * a)) ∧ (-60 ≤ a ∧ a ≤ 60) from ⟨hf, ha⟩), if_pos (show Frac a b ∧ (-60 ≤ a ∧ a ≤ 60) from ⟨h, ha⟩), if_neg (show ¬ a = 0 by omega), if_neg (show ¬ a < 0 by omega), if_neg (show ¬ a = 0 by omega), if_neg (show ¬ a < 0 by omega)]
    rw [show -(-b + -1 * a) = b + a * 1 by omega, Int.add_mul_emod_self_left]

-- alive
theorem alive_f {k : Nat} (hk : 1000001 ≤ k) : laws_alive.f k = some true := by
  unfold laws_alive.f impl_FractionOk.f
  simp only [impl_isFraction_f _ _ hk, Option.bind_some]
  rw [if_pos (by decide)]
  congr 1

theorem l20Termed_f {s : List Int} {p : Int} {k : Nat} (hs : RdOk s) (hp : 0 ≤ p) (hp' : p ≤ 800000) (hk : 1000010 ≤ k) :
    ∃ a b q, spec_l20Termed.f k s p = some (a, b, q) ∧ p ≤ q ∧ q ≤ p + 20 := by
  unfold spec_l20Termed.f
  obtain ⟨o, q, ho, q0, q1⟩ := odd_f (k := k) (p := p) 9 hs hp (by omega) (by omega)
  rw [ho]; simp only [Option.bind_some]
  split
  · obtain ⟨a, b, q', hf, hd, r0, r1⟩ := l20Fraction_f (k := k) (p := q) 3 hs (by omega) (by omega) (by omega)
    rw [hf]; simp only [Option.bind_some]
    exact ⟨_, _, _, rfl, by omega, by omega⟩
  · obtain ⟨v1, e1, _⟩ := pick_f (k := k) (p := q) 61 hs (by omega) (by omega) (by omega)
    rw [e1]; simp only [Option.bind_some]
    obtain ⟨v2, e2, _⟩ := pick_f (k := k) (p := q + 1) 61 hs (by omega) (by omega) (by omega)
    rw [e2]; simp only [Option.bind_some]
    obtain ⟨v3, e3, w0, w1, _⟩ := pick_f (k := k) (p := q + 1 + 1) 2 hs (by omega) (by omega) (by omega)
    have w1 := w1 (by omega)
    rw [e3]; simp only [Option.bind_some]
    rw [if_pos w0, if_pos (by simpa using w1)]
    obtain ⟨v4, e4, _⟩ := pick_f (k := k) (p := q + 1 + 1 + 1) (rd ([12, 60] : List Int) v3) hs (by omega) (by omega) (by omega)
    rw [e4]; simp only [Option.bind_some]
    rw [spec_LowestOf_f _ _ (by omega)]; simp only [Option.bind_some]
    split
    · exact ⟨_, _, _, rfl, by omega, by omega⟩
    · exact ⟨_, _, _, rfl, by omega, by omega⟩
theorem DrawLinkOf_f {l : List Int} {k : Nat} (h : ∀ x ∈ l, (Lit.int .u8 x).wf = true) (hk : 2000000 ≤ k) : ∃ a b, spec_DrawLinkOf.f k l = some (a, b) := by
  unfold spec_DrawLinkOf.f
  obtain ⟨s, hs, hr⟩ := open_f h
  rw [hs]; simp only [Option.bind_some]
  obtain ⟨a, b, q, hf, q0, q1⟩ := l20Termed_f (k := k) (p := 0) hr (by omega) (by omega) (by omega)
  rw [hf]; simp only [Option.bind_some]
  obtain ⟨c, d, q', hf', hd', r0, r1⟩ := l20Fraction_f (k := k) (p := q) 9 hr (by omega) (by omega) (by omega)
  rw [hf']; simp only [Option.bind_some]
  obtain ⟨v, hv, w0, w1, _⟩ := pick_f (k := k) (p := q') 2 hr (by omega) (by omega) (by omega)
  have w1 := w1 (by omega)
  rw [hv]; simp only [Option.bind_some]
  rw [if_pos w0, if_pos (by simpa using w1)]
  exact ⟨_, _, rfl⟩
theorem tmod_abs (a : Int) : Int.tmod (a.natAbs : Int) 2 = 0 ↔ Int.tmod a 2 = 0 := by
  rw [← Int.dvd_iff_tmod_eq_zero, ← Int.dvd_iff_tmod_eq_zero]
  omega
theorem RingsOf_f {a b : Int} {k : Nat} (h : Frac a b) (hk : 1000001 ≤ k) : impl_RingsOf.f k a b = some (if Int.tmod a 2 = 0 then 2 else 1) := by
  unfold impl_RingsOf.f impl_kindOf.f
  rw [impl_isFraction_f _ _ hk]; simp only [Option.bind_some, decide_eq_true_eq]
  rw [if_pos h]
  by_cases h1 : Int.tmod a 2 = 0
  · rw [if_pos h1, if_pos h1]; rfl
  · rw [if_neg h1, if_neg h1]
    split
    · rfl
    · rfl
theorem FnLinkOf : laws_FnLinkOf.Pure := by
  intro l _ _ hw
  obtain ⟨k, hk⟩ := bigk
  obtain ⟨k, rfl⟩ : ∃ m, k = m + 1 := ⟨k - 1, by omega⟩
  refine ⟨k + 1, ?_⟩
  unfold laws_FnLinkOf.f
  refine ite_to (fun _ => rfl) (fun _ => ?_)
  obtain ⟨a, b, hd⟩ := DrawLinkOf_f hw (show 2000000 ≤ k + 1 by omega)
  rw [hd]; simp only [Option.bind_some]
  have hL : ∀ n, 1000002 ≤ n → ∀ a b, impl_LinkOf.f n a b = some (linkofv a b) := by
    intro n hn a b; unfold impl_LinkOf.f; rw [impl_linkOf_f _ _ hn]; rfl
  rw [hL (k + 1) (by omega), spec_LinkOf_f _ _ (by omega)]; simp only [Option.bind_some]
  rw [if_neg (by simp), show ((linkofv a b).2.2 != (linkofv a b).2.2) = false by simp]
  simp only [laws_FnLinkOf.j0]
  rw [if_neg (by decide)]
  by_cases h : Frac a b ∧ (-60 ≤ a ∧ a ≤ 60)
  · have hok := link_ok h.1 h.2
    have e3 : (linkofv a b).2.2 = true := by unfold linkofv; rw [if_pos h]; split; rfl; split <;> rfl
    have e1 : (linkofv a b).1 = (a.natAbs : Int) := by
      unfold linkofv; rw [if_pos h]
      split
      · rename_i h0; subst h0; rfl
      · split
        · rfl
        · simp only; omega
    rw [if_pos e3, impl_OverOf_f a b (by omega)]; simp only [Option.bind_some]
    rw [if_pos h.1, impl_PlusOf_f _ _ _ (by omega)]; simp only [Option.bind_some]
    rw [if_pos (show Frac (overv a b).1 (overv a b).2 ∧ (-1000000 ≤ (-1 : Int) ∧ (-1 : Int) ≤ 1000000) from ⟨over_frac h.1, by omega⟩)]
    unfold impl_LinkOk.f
    rw [impl_isLink_f (linkofv a b).1 (linkofv a b).2.1 (by omega), RingsOf_f h.1 (by omega)]; simp only [Option.bind_some, decide_eq_true_eq]
    rw [if_pos hok]
    have fin : some (((Int.tmod (linkofv a b).1 2) == 0) == ((if Int.tmod a 2 = 0 then (2 : Int) else 1) == 2)) = some true := by
      rw [e1]
      congr 1
      rw [beq_iff_eq, Bool.eq_iff_iff, beq_iff_eq, beq_iff_eq, tmod_abs]
      split <;> simp [*]
    rw [fin]
    by_cases hp : Frac ((overv a b).1 + -1 * (overv a b).2) (overv a b).2
    · have ep : plusv (overv a b).1 (overv a b).2 (-1) = ((overv a b).1 + -1 * (overv a b).2, (overv a b).2, true) := by unfold plusv; rw [if_pos hp]
      rw [ep]; simp only
      rw [if_pos trivial, impl_OverOf_f _ _ (by omega)]; simp only [Option.bind_some]
      rw [if_pos hp, hL k (by omega), link_turn h.1 h.2 hp]; simp only [Option.bind_some]
      rw [if_pos e3]; simp [hok]
    · have ep : plusv (overv a b).1 (overv a b).2 (-1) = (0, 0, false) := by unfold plusv; rw [if_neg hp]
      rw [ep]; simp only
      rw [if_neg (by decide)]
  · have e : linkofv a b = (0, 0, false) := by unfold linkofv; rw [if_neg h]
    rw [e]; simp only
    rw [if_neg (by decide), if_pos (by decide), alive_f (by omega)]; rfl

end Go.Proofs.Ytblbkmjneeeodaa.Pure
