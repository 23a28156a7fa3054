/- FnNumberOf: NumberOf answers as the reference's does; a twist moved from one pair to the other leaves it, so does exchanging both, and beside 0 it is the upper number without its sign; at every draw. -/
import Derived.Test.YtmcdhajepkamjaaPFnNumberOfx0
import Derived.Test.YtmcdhajepkamjaaPFnNumberOfx1
import Derived.Test.YtmcdhajepkamjaaPFnNumberOfx2
import Derived.Test.YtmcdhajepkamjaaPFnNumberOfx3
import Derived.Test.YtmcdhajepkamjaaCFnNumberOf
set_option linter.unusedVariables false
set_option linter.unusedSimpArgs false
namespace Go.Proofs.Ytmcdhajepkamjaa.Pure
open Go.RowKit Go.Proofs.Ytmcdhajepkamjaa.PFnNumberOf Go.Proofs.YtmcdhajepkamjaaW.PrintWords Go.Proofs.YtmcdhajepkamjaaW.PrintLast Go.Proofs.YtmcdhajepkamjaaW.PrintMore

-- base
theorem wrap64_in {n : Int} (h : -9223372036854775808 ≤ n) (h' : n ≤ 9223372036854775807) : wrap64 n = n := by unfold wrap64; omega
theorem i64_of_wf {n : Int} (h : (Lit.int .i64 n).wf = true) : -9223372036854775808 ≤ n ∧ n ≤ 9223372036854775807 := by
  simpa [Lit.wf, IntKind.min, IntKind.max, IntKind.signed, IntKind.bits] using h
theorem bigk : ∃ k : Nat, 1000000000 ≤ k := ⟨1000000000, Nat.le_refl _⟩
theorem dec_true {p : Prop} [Decidable p] (h : p) : some (decide p) = some true := by simp [h]
theorem dec_false {p : Prop} [Decidable p] (h : ¬ p) : some (decide p) = some false := by simp [h]
theorem dec_iff {p q : Prop} [Decidable p] [Decidable q] (h : p ↔ q) : some (decide p) = some (decide q) := by simp [h]
theorem ite_to {c : Prop} [Decidable c] {α : Type} {x y z : α} (h1 : c → x = z) (h2 : ¬ c → y = z) : (if c then x else y) = z := by
  by_cases h : c
  · rw [if_pos h]; exact h1 h
  · rw [if_neg h]; exact h2 h

-- gcdmath
theorem natAbs_tmod_lt (a : Int) {b : Int} (h : b ≠ 0) : (Int.tmod a b).natAbs < b.natAbs := by
  rw [Int.natAbs_tmod]
  exact Nat.mod_lt _ (by omega)
theorem gcd_tmod (a b : Int) : Int.gcd b (Int.tmod a b) = Int.gcd a b := by
  unfold Int.gcd
  rw [Int.natAbs_tmod, Nat.gcd_comm a.natAbs, Nat.gcd_rec b.natAbs a.natAbs, Nat.gcd_comm]
theorem mx_abs {a : Int} (h : -9223372036854775808 < a) (h' : a ≤ 9223372036854775807) : mx a (wrap64 (-a)) = (a.natAbs : Int) := by
  rw [wrap64_in (by omega) (by omega)]; unfold mx; split <;> omega

-- draw
/-- The bytes that a draw reads. -/
def RdOk (s : List Int) : Prop := s.length ≤ 2000 ∧ ∀ x ∈ s, 0 ≤ x ∧ x ≤ 255
theorem rd_bd {s : List Int} (h : RdOk s) (i : Int) : 0 ≤ rd s i ∧ rd s i ≤ 255 := by
  unfold rd
  by_cases hi : i.toNat < s.length
  · have e : s.getD i.toNat 0 = s[i.toNat] := by simp [hi]
    rw [e]; exact h.2 _ (List.getElem_mem hi)
  · have e : s.getD i.toNat 0 = 0 := by simp; rw [List.getElem?_eq_none (by omega)]; rfl
    rw [e]; omega
theorem xor_nonneg {x y : Int} (hx : 0 ≤ x) (hx' : x < 4611686018427387904) (hy : 0 ≤ y) (hy' : y < 4611686018427387904) : 0 ≤ Go.bits .xor .i64 x y := by
  unfold Go.bits
  simp only
  obtain ⟨a, rfl⟩ := Int.eq_ofNat_of_zero_le hx
  obtain ⟨b, rfl⟩ := Int.eq_ofNat_of_zero_le hy
  have h64 : IntKind.i64.bits = 64 := rfl
  rw [BitVec.toNat_xor]
  have ea : (BitVec.ofInt IntKind.i64.bits (a : Int)).toNat = a := by
    rw [BitVec.toNat_ofInt, h64]; omega
  have eb : (BitVec.ofInt IntKind.i64.bits (b : Int)).toNat = b := by
    rw [BitVec.toNat_ofInt, h64]; omega
  rw [ea, eb]
  have hl : a ^^^ b < 2 ^ 62 := Nat.xor_lt_two_pow (by omega) (by omega)
  generalize a ^^^ b = c at *
  have : IntKind.i64.wrap (c : Int) = wrap64 (c : Int) := by
    simp [IntKind.wrap, wrap64, IntKind.signed, IntKind.bits]
    try omega
  rw [this, wrap64_in (by omega) (by omega)]
  omega
theorem tmod_range {x n : Int} (hx : 0 ≤ x) (hn : 1 ≤ n) : 0 ≤ Int.tmod x n ∧ Int.tmod x n < n := by
  rw [Int.tmod_eq_emod_of_nonneg hx]
  exact ⟨Int.emod_nonneg _ (by omega), Int.emod_lt_of_pos _ (by omega)⟩
theorem pick_f {s : List Int} {p : Int} (n : Int) {k : Nat} (hs : RdOk s) (hp : 0 ≤ p) (hp' : p ≤ 1000000) (hk : 1 ≤ k) :
    ∃ v, spec_l20Rd_pick.f k s p n = some (v, p + 1) ∧ 0 ≤ v ∧ (1 ≤ n → v < n) ∧ (n < 1 → v = 0) := by
  obtain ⟨k, rfl⟩ : ∃ m, k = m + 1 := ⟨k - 1, by omega⟩
  unfold spec_l20Rd_pick.f
  rw [wrap64_in (n := p + 1) (by omega) (by omega)]
  by_cases hn : n < 1
  · rw [if_pos hn]; simp only [spec_l20Rd_pick.j0]; rw [if_pos trivial]
    exact ⟨0, rfl, by omega, by omega, fun _ => rfl⟩
  · rw [if_neg hn]
    by_cases hl : (s.length : Int) = 0
    · rw [show ((s.length : Int) == 0) = true by simpa using hl]; simp only [spec_l20Rd_pick.j0]; rw [if_pos trivial]
      exact ⟨0, rfl, by omega, by omega, fun _ => rfl⟩
    · rw [show ((s.length : Int) == 0) = false by simpa using hl]; simp only [spec_l20Rd_pick.j0]; rw [if_neg (by decide)]
      have hlen := hs.1
      rw [show p + 1 - 1 = p by omega, wrap64_in (n := p) (by omega) (by omega)]
      by_cases h1 : p < (s.length : Int)
      · have hb := rd_bd hs p
        rw [if_pos h1, if_pos hp, if_neg (by omega), wrap64_in (by omega) (by omega)]
        have ht := tmod_range (n := n) hb.1 (by omega)
        exact ⟨_, rfl, ht.1, fun _ => ht.2, fun x => absurd x hn⟩
      · have t1 := tmod_range (x := p) (n := (s.length : Int)) hp (by omega)
        have t2 := tmod_range (x := p * 7 + 3) (n := (s.length : Int)) (by omega) (by omega)
        rw [if_neg h1, if_neg hl, if_pos t1.1, if_pos t1.2, wrap64_in (n := p * 7) (by omega) (by omega), wrap64_in (n := p * 7 + 3) (by omega) (by omega), if_pos t2.1, if_pos t2.2, if_neg (by omega)]
        have b1 := rd_bd hs (Int.tmod p (s.length : Int))
        have b2 := rd_bd hs (Int.tmod (p * 7 + 3) (s.length : Int))
        generalize rd s (Int.tmod p (s.length : Int)) = r1 at *
        generalize rd s (Int.tmod (p * 7 + 3) (s.length : Int)) = r2 at *
        have q1 : 0 ≤ Int.tdiv p (s.length : Int) ∧ Int.tdiv p (s.length : Int) ≤ p := by
          obtain ⟨a, rfl⟩ := Int.eq_ofNat_of_zero_le hp
          rw [Int.tdiv_eq_ediv_of_nonneg (by omega), ← Int.natCast_ediv]
          have := Nat.div_le_self a s.length
          exact ⟨Int.natCast_nonneg _, by exact_mod_cast this⟩
        generalize Int.tdiv p (s.length : Int) = q at *
        rw [wrap64_in (n := r1) (by omega) (by omega), wrap64_in (n := r1 * 131) (by omega) (by omega), wrap64_in (n := r2) (by omega) (by omega), wrap64_in (n := r2 * 1117) (by omega) (by omega), wrap64_in (n := r1 * 131 + r2 * 1117) (by omega) (by omega), wrap64_in (n := p * 29) (by omega) (by omega), wrap64_in (n := q) (by omega) (by omega), wrap64_in (n := q * 53) (by omega) (by omega), wrap64_in (n := r1 * 131 + r2 * 1117 + p * 29) (by omega) (by omega), wrap64_in (n := r1 * 131 + r2 * 1117 + p * 29 + q * 53) (by omega) (by omega)]
        generalize hX : r1 * 131 + r2 * 1117 + p * 29 + q * 53 = X
        have hX0 : 0 ≤ X := by omega
        have hX1 : X ≤ 1000000000 := by omega
        have d1 : 0 ≤ Int.tdiv X 64 ∧ Int.tdiv X 64 ≤ X := by
          rw [Int.tdiv_eq_ediv_of_nonneg hX0]; omega
        rw [wrap64_in (n := Int.tdiv X 64) (by omega) (by omega)]
        have hx := xor_nonneg (x := X) (y := Int.tdiv X 64) hX0 (by omega) d1.1 (by omega)
        have ht := tmod_range (n := n) hx (by omega)
        exact ⟨_, rfl, ht.1, fun _ => ht.2, fun x => absurd x hn⟩

-- open
theorem u8_of_wf {n : Int} (h : (Lit.int .u8 n).wf = true) : 0 ≤ n ∧ n ≤ 255 := by
  simpa [Lit.wf, IntKind.min, IntKind.max, IntKind.signed, IntKind.bits] using h
theorem open_f {l : List Int} (h : ∀ x ∈ l, (Lit.int .u8 x).wf = true) : ∃ s, spec_l20Open.f l = some (s, 0) ∧ RdOk s := by
  unfold spec_l20Open.f
  by_cases hl : (l.length : Int) > 2000
  · rw [if_pos hl, if_pos (by omega)]
    exact ⟨_, rfl, by rw [List.length_take]; omega, fun x hx => u8_of_wf (h x (List.mem_of_mem_take hx))⟩
  · rw [if_neg hl]
    exact ⟨_, rfl, by omega, fun x hx => u8_of_wf (h x hx)⟩

-- odd
theorem odd_f {s : List Int} {p : Int} (n : Int) {k : Nat} (hs : RdOk s) (hp : 0 ≤ p) (hp' : p ≤ 1000000) (hk : 1 ≤ k) :
    ∃ v q, spec_l20Rd_odd.f k s p n = some (v, q) ∧ p ≤ q ∧ q ≤ p + 1 := by
  unfold spec_l20Rd_odd.f
  by_cases h : n > 0
  · rw [if_pos h]
    obtain ⟨v, hv, _⟩ := pick_f n hs hp hp' hk
    rw [hv]; simp only [Option.bind_some]
    exact ⟨_, _, rfl, by omega, by omega⟩
  · rw [if_neg h]; exact ⟨_, _, rfl, by omega, by omega⟩

-- frac
/-- A fraction in lowest terms, as FractionOk tells it. -/
def Frac (a b : Int) : Prop := (-1000000 ≤ a ∧ a ≤ 1000000) ∧ (0 ≤ b ∧ b ≤ 1000000) ∧ Int.gcd a b = 1 ∧ (b = 0 → a = 1)
instance (a b : Int) : Decidable (Frac a b) := by unfold Frac; infer_instance

-- lowmath
/-- Two numbers in lowest terms. -/
def lowv (a b : Int) : Int × Int := if b < 0 ∨ (b = 0 ∧ a < 0) then (Int.tdiv a (-(Int.gcd a b : Int)), Int.tdiv b (-(Int.gcd a b : Int))) else (Int.tdiv a (Int.gcd a b : Int), Int.tdiv b (Int.gcd a b : Int))
theorem gcd_ne {a b : Int} (h : ¬ (a = 0 ∧ b = 0)) : Int.gcd a b ≠ 0 := by
  intro x; rw [Int.gcd_eq_zero_iff] at x; exact h x
theorem tdiv_wrap {a g : Int} (h : a.natAbs ≤ 9223372036854775807) : wrap64 (Int.tdiv a g) = Int.tdiv a g := by
  have := Nat.div_le_self a.natAbs g.natAbs
  have e : (Int.tdiv a g).natAbs = a.natAbs / g.natAbs := Int.natAbs_tdiv a g
  rw [← e] at this
  exact wrap64_in (by omega) (by omega)
theorem gcd_le_abs {a b : Int} (h : ¬ (a = 0 ∧ b = 0)) : (Int.gcd a b) ≤ a.natAbs + b.natAbs := by
  by_cases ha : a = 0
  · subst ha; rw [Int.gcd_zero_left]; omega
  · have := Int.gcd_le_natAbs_left (b := b) ha; omega

-- lowestof
/-- What LowestOf answers. -/
def LowOk (a b : Int) : Prop := (-1000000 ≤ a ∧ a ≤ 1000000) ∧ (-1000000 ≤ b ∧ b ≤ 1000000) ∧ ¬ (a = 0 ∧ b = 0)
instance (a b : Int) : Decidable (LowOk a b) := by unfold LowOk; infer_instance
def lowofv (a b : Int) : Int × Int × Bool := if LowOk a b then ((lowv a b).1, (lowv a b).2, true) else (0, 0, false)

-- spec_l1Common
theorem spec_l1Common_l0 (n : Nat) : ∀ (a b : Int), b.natAbs ≤ n → 0 ≤ a → 0 ≤ b → ∀ k, n < k → spec_l1Common.l0 k a b = some (Int.gcd a b : Int) := by
  induction n with
  | zero =>
    intro a b hb ha _ k hk
    obtain ⟨k, rfl⟩ : ∃ m, k = m + 1 := ⟨k - 1, by omega⟩
    obtain rfl : b = 0 := by omega
    simp only [spec_l1Common.l0]
    rw [if_neg (by omega), Int.gcd_zero_right]
    congr 1; omega
  | succ n ih =>
    intro a b hb ha hb' k hk
    obtain ⟨k, rfl⟩ : ∃ m, k = m + 1 := ⟨k - 1, by omega⟩
    simp only [spec_l1Common.l0]
    by_cases h : b = 0
    · subst h; rw [if_neg (by omega), Int.gcd_zero_right]; congr 1; omega
    · have := natAbs_tmod_lt a h
      rw [if_pos (by omega), if_neg h, ih b (Int.tmod a b) (by omega) hb' (Int.tmod_nonneg _ ha) k (by omega), gcd_tmod]
theorem spec_l1Common_f {a b : Int} {k : Nat} (ha : a.natAbs ≤ 9223372036854775807) (hb : b.natAbs ≤ 9223372036854775807) (hk : b.natAbs < k) : spec_l1Common.f k a b = some (Int.gcd a b : Int) := by
  unfold spec_l1Common.f
  rw [mx_abs (by omega) (by omega), mx_abs (by omega) (by omega), spec_l1Common_l0 b.natAbs _ _ (by omega) (by omega) (by omega) k hk]
  rfl

-- spec_l1In
theorem spec_l1In_f (a b c : Int) : spec_l1In.f a b c = some (decide (b ≤ a ∧ a ≤ c)) := by
  unfold spec_l1In.f
  by_cases h : b ≤ a
  · rw [if_pos h]; exact dec_iff ⟨fun x => ⟨h, x⟩, fun x => x.2⟩
  · rw [if_neg h]; exact (dec_false (fun x => h x.1)).symm

-- spec_LowestOf
theorem spec_LowestOf_f (a b : Int) {k : Nat} (hk : 1000002 ≤ k) : spec_LowestOf.f k a b = some (lowofv a b) := by
  obtain ⟨k, rfl⟩ : ∃ m, k = m + 1 := ⟨k - 1, by omega⟩
  unfold spec_LowestOf.f
  simp only [spec_l1In_f, Option.bind_some, decide_eq_true_eq]
  unfold lowofv
  by_cases h : LowOk a b
  · rw [if_pos h.1, if_pos h.2.1, if_pos h]
    have e : (if a = 0 then spec_LowestOf.j0 (k + 1) a b (b == 0) else spec_LowestOf.j0 (k + 1) a b false) = spec_LowestOf.j0 (k + 1) a b false := by
      by_cases h3 : a = 0
      · rw [if_pos h3, show (b == 0) = false from by simp; exact fun x => h.2.2 ⟨h3, x⟩]
      · rw [if_neg h3]
    rw [e]
    have h1 := h.1
    have h2 := h.2.1
    simp only [spec_LowestOf.j0]
    rw [if_neg (by decide), spec_l1Common_f (by omega) (by omega) (by omega)]; simp only [Option.bind_some]
    have hg := gcd_ne h.2.2
    have hl := gcd_le_abs h.2.2
    rw [wrap64_in (n := -((Int.gcd a b : Nat) : Int)) (by omega) (by omega)]
    unfold lowv
    by_cases h1 : b < 0
    · rw [if_pos h1, if_neg (by omega), if_pos (.inl h1), tdiv_wrap (by omega), tdiv_wrap (by omega)]
    · rw [if_neg h1]
      by_cases h2 : b = 0
      · rw [if_pos h2]
        by_cases h3 : a < 0
        · rw [if_pos h3, if_neg (by omega), if_pos (.inr ⟨h2, h3⟩), tdiv_wrap (by omega), tdiv_wrap (by omega)]
        · rw [if_neg h3, if_neg (by omega), if_neg (by omega), tdiv_wrap (by omega), tdiv_wrap (by omega)]
      · rw [if_neg h2, if_neg (by omega), if_neg (by omega), tdiv_wrap (by omega), tdiv_wrap (by omega)]
  · rw [if_neg h]
    have e : spec_LowestOf.j0 (k + 1) a b true = some (0, 0, false) := by simp only [spec_LowestOf.j0]; rw [if_pos trivial]
    by_cases h1 : -1000000 ≤ a ∧ a ≤ 1000000
    · rw [if_pos h1]
      by_cases h2 : -1000000 ≤ b ∧ b ≤ 1000000
      · rw [if_pos h2]
        have h3 : a = 0 ∧ b = 0 := by
          by_cases x : a = 0 ∧ b = 0
          · exact x
          · exact absurd ⟨h1, h2, x⟩ h
        rw [if_pos h3.1, h3.2]
        rw [h3.2] at e
        exact e
      · rw [if_neg h2, e]
    · rw [if_neg h1, e]

-- lowbd
theorem lowofv_bd (a b : Int) : (lowofv a b).1.natAbs ≤ 1000000 ∧ (lowofv a b).2.1.natAbs ≤ 1000000 := by
  unfold lowofv
  by_cases h : LowOk a b
  · rw [if_pos h]
    have h1 := h.1
    have h2 := h.2.1
    have key : ∀ (x g : Int), x.natAbs ≤ 1000000 → (Int.tdiv x g).natAbs ≤ 1000000 := by
      intro x g hx
      have := Nat.div_le_self x.natAbs g.natAbs
      have e : (Int.tdiv x g).natAbs = x.natAbs / g.natAbs := Int.natAbs_tdiv x g
      omega
    unfold lowv
    split
    · exact ⟨key _ _ (by omega), key _ _ (by omega)⟩
    · exact ⟨key _ _ (by omega), key _ _ (by omega)⟩
  · rw [if_neg h]; simp

-- drawsmall
def Drawn2s (a b : Int) : Prop := a.natAbs ≤ 1000001 ∧ b.natAbs ≤ 1000001
theorem l20Small_f {s : List Int} {p : Int} {k : Nat} (hs : RdOk s) (hp : 0 ≤ p) (hp' : p ≤ 900000) (hk : 1000005 ≤ k) :
    ∃ a b q, spec_l20Small.f k s p = some (a, b, q) ∧ Drawn2s a b ∧ p ≤ q ∧ q ≤ p + 6 := by
  unfold spec_l20Small.f
  obtain ⟨v1, h1, a1, b1, _⟩ := pick_f (k := k) 9 hs hp (by omega) (by omega)
  rw [h1]; simp only [Option.bind_some]
  obtain ⟨v2, h2, a2, b2, _⟩ := pick_f (k := k) (p := p + 1) 9 hs (by omega) (by omega) (by omega)
  rw [h2]; simp only [Option.bind_some]
  obtain ⟨v3, h3, a3, b3, _⟩ := pick_f (k := k) (p := p + 1 + 1) 9 hs (by omega) (by omega) (by omega)
  rw [h3]; simp only [Option.bind_some]
  rw [spec_LowestOf_f _ _ (by omega)]; simp only [Option.bind_some]
  have hl := lowofv_bd (wrap64 (v1 - v2)) v3
  split
  · obtain ⟨o, q', ho, q2, q3⟩ := odd_f (k := k) (p := p + 1 + 1 + 1) 14 hs (by omega) (by omega) (by omega)
    rw [ho]; simp only [Option.bind_some]
    split
    · exact ⟨_, _, _, rfl, by unfold Drawn2s; decide, by omega, by omega⟩
    · exact ⟨_, _, _, rfl, ⟨by omega, by omega⟩, by omega, by omega⟩
  · exact ⟨_, _, _, rfl, by unfold Drawn2s; decide, by omega, by omega⟩

-- small
def Small (a b m : Int) : Prop := Frac a b ∧ (-m ≤ a ∧ a ≤ m) ∧ b ≤ m
instance (a b m : Int) : Decidable (Small a b m) := by unfold Small; infer_instance

-- nummath
theorem mul_bd {a b : Int} {m n : Nat} (h : a.natAbs ≤ m) (h' : b.natAbs ≤ n) : (a * b).natAbs ≤ m * n := by
  rw [Int.natAbs_mul]; exact Nat.mul_le_mul h h'
/-- NumberOf of two fractions. -/
def numv (a b c d : Int) : Int := if Small a b 1000 ∧ Small c d 1000 then (((a * d + c * b).natAbs : Nat) : Int) else -1
theorem num_value {a b c d : Int} (h : Small a b 1000) (h' : Small c d 1000) :
    mx (wrap64 ((wrap64 (a * d)) + (wrap64 (c * b)))) (wrap64 (-(wrap64 ((wrap64 (a * d)) + (wrap64 (c * b)))))) = (((a * d + c * b).natAbs : Nat) : Int) := by
  have h1 := mul_bd (a := a) (b := d) (m := 1000) (n := 1000) (by have := h.2.1; omega) (by have := h'.1.2.1; have := h'.2.2; omega)
  have h2 := mul_bd (a := c) (b := b) (m := 1000) (n := 1000) (by have := h'.2.1; omega) (by have := h.1.2.1; have := h.2.2; omega)
  rw [wrap64_in (n := a * d) (by omega) (by omega), wrap64_in (n := c * b) (by omega) (by omega), wrap64_in (n := a * d + c * b) (by omega) (by omega), mx_abs (by omega) (by omega)]

-- impl_isPart
theorem impl_isPart_f (a : Int) : impl_isPart.f a = some (decide (-1000000 ≤ a ∧ a ≤ 1000000)) := by
  unfold impl_isPart.f
  by_cases h : -1000000 ≤ a
  · rw [if_pos h]; exact dec_iff ⟨fun x => ⟨h, x⟩, fun x => x.2⟩
  · rw [if_neg h]; exact (dec_false (fun x => h x.1)).symm

-- impl_gcd
theorem impl_gcd_l0 (n : Nat) : ∀ (a b : Int), b.natAbs ≤ n → a.natAbs ≤ 9223372036854775807 → b.natAbs ≤ 9223372036854775807 → ∀ k, n < k → impl_gcd.l0 k a b = some (Int.gcd a b : Int) := by
  induction n with
  | zero =>
    intro a b hb ha _ k hk
    obtain ⟨k, rfl⟩ : ∃ m, k = m + 1 := ⟨k - 1, by omega⟩
    obtain rfl : b = 0 := by omega
    simp only [impl_gcd.l0]
    rw [if_pos trivial, mx_abs (by omega) (by omega), Int.gcd_zero_right]
  | succ n ih =>
    intro a b hb ha hb' k hk
    obtain ⟨k, rfl⟩ : ∃ m, k = m + 1 := ⟨k - 1, by omega⟩
    simp only [impl_gcd.l0]
    by_cases h : b = 0
    · subst h; rw [if_pos rfl, mx_abs (by omega) (by omega), Int.gcd_zero_right]
    · have := natAbs_tmod_lt a h
      rw [if_neg h, ih b (Int.tmod a b) (by omega) hb' (by omega) k (by omega), gcd_tmod]
theorem impl_gcd_f {a b : Int} {k : Nat} (ha : a.natAbs ≤ 9223372036854775807) (hb : b.natAbs ≤ 9223372036854775807) (hk : b.natAbs < k) : impl_gcd.f k a b = some (Int.gcd a b : Int) :=
  impl_gcd_l0 b.natAbs a b (Nat.le_refl _) ha hb k hk

-- impl_isFraction
theorem impl_isFraction_f (a b : Int) {k : Nat} (hk : 1000001 ≤ k) : impl_isFraction.f k a b = some (decide (Frac a b)) := by
  unfold impl_isFraction.f
  rw [impl_isPart_f]; simp only [Option.bind_some, decide_eq_true_eq]
  by_cases h1 : -1000000 ≤ a ∧ a ≤ 1000000
  · rw [if_pos h1]
    by_cases h2 : b < 0
    · rw [if_pos h2]; exact (dec_false (fun x => by have := x.2.1; omega)).symm
    · rw [if_neg h2]
      by_cases h2' : b > 1000000
      · rw [if_pos h2']; exact (dec_false (fun x => by have := x.2.1; omega)).symm
      · rw [if_neg h2', impl_gcd_f (by omega) (by omega) (by omega)]; simp only [Option.bind_some]
        have hb : (((Int.gcd a b : Nat) : Int) == 1) = decide (Int.gcd a b = 1) := by
          rw [Bool.eq_iff_iff]; simp; omega
        rw [hb]
        by_cases h4 : b = 0
        · rw [if_pos h4]
          by_cases h5 : a = 1
          · rw [if_pos h5]; exact dec_iff ⟨fun h => ⟨h1, by omega, h, fun _ => h5⟩, fun h => h.2.2.1⟩
          · rw [if_neg h5]; exact (dec_false (fun x => h5 (x.2.2.2 h4))).symm
        · rw [if_neg h4]; exact dec_iff ⟨fun h => ⟨h1, by omega, h, fun h' => absurd h' h4⟩, fun h => h.2.2.1⟩
  · rw [if_neg h1]; exact (dec_false (fun x => h1 x.1)).symm

-- impl_isSmall
theorem impl_isSmall_f (a b m : Int) {k : Nat} (hk : 1000001 ≤ k) (hm : 0 ≤ m) (hm' : m ≤ 1000000) : impl_isSmall.f k a b m = some (decide (Small a b m)) := by
  unfold impl_isSmall.f
  rw [impl_isFraction_f a b hk]; simp only [Option.bind_some, decide_eq_true_eq]
  by_cases h : Frac a b
  · rw [if_pos h, wrap64_in (by omega) (by omega)]
    by_cases h1 : a ≥ -m
    · rw [if_pos h1]
      by_cases h2 : a ≤ m
      · rw [if_pos h2]; exact dec_iff ⟨fun x => ⟨h, ⟨h1, h2⟩, x⟩, fun x => x.2.2⟩
      · rw [if_neg h2]; exact (dec_false (fun x => h2 x.2.1.2)).symm
    · rw [if_neg h1]; exact (dec_false (fun x => h1 x.2.1.1)).symm
  · rw [if_neg h]; exact (dec_false (fun x => h x.1)).symm

-- impl_numberOf
theorem impl_numberOf_f (a b c d : Int) {k : Nat} (hk : 1000001 ≤ k) : impl_numberOf.f k a b c d = some (numv a b c d) := by
  unfold impl_numberOf.f
  rw [impl_isSmall_f a b 1000 hk (by omega) (by omega), impl_isSmall_f c d 1000 hk (by omega) (by omega)]; simp only [Option.bind_some, decide_eq_true_eq]
  by_cases h : Small a b 1000
  · rw [if_pos h]
    by_cases h' : Small c d 1000
    · rw [if_pos h', num_value h h']; unfold numv; rw [if_pos ⟨h, h'⟩]
    · rw [if_neg h']; unfold numv; rw [if_neg (fun x => h' x.2)]
  · rw [if_neg h]; unfold numv; rw [if_neg (fun x => h x.1)]

-- spec_FractionOk
theorem spec_FractionOk_f (a b : Int) {k : Nat} (hk : 1000001 ≤ k) : spec_FractionOk.f k a b = some (decide (Frac a b)) := by
  unfold spec_FractionOk.f
  rw [spec_l1In_f]; simp only [Option.bind_some, decide_eq_true_eq]
  by_cases h1 : -1000000 ≤ a ∧ a ≤ 1000000
  · rw [if_pos h1, spec_l1In_f]; simp only [Option.bind_some, decide_eq_true_eq]
    by_cases h2 : 0 ≤ b ∧ b ≤ 1000000
    · rw [if_pos h2, spec_l1Common_f (by omega) (by omega) (by omega)]; simp only [Option.bind_some]
      by_cases h3 : Int.gcd a b = 1
      · rw [if_pos (by omega)]
        by_cases h4 : b > 0
        · rw [if_pos h4]; exact (dec_true ⟨h1, h2, h3, by omega⟩).symm
        · rw [if_neg h4]
          by_cases h5 : a = 1
          · rw [(dec_true ⟨h1, h2, h3, fun _ => h5⟩ : some (decide (Frac a b)) = _)]; simp [h5]
          · rw [(dec_false (fun x => h5 (x.2.2.2 (by omega))) : some (decide (Frac a b)) = _)]; simp [h5]
      · rw [if_neg (by omega)]; exact (dec_false (fun x => h3 x.2.2.1)).symm
    · rw [if_neg h2]; exact (dec_false (fun x => h2 x.2.1)).symm
  · rw [if_neg h1]; exact (dec_false (fun x => h1 x.1)).symm

-- spec_NumberOf
theorem spec_NumberOf_f (a b c d : Int) {k : Nat} (hk : 1000001 ≤ k) : spec_NumberOf.f k a b c d = some (numv a b c d) := by
  unfold spec_NumberOf.f
  simp only [spec_FractionOk_f _ _ hk, spec_l1In_f, Option.bind_some, decide_eq_true_eq]
  by_cases hs : Small a b 1000 ∧ Small c d 1000
  · obtain ⟨h, h'⟩ := hs
    rw [if_pos h.1, if_pos h'.1, if_pos h.2.1, if_pos h'.2.1, if_neg (by have := h.2.2; omega), if_neg (by have := h'.2.2; omega), num_value h h']; unfold numv; rw [if_pos ⟨h, h'⟩]
  · unfold numv; rw [if_neg hs]
    by_cases h1 : Frac a b
    · rw [if_pos h1]
      by_cases h2 : Frac c d
      · rw [if_pos h2]
        by_cases h3 : -1000 ≤ a ∧ a ≤ 1000
        · rw [if_pos h3]
          by_cases h4 : -1000 ≤ c ∧ c ≤ 1000
          · rw [if_pos h4]
            by_cases h5 : b > 1000
            · rw [if_pos h5]
            · rw [if_neg h5]
              by_cases h6 : d > 1000
              · rw [if_pos h6]
              · exact absurd ⟨⟨h1, h3, by omega⟩, ⟨h2, h4, by omega⟩⟩ hs
          · rw [if_neg h4]
        · rw [if_neg h3]
      · rw [if_neg h2]
    · rw [if_neg h1]

-- plusmath
def plusv (a b n : Int) : Int × Int × Bool := if Frac (a + n * b) b then (a + n * b, b, true) else (0, 0, false)
theorem plus_wrap {a b n : Int} (h : Frac a b) (hn : -1000000 ≤ n ∧ n ≤ 1000000) : wrap64 (a + wrap64 (n * b)) = a + n * b := by
  have h1 := mul_bd (a := n) (b := b) (m := 1000000) (n := 1000000) (by omega) (by have := h.2.1; omega)
  have h2 := h.1
  rw [wrap64_in (n := n * b) (by omega) (by omega), wrap64_in (by omega) (by omega)]

-- impl_plus
theorem impl_plus_f {a b n : Int} {k : Nat} (hk : 1000001 ≤ k) (h : Frac a b) (hn : -1000000 ≤ n ∧ n ≤ 1000000) : impl_plus.f k a b n = some (plusv a b n) := by
  unfold impl_plus.f
  rw [plus_wrap h hn, impl_isFraction_f _ _ hk]; simp only [Option.bind_some, decide_eq_true_eq]
  unfold plusv; split <;> rfl

-- impl_PlusOf
theorem impl_PlusOf_f (a b n : Int) {k : Nat} (hk : 1000001 ≤ k) : impl_PlusOf.f k a b n = some (if Frac a b ∧ (-1000000 ≤ n ∧ n ≤ 1000000) then plusv a b n else (0, 0, false)) := by
  unfold impl_PlusOf.f
  simp only [impl_isFraction_f _ _ hk, impl_isPart_f, Option.bind_some, decide_eq_true_eq]
  by_cases h : Frac a b
  · rw [if_pos h]
    by_cases hn : -1000000 ≤ n ∧ n ≤ 1000000
    · rw [if_pos hn, impl_plus_f hk h hn, if_pos ⟨h, hn⟩]; rfl
    · rw [if_neg hn, if_neg (fun x => hn x.2)]
  · rw [if_neg h, if_neg (fun x => h x.1)]

-- alive
theorem alive_f {k : Nat} (hk : 1000001 ≤ k) : laws_alive.f k = some true := by
  unfold laws_alive.f impl_FractionOk.f
  simp only [impl_isFraction_f _ _ hk, Option.bind_some]
  rw [if_pos (by decide)]
  congr 1

theorem DrawNumberOf_f {l : List Int} {k : Nat} (h : ∀ x ∈ l, (Lit.int .u8 x).wf = true) (hk : 2000000 ≤ k) : ∃ a b c d, spec_DrawNumberOf.f k l = some (a, b, c, d) := by
  unfold spec_DrawNumberOf.f
  obtain ⟨s, hs, hr⟩ := open_f h
  rw [hs]; simp only [Option.bind_some]
  obtain ⟨a, b, q, hf, hd, q0, q1⟩ := l20Small_f (k := k) (p := 0) hr (by omega) (by omega) (by omega)
  rw [hf]; simp only [Option.bind_some]
  obtain ⟨c, d, q', hf', hd', q0', q1'⟩ := l20Small_f (k := k) (p := q) hr (by omega) (by omega) (by omega)
  rw [hf']; simp only [Option.bind_some]
  exact ⟨a, b, c, d, rfl⟩
theorem numv_comm (a b c d : Int) : numv c d a b = numv a b c d := by
  unfold numv
  rw [Int.add_comm (c * b) (a * d)]
  by_cases h : Small a b 1000 ∧ Small c d 1000
  · rw [if_pos h, if_pos ⟨h.2, h.1⟩]
  · rw [if_neg h, if_neg (fun x => h ⟨x.2, x.1⟩)]
theorem numv_zero {a b : Int} (h : Small a b 1000) : numv a b 0 1 = (a.natAbs : Int) := by
  unfold numv; rw [if_pos ⟨h, by decide⟩]; simp
theorem numv_moved (a b c d : Int) (h : Small a b 1000 ∧ Small c d 1000) : numv (a + 1 * b) b (c + -1 * d) d < 0 ∨ numv (a + 1 * b) b (c + -1 * d) d = numv a b c d := by
  unfold numv
  rw [if_pos h]
  split
  · right
    congr 2
    rw [Int.add_mul, Int.add_mul, Int.one_mul, Int.neg_mul, Int.one_mul, Int.neg_mul, Int.mul_comm d b]; omega
  · left; omega
theorem FnNumberOf : laws_FnNumberOf.Pure := by
  intro l _ _ hw
  obtain ⟨k, hk⟩ := bigk
  obtain ⟨k, rfl⟩ : ∃ m, k = m + 1 := ⟨k - 1, by omega⟩
  refine ⟨k + 1, ?_⟩
  unfold laws_FnNumberOf.f
  split
  · rfl
  · obtain ⟨a, b, c, d, hd⟩ := DrawNumberOf_f hw (show 2000000 ≤ k + 1 by omega)
    have hN : ∀ a b c d, impl_NumberOf.f (k + 1) a b c d = some (numv a b c d) := by
      intro a b c d; unfold impl_NumberOf.f; rw [impl_numberOf_f _ _ _ _ (by omega)]; rfl
    have hN' : ∀ a b c d, impl_NumberOf.f k a b c d = some (numv a b c d) := by
      intro a b c d; unfold impl_NumberOf.f; rw [impl_numberOf_f _ _ _ _ (by omega)]; rfl
    rw [hd]; simp only [Option.bind_some, hN, spec_NumberOf_f _ _ _ _ (show 1000001 ≤ k + 1 by omega), alive_f (show 1000001 ≤ k + 1 by omega), impl_PlusOf_f _ _ _ (show 1000001 ≤ k + 1 by omega)]
    rw [if_pos trivial]
    by_cases h : Small a b 1000 ∧ Small c d 1000
    · have hp : ¬ numv a b c d < 0 := by unfold numv; rw [if_pos h]; omega
      rw [if_neg hp]
      have ha := h.1.2.1
      have e0 : mx a (wrap64 (-a)) = (a.natAbs : Int) := mx_abs (by omega) (by omega)
      simp only [laws_FnNumberOf.j0, hN', Option.bind_some, numv_comm a b c d, numv_zero h.1, e0]
      simp only [if_true]
      have e1 : (if Frac a b ∧ (-1000000 ≤ (1 : Int) ∧ (1 : Int) ≤ 1000000) then plusv a b 1 else (0, 0, false)) = plusv a b 1 := if_pos ⟨h.1.1, by omega⟩
      have e2 : (if Frac c d ∧ (-1000000 ≤ (-1 : Int) ∧ (-1 : Int) ≤ 1000000) then plusv c d (-1) else (0, 0, false)) = plusv c d (-1) := if_pos ⟨h.2.1, by omega⟩
      rw [e1, e2]
      have hm := numv_moved a b c d h
      by_cases p1 : Frac (a + 1 * b) b
      · have f1 : plusv a b 1 = (a + 1 * b, b, true) := by unfold plusv; rw [if_pos p1]
        by_cases p2 : Frac (c + -1 * d) d
        · have f2 : plusv c d (-1) = (c + -1 * d, d, true) := by unfold plusv; rw [if_pos p2]
          rw [f1, f2]
          simp only [Int.one_mul, Int.neg_mul] at hm ⊢
          rcases hm with hm | hm
          · simp [hm]
          · simp [hm]
        · have f2 : plusv c d (-1) = (0, 0, false) := by unfold plusv; rw [if_neg p2]
          rw [f1, f2]; simp
      · have f1 : plusv a b 1 = (0, 0, false) := by unfold plusv; rw [if_neg p1]
        rw [f1]; simp
    · have e : numv a b c d = -1 := by unfold numv; rw [if_neg h]
      rw [e]; simp

end Go.Proofs.Ytmcdhajepkamjaa.Pure
