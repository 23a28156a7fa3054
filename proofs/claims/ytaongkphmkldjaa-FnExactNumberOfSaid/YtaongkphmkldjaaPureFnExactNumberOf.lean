/- FnExactNumberOf: the program's NumberOf answers as the reference's does, for all arguments. -/
import Derived.Test.YtaongkphmkldjaaPFnExactNumberOfx0
import Derived.Test.YtaongkphmkldjaaPFnExactNumberOfx1
import Derived.Test.YtaongkphmkldjaaPFnExactNumberOfx2
set_option linter.unusedVariables false
set_option linter.unusedSimpArgs false
namespace Go.Proofs.Ytaongkphmkldjaa.Pure
open Go.RowKit Go.Proofs.Ytaongkphmkldjaa.PFnExactNumberOf Go.Proofs.YtaongkphmkldjaaW.PrintWords Go.Proofs.YtaongkphmkldjaaW.PrintLast Go.Proofs.YtaongkphmkldjaaW.PrintMore

-- base
theorem wrap64_in {n : Int} (h : -9223372036854775808 ≤ n) (h' : n ≤ 9223372036854775807) : wrap64 n = n := by unfold wrap64; omega
theorem i64_of_wf {n : Int} (h : (Lit.int .i64 n).wf = true) : -9223372036854775808 ≤ n ∧ n ≤ 9223372036854775807 := by
  simpa [Lit.wf, IntKind.min, IntKind.max, IntKind.signed, IntKind.bits] using h
theorem bigk : ∃ k : Nat, 1000000000 ≤ k := ⟨1000000000, Nat.le_refl _⟩
theorem dec_true {p : Prop} [Decidable p] (h : p) : some (decide p) = some true := by simp [h]
theorem dec_false {p : Prop} [Decidable p] (h : ¬ p) : some (decide p) = some false := by simp [h]
theorem dec_iff {p q : Prop} [Decidable p] [Decidable q] (h : p ↔ q) : some (decide p) = some (decide q) := by simp [h]

-- frac
/-- A fraction in lowest terms, as FractionOk tells it. -/
def Frac (a b : Int) : Prop := (-1000000 ≤ a ∧ a ≤ 1000000) ∧ (0 ≤ b ∧ b ≤ 1000000) ∧ Int.gcd a b = 1 ∧ (b = 0 → a = 1)
instance (a b : Int) : Decidable (Frac a b) := by unfold Frac; infer_instance

-- small
def Small (a b m : Int) : Prop := Frac a b ∧ (-m ≤ a ∧ a ≤ m) ∧ b ≤ m
instance (a b m : Int) : Decidable (Small a b m) := by unfold Small; infer_instance

-- gcdmath
theorem natAbs_tmod_lt (a : Int) {b : Int} (h : b ≠ 0) : (Int.tmod a b).natAbs < b.natAbs := by
  rw [Int.natAbs_tmod]
  exact Nat.mod_lt _ (by omega)
theorem gcd_tmod (a b : Int) : Int.gcd b (Int.tmod a b) = Int.gcd a b := by
  unfold Int.gcd
  rw [Int.natAbs_tmod, Nat.gcd_comm a.natAbs, Nat.gcd_rec b.natAbs a.natAbs, Nat.gcd_comm]
theorem mx_abs {a : Int} (h : -9223372036854775808 < a) (h' : a ≤ 9223372036854775807) : mx a (wrap64 (-a)) = (a.natAbs : Int) := by
  rw [wrap64_in (by omega) (by omega)]; unfold mx; split <;> omega

-- nummath
theorem mul_bd {a b : Int} {m n : Nat} (h : a.natAbs ≤ m) (h' : b.natAbs ≤ n) : (a * b).natAbs ≤ m * n := by
  rw [Int.natAbs_mul]; exact Nat.mul_le_mul h h'
/-- NumberOf of two fractions. -/
def numv (a b c d : Int) : Int := if Small a b 1000 ∧ Small c d 1000 then (((a * d + c * b).natAbs : Nat) : Int) else -1
theorem num_value {a b c d : Int} (h : Small a b 1000) (h' : Small c d 1000) :
    mx (wrap64 ((wrap64 (a * d)) + (wrap64 (c * b)))) (wrap64 (-(wrap64 ((wrap64 (a * d)) + (wrap64 (c * b)))))) = (((a * d + c * b).natAbs : Nat) : Int) := by
  have h1 := mul_bd (a := a) (b := d) (m := 1000) (n := 1000) (by have := h.2.1; omega) (by have := h'.1.2.1; have := h'.2.2; omega)
  have h2 := mul_bd (a := c) (b := b) (m := 1000) (n := 1000) (by have := h'.2.1; omega) (by have := h.1.2.1; have := h.2.2; omega)
  rw [wrap64_in (n := a * d) (by omega) (by omega), wrap64_in (n := c * b) (by omega) (by omega), wrap64_in (n := a * d + c * b) (by omega) (by omega), mx_abs (by omega) (by omega)]

-- impl_isPart
theorem impl_isPart_f (a : Int) : impl_isPart.f a = some (decide (-1000000 ≤ a ∧ a ≤ 1000000)) := by
  unfold impl_isPart.f
  by_cases h : -1000000 ≤ a
  · rw [if_pos h]; exact dec_iff ⟨fun x => ⟨h, x⟩, fun x => x.2⟩
  · rw [if_neg h]; exact (dec_false (fun x => h x.1)).symm

-- impl_gcd
theorem impl_gcd_l0 (n : Nat) : ∀ (a b : Int), b.natAbs ≤ n → a.natAbs ≤ 9223372036854775807 → b.natAbs ≤ 9223372036854775807 → ∀ k, n < k → impl_gcd.l0 k a b = some (Int.gcd a b : Int) := by
  induction n with
  | zero =>
    intro a b hb ha _ k hk
    obtain ⟨k, rfl⟩ : ∃ m, k = m + 1 := ⟨k - 1, by omega⟩
    obtain rfl : b = 0 := by omega
    simp only [impl_gcd.l0]
    rw [if_pos trivial, mx_abs (by omega) (by omega), Int.gcd_zero_right]
  | succ n ih =>
    intro a b hb ha hb' k hk
    obtain ⟨k, rfl⟩ : ∃ m, k = m + 1 := ⟨k - 1, by omega⟩
    simp only [impl_gcd.l0]
    by_cases h : b = 0
    · subst h; rw [if_pos rfl, mx_abs (by omega) (by omega), Int.gcd_zero_right]
    · have := natAbs_tmod_lt a h
      rw [if_neg h, ih b (Int.tmod a b) (by omega) hb' (by omega) k (by omega), gcd_tmod]
theorem impl_gcd_f {a b : Int} {k : Nat} (ha : a.natAbs ≤ 9223372036854775807) (hb : b.natAbs ≤ 9223372036854775807) (hk : b.natAbs < k) : impl_gcd.f k a b = some (Int.gcd a b : Int) :=
  impl_gcd_l0 b.natAbs a b (Nat.le_refl _) ha hb k hk

-- impl_isFraction
theorem impl_isFraction_f (a b : Int) {k : Nat} (hk : 1000001 ≤ k) : impl_isFraction.f k a b = some (decide (Frac a b)) := by
  unfold impl_isFraction.f
  rw [impl_isPart_f]; simp only [Option.bind_some, decide_eq_true_eq]
  by_cases h1 : -1000000 ≤ a ∧ a ≤ 1000000
  · rw [if_pos h1]
    by_cases h2 : b < 0
    · rw [if_pos h2]; exact (dec_false (fun x => by have := x.2.1; omega)).symm
    · rw [if_neg h2]
      by_cases h2' : b > 1000000
      · rw [if_pos h2']; exact (dec_false (fun x => by have := x.2.1; omega)).symm
      · rw [if_neg h2', impl_gcd_f (by omega) (by omega) (by omega)]; simp only [Option.bind_some]
        have hb : (((Int.gcd a b : Nat) : Int) == 1) = decide (Int.gcd a b = 1) := by
          rw [Bool.eq_iff_iff]; simp; omega
        rw [hb]
        by_cases h4 : b = 0
        · rw [if_pos h4]
          by_cases h5 : a = 1
          · rw [if_pos h5]; exact dec_iff ⟨fun h => ⟨h1, by omega, h, fun _ => h5⟩, fun h => h.2.2.1⟩
          · rw [if_neg h5]; exact (dec_false (fun x => h5 (x.2.2.2 h4))).symm
        · rw [if_neg h4]; exact dec_iff ⟨fun h => ⟨h1, by omega, h, fun h' => absurd h' h4⟩, fun h => h.2.2.1⟩
  · rw [if_neg h1]; exact (dec_false (fun x => h1 x.1)).symm

-- impl_isSmall
theorem impl_isSmall_f (a b m : Int) {k : Nat} (hk : 1000001 ≤ k) (hm : 0 ≤ m) (hm' : m ≤ 1000000) : impl_isSmall.f k a b m = some (decide (Small a b m)) := by
  unfold impl_isSmall.f
  rw [impl_isFraction_f a b hk]; simp only [Option.bind_some, decide_eq_true_eq]
  by_cases h : Frac a b
  · rw [if_pos h, wrap64_in (by omega) (by omega)]
    by_cases h1 : a ≥ -m
    · rw [if_pos h1]
      by_cases h2 : a ≤ m
      · rw [if_pos h2]; exact dec_iff ⟨fun x => ⟨h, ⟨h1, h2⟩, x⟩, fun x => x.2.2⟩
      · rw [if_neg h2]; exact (dec_false (fun x => h2 x.2.1.2)).symm
    · rw [if_neg h1]; exact (dec_false (fun x => h1 x.2.1.1)).symm
  · rw [if_neg h]; exact (dec_false (fun x => h x.1)).symm

-- impl_numberOf
theorem impl_numberOf_f (a b c d : Int) {k : Nat} (hk : 1000001 ≤ k) : impl_numberOf.f k a b c d = some (numv a b c d) := by
  unfold impl_numberOf.f
  rw [impl_isSmall_f a b 1000 hk (by omega) (by omega), impl_isSmall_f c d 1000 hk (by omega) (by omega)]; simp only [Option.bind_some, decide_eq_true_eq]
  by_cases h : Small a b 1000
  · rw [if_pos h]
    by_cases h' : Small c d 1000
    · rw [if_pos h', num_value h h']; unfold numv; rw [if_pos ⟨h, h'⟩]
    · rw [if_neg h']; unfold numv; rw [if_neg (fun x => h' x.2)]
  · rw [if_neg h]; unfold numv; rw [if_neg (fun x => h x.1)]

-- spec_l1In
theorem spec_l1In_f (a b c : Int) : spec_l1In.f a b c = some (decide (b ≤ a ∧ a ≤ c)) := by
  unfold spec_l1In.f
  by_cases h : b ≤ a
  · rw [if_pos h]; exact dec_iff ⟨fun x => ⟨h, x⟩, fun x => x.2⟩
  · rw [if_neg h]; exact (dec_false (fun x => h x.1)).symm

-- spec_l1Common
theorem spec_l1Common_l0 (n : Nat) : ∀ (a b : Int), b.natAbs ≤ n → 0 ≤ a → 0 ≤ b → ∀ k, n < k → spec_l1Common.l0 k a b = some (Int.gcd a b : Int) := by
  induction n with
  | zero =>
    intro a b hb ha _ k hk
    obtain ⟨k, rfl⟩ : ∃ m, k = m + 1 := ⟨k - 1, by omega⟩
    obtain rfl : b = 0 := by omega
    simp only [spec_l1Common.l0]
    rw [if_neg (by omega), Int.gcd_zero_right]
    congr 1; omega
  | succ n ih =>
    intro a b hb ha hb' k hk
    obtain ⟨k, rfl⟩ : ∃ m, k = m + 1 := ⟨k - 1, by omega⟩
    simp only [spec_l1Common.l0]
    by_cases h : b = 0
    · subst h; rw [if_neg (by omega), Int.gcd_zero_right]; congr 1; omega
    · have := natAbs_tmod_lt a h
      rw [if_pos (by omega), if_neg h, ih b (Int.tmod a b) (by omega) hb' (Int.tmod_nonneg _ ha) k (by omega), gcd_tmod]
theorem spec_l1Common_f {a b : Int} {k : Nat} (ha : a.natAbs ≤ 9223372036854775807) (hb : b.natAbs ≤ 9223372036854775807) (hk : b.natAbs < k) : spec_l1Common.f k a b = some (Int.gcd a b : Int) := by
  unfold spec_l1Common.f
  rw [mx_abs (by omega) (by omega), mx_abs (by omega) (by omega), spec_l1Common_l0 b.natAbs _ _ (by omega) (by omega) (by omega) k hk]
  rfl

-- spec_FractionOk
theorem spec_FractionOk_f (a b : Int) {k : Nat} (hk : 1000001 ≤ k) : spec_FractionOk.f k a b = some (decide (Frac a b)) := by
  unfold spec_FractionOk.f
  rw [spec_l1In_f]; simp only [Option.bind_some, decide_eq_true_eq]
  by_cases h1 : -1000000 ≤ a ∧ a ≤ 1000000
  · rw [if_pos h1, spec_l1In_f]; simp only [Option.bind_some, decide_eq_true_eq]
    by_cases h2 : 0 ≤ b ∧ b ≤ 1000000
    · rw [if_pos h2, spec_l1Common_f (by omega) (by omega) (by omega)]; simp only [Option.bind_some]
      by_cases h3 : Int.gcd a b = 1
      · rw [if_pos (by omega)]
        by_cases h4 : b > 0
        · rw [if_pos h4]; exact (dec_true ⟨h1, h2, h3, by omega⟩).symm
        · rw [if_neg h4]
          by_cases h5 : a = 1
          · rw [(dec_true ⟨h1, h2, h3, fun _ => h5⟩ : some (decide (Frac a b)) = _)]; simp [h5]
          · rw [(dec_false (fun x => h5 (x.2.2.2 (by omega))) : some (decide (Frac a b)) = _)]; simp [h5]
      · rw [if_neg (by omega)]; exact (dec_false (fun x => h3 x.2.2.1)).symm
    · rw [if_neg h2]; exact (dec_false (fun x => h2 x.2.1)).symm
  · rw [if_neg h1]; exact (dec_false (fun x => h1 x.1)).symm

-- spec_NumberOf
theorem spec_NumberOf_f (a b c d : Int) {k : Nat} (hk : 1000001 ≤ k) : spec_NumberOf.f k a b c d = some (numv a b c d) := by
  unfold spec_NumberOf.f
  simp only [spec_FractionOk_f _ _ hk, spec_l1In_f, Option.bind_some, decide_eq_true_eq]
  by_cases hs : Small a b 1000 ∧ Small c d 1000
  · obtain ⟨h, h'⟩ := hs
    rw [if_pos h.1, if_pos h'.1, if_pos h.2.1, if_pos h'.2.1, if_neg (by have := h.2.2; omega), if_neg (by have := h'.2.2; omega), num_value h h']; unfold numv; rw [if_pos ⟨h, h'⟩]
  · unfold numv; rw [if_neg hs]
    by_cases h1 : Frac a b
    · rw [if_pos h1]
      by_cases h2 : Frac c d
      · rw [if_pos h2]
        by_cases h3 : -1000 ≤ a ∧ a ≤ 1000
        · rw [if_pos h3]
          by_cases h4 : -1000 ≤ c ∧ c ≤ 1000
          · rw [if_pos h4]
            by_cases h5 : b > 1000
            · rw [if_pos h5]
            · rw [if_neg h5]
              by_cases h6 : d > 1000
              · rw [if_pos h6]
              · exact absurd ⟨⟨h1, h3, by omega⟩, ⟨h2, h4, by omega⟩⟩ hs
          · rw [if_neg h4]
        · rw [if_neg h3]
      · rw [if_neg h2]
    · rw [if_neg h1]

theorem FnExactNumberOf (a b c d : Int) (_ : (Lit.int .i64 a).wf = true) (_ : (Lit.int .i64 b).wf = true) (_ : (Lit.int .i64 c).wf = true) (_ : (Lit.int .i64 d).wf = true) : ∃ k, laws_FnExactNumberOf.f k a b c d = some true := by
  obtain ⟨k, hk⟩ := bigk
  refine ⟨k, ?_⟩
  unfold laws_FnExactNumberOf.f laws_toFraction.f impl_NumberOf.f
  simp only [Option.bind_some, spec_NumberOf_f a b c d (show 1000001 ≤ k by omega), impl_numberOf_f a b c d (show 1000001 ≤ k by omega)]
  simp

end Go.Proofs.Ytaongkphmkldjaa.Pure
