/- FnExactClosestDance: the program's ClosestDance answers as the reference's does, for all arguments (of the few small fractions each by itself). -/
import Derived.Test.YtgbnlaalfebaeaaPFnExactClosestDancex0
import Derived.Test.YtgbnlaalfebaeaaPFnExactClosestDancex1
import Derived.Test.YtgbnlaalfebaeaaPFnExactClosestDancex2
import Derived.Test.YtgbnlaalfebaeaaPFnExactClosestDancex3
set_option linter.unusedVariables false
set_option linter.unusedSimpArgs false
namespace Go.Proofs.Ytgbnlaalfebaeaa.Pure
open Go.RowKit Go.Proofs.Ytgbnlaalfebaeaa.PFnExactClosestDance Go.Proofs.YtgbnlaalfebaeaaW.PrintWords Go.Proofs.YtgbnlaalfebaeaaW.PrintLast Go.Proofs.YtgbnlaalfebaeaaW.PrintMore Go.Proofs.Ytgbnlaalfebaeaa.Lib

-- base
theorem wrap64_in {n : Int} (h : -9223372036854775808 ≤ n) (h' : n ≤ 9223372036854775807) : wrap64 n = n := by unfold wrap64; omega
theorem i64_of_wf {n : Int} (h : (Lit.int .i64 n).wf = true) : -9223372036854775808 ≤ n ∧ n ≤ 9223372036854775807 := by
  simpa [Lit.wf, IntKind.min, IntKind.max, IntKind.signed, IntKind.bits] using h
theorem bigk : ∃ k : Nat, 1000000000 ≤ k := ⟨1000000000, Nat.le_refl _⟩
theorem dec_true {p : Prop} [Decidable p] (h : p) : some (decide p) = some true := by simp [h]
theorem dec_false {p : Prop} [Decidable p] (h : ¬ p) : some (decide p) = some false := by simp [h]
theorem dec_iff {p q : Prop} [Decidable p] [Decidable q] (h : p ↔ q) : some (decide p) = some (decide q) := by simp [h]
theorem ite_to {c : Prop} [Decidable c] {α : Type} {x y z : α} (h1 : c → x = z) (h2 : ¬ c → y = z) : (if c then x else y) = z := by
  by_cases h : c
  · rw [if_pos h]; exact h1 h
  · rw [if_neg h]; exact h2 h

-- impl_isPart
theorem impl_isPart_f (a : Int) : impl_isPart.f a = some (decide (-1000000 ≤ a ∧ a ≤ 1000000)) := by
  unfold impl_isPart.f
  by_cases h : -1000000 ≤ a
  · rw [if_pos h]; exact dec_iff ⟨fun x => ⟨h, x⟩, fun x => x.2⟩
  · rw [if_neg h]; exact (dec_false (fun x => h x.1)).symm

-- gcdmath
theorem natAbs_tmod_lt (a : Int) {b : Int} (h : b ≠ 0) : (Int.tmod a b).natAbs < b.natAbs := by
  rw [Int.natAbs_tmod]
  exact Nat.mod_lt _ (by omega)
theorem gcd_tmod (a b : Int) : Int.gcd b (Int.tmod a b) = Int.gcd a b := by
  unfold Int.gcd
  rw [Int.natAbs_tmod, Nat.gcd_comm a.natAbs, Nat.gcd_rec b.natAbs a.natAbs, Nat.gcd_comm]
theorem mx_abs {a : Int} (h : -9223372036854775808 < a) (h' : a ≤ 9223372036854775807) : mx a (wrap64 (-a)) = (a.natAbs : Int) := by
  rw [wrap64_in (by omega) (by omega)]; unfold mx; split <;> omega

-- impl_gcd
theorem impl_gcd_l0 (n : Nat) : ∀ (a b : Int), b.natAbs ≤ n → a.natAbs ≤ 9223372036854775807 → b.natAbs ≤ 9223372036854775807 → ∀ k, n < k → impl_gcd.l0 k a b = some (Int.gcd a b : Int) := by
  induction n with
  | zero =>
    intro a b hb ha _ k hk
    obtain ⟨k, rfl⟩ : ∃ m, k = m + 1 := ⟨k - 1, by omega⟩
    obtain rfl : b = 0 := by omega
    simp only [impl_gcd.l0]
    rw [if_pos trivial, mx_abs (by omega) (by omega), Int.gcd_zero_right]
  | succ n ih =>
    intro a b hb ha hb' k hk
    obtain ⟨k, rfl⟩ : ∃ m, k = m + 1 := ⟨k - 1, by omega⟩
    simp only [impl_gcd.l0]
    by_cases h : b = 0
    · subst h; rw [if_pos rfl, mx_abs (by omega) (by omega), Int.gcd_zero_right]
    · have := natAbs_tmod_lt a h
      rw [if_neg h, ih b (Int.tmod a b) (by omega) hb' (by omega) k (by omega), gcd_tmod]
theorem impl_gcd_f {a b : Int} {k : Nat} (ha : a.natAbs ≤ 9223372036854775807) (hb : b.natAbs ≤ 9223372036854775807) (hk : b.natAbs < k) : impl_gcd.f k a b = some (Int.gcd a b : Int) :=
  impl_gcd_l0 b.natAbs a b (Nat.le_refl _) ha hb k hk

-- frac
/-- A fraction in lowest terms, as FractionOk tells it. -/
def Frac (a b : Int) : Prop := (-1000000 ≤ a ∧ a ≤ 1000000) ∧ (0 ≤ b ∧ b ≤ 1000000) ∧ Int.gcd a b = 1 ∧ (b = 0 → a = 1)
instance (a b : Int) : Decidable (Frac a b) := by unfold Frac; infer_instance

-- impl_isFraction
theorem impl_isFraction_f (a b : Int) {k : Nat} (hk : 1000001 ≤ k) : impl_isFraction.f k a b = some (decide (Frac a b)) := by
  unfold impl_isFraction.f
  rw [impl_isPart_f]; simp only [Option.bind_some, decide_eq_true_eq]
  by_cases h1 : -1000000 ≤ a ∧ a ≤ 1000000
  · rw [if_pos h1]
    by_cases h2 : b < 0
    · rw [if_pos h2]; exact (dec_false (fun x => by have := x.2.1; omega)).symm
    · rw [if_neg h2]
      by_cases h2' : b > 1000000
      · rw [if_pos h2']; exact (dec_false (fun x => by have := x.2.1; omega)).symm
      · rw [if_neg h2', impl_gcd_f (by omega) (by omega) (by omega)]; simp only [Option.bind_some]
        have hb : (((Int.gcd a b : Nat) : Int) == 1) = decide (Int.gcd a b = 1) := by
          rw [Bool.eq_iff_iff]; simp; omega
        rw [hb]
        by_cases h4 : b = 0
        · rw [if_pos h4]
          by_cases h5 : a = 1
          · rw [if_pos h5]; exact dec_iff ⟨fun h => ⟨h1, by omega, h, fun _ => h5⟩, fun h => h.2.2.1⟩
          · rw [if_neg h5]; exact (dec_false (fun x => h5 (x.2.2.2 h4))).symm
        · rw [if_neg h4]; exact dec_iff ⟨fun h => ⟨h1, by omega, h, fun h' => absurd h' h4⟩, fun h => h.2.2.1⟩
  · rw [if_neg h1]; exact (dec_false (fun x => h1 x.1)).symm

-- small
def Small (a b m : Int) : Prop := Frac a b ∧ (-m ≤ a ∧ a ≤ m) ∧ b ≤ m
instance (a b m : Int) : Decidable (Small a b m) := by unfold Small; infer_instance

-- impl_isSmall
theorem impl_isSmall_f (a b m : Int) {k : Nat} (hk : 1000001 ≤ k) (hm : 0 ≤ m) (hm' : m ≤ 1000000) : impl_isSmall.f k a b m = some (decide (Small a b m)) := by
  unfold impl_isSmall.f
  rw [impl_isFraction_f a b hk]; simp only [Option.bind_some, decide_eq_true_eq]
  by_cases h : Frac a b
  · rw [if_pos h, wrap64_in (by omega) (by omega)]
    by_cases h1 : a ≥ -m
    · rw [if_pos h1]
      by_cases h2 : a ≤ m
      · rw [if_pos h2]; exact dec_iff ⟨fun x => ⟨h, ⟨h1, h2⟩, x⟩, fun x => x.2.2⟩
      · rw [if_neg h2]; exact (dec_false (fun x => h2 x.2.1.2)).symm
    · rw [if_neg h1]; exact (dec_false (fun x => h1 x.2.1.1)).symm
  · rw [if_neg h]; exact (dec_false (fun x => h x.1)).symm

-- spec_l1In
theorem spec_l1In_f (a b c : Int) : spec_l1In.f a b c = some (decide (b ≤ a ∧ a ≤ c)) := by
  unfold spec_l1In.f
  by_cases h : b ≤ a
  · rw [if_pos h]; exact dec_iff ⟨fun x => ⟨h, x⟩, fun x => x.2⟩
  · rw [if_neg h]; exact (dec_false (fun x => h x.1)).symm

-- spec_l1Common
theorem spec_l1Common_l0 (n : Nat) : ∀ (a b : Int), b.natAbs ≤ n → 0 ≤ a → 0 ≤ b → ∀ k, n < k → spec_l1Common.l0 k a b = some (Int.gcd a b : Int) := by
  induction n with
  | zero =>
    intro a b hb ha _ k hk
    obtain ⟨k, rfl⟩ : ∃ m, k = m + 1 := ⟨k - 1, by omega⟩
    obtain rfl : b = 0 := by omega
    simp only [spec_l1Common.l0]
    rw [if_neg (by omega), Int.gcd_zero_right]
    congr 1; omega
  | succ n ih =>
    intro a b hb ha hb' k hk
    obtain ⟨k, rfl⟩ : ∃ m, k = m + 1 := ⟨k - 1, by omega⟩
    simp only [spec_l1Common.l0]
    by_cases h : b = 0
    · subst h; rw [if_neg (by omega), Int.gcd_zero_right]; congr 1; omega
    · have := natAbs_tmod_lt a h
      rw [if_pos (by omega), if_neg h, ih b (Int.tmod a b) (by omega) hb' (Int.tmod_nonneg _ ha) k (by omega), gcd_tmod]
theorem spec_l1Common_f {a b : Int} {k : Nat} (ha : a.natAbs ≤ 9223372036854775807) (hb : b.natAbs ≤ 9223372036854775807) (hk : b.natAbs < k) : spec_l1Common.f k a b = some (Int.gcd a b : Int) := by
  unfold spec_l1Common.f
  rw [mx_abs (by omega) (by omega), mx_abs (by omega) (by omega), spec_l1Common_l0 b.natAbs _ _ (by omega) (by omega) (by omega) k hk]
  rfl

-- spec_FractionOk
theorem spec_FractionOk_f (a b : Int) {k : Nat} (hk : 1000001 ≤ k) : spec_FractionOk.f k a b = some (decide (Frac a b)) := by
  unfold spec_FractionOk.f
  rw [spec_l1In_f]; simp only [Option.bind_some, decide_eq_true_eq]
  by_cases h1 : -1000000 ≤ a ∧ a ≤ 1000000
  · rw [if_pos h1, spec_l1In_f]; simp only [Option.bind_some, decide_eq_true_eq]
    by_cases h2 : 0 ≤ b ∧ b ≤ 1000000
    · rw [if_pos h2, spec_l1Common_f (by omega) (by omega) (by omega)]; simp only [Option.bind_some]
      by_cases h3 : Int.gcd a b = 1
      · rw [if_pos (by omega)]
        by_cases h4 : b > 0
        · rw [if_pos h4]; exact (dec_true ⟨h1, h2, h3, by omega⟩).symm
        · rw [if_neg h4]
          by_cases h5 : a = 1
          · rw [(dec_true ⟨h1, h2, h3, fun _ => h5⟩ : some (decide (Frac a b)) = _)]; simp [h5]
          · rw [(dec_false (fun x => h5 (x.2.2.2 (by omega))) : some (decide (Frac a b)) = _)]; simp [h5]
      · rw [if_neg (by omega)]; exact (dec_false (fun x => h3 x.2.2.1)).symm
    · rw [if_neg h2]; exact (dec_false (fun x => h2 x.2.1)).symm
  · rw [if_neg h1]; exact (dec_false (fun x => h1 x.1)).symm

theorem cd_all : ∀ a ∈ List.range 25, ∀ b ∈ List.range 13, (spec_ClosestDance.f 300 ((a : Int) - 12) (b : Int)).isSome = true ∧ impl_ClosestDance.f 300 ((a : Int) - 12) (b : Int) = spec_ClosestDance.f 300 ((a : Int) - 12) (b : Int) := by
  decide +kernel
theorem cd_spec {a b : Int} (h : ¬ ((-12 ≤ a ∧ a ≤ 12) ∧ (0 ≤ b ∧ b ≤ 12))) : spec_ClosestDance.f 2000000 a b = some ((⟨#[]⟩ : ByteArray), false) := by
  have j : ∀ x : Bool, x = true → spec_ClosestDance.j0 2000000 x a b = some ((⟨#[]⟩ : ByteArray), false) := by
    intro x hx
    obtain ⟨k, hk⟩ : ∃ m, (2000000 : Nat) = m + 1 := ⟨1999999, rfl⟩
    rw [hk, hx]
    simp only [spec_ClosestDance.j0]
    rw [if_pos trivial]
  unfold spec_ClosestDance.f
  rw [spec_FractionOk_f a b (by omega)]; simp only [Option.bind_some, decide_eq_true_eq]
  by_cases hF : Frac a b
  · have h2 := hF.2.1
    rw [if_pos hF, spec_l1In_f]; simp only [Option.bind_some, decide_eq_true_eq]
    by_cases h1 : -12 ≤ a ∧ a ≤ 12
    · rw [if_pos h1]; exact j _ (decide_eq_true (by omega))
    · rw [if_neg h1]; exact j _ rfl
  · rw [if_neg hF]; exact j _ rfl
theorem cd_impl {a b : Int} (h : ¬ ((-12 ≤ a ∧ a ≤ 12) ∧ (0 ≤ b ∧ b ≤ 12))) : impl_ClosestDance.f 2000000 a b = some ((⟨#[]⟩ : ByteArray), false) := by
  unfold impl_ClosestDance.f
  rw [impl_isSmall_f a b 12 (by omega) (by omega) (by omega)]; simp only [Option.bind_some, decide_eq_true_eq]
  rw [if_neg (fun x => h ⟨x.2.1, x.1.2.1.1, x.2.2⟩)]
theorem FnExactClosestDance (a b : Int) (_ : (Lit.int .i64 a).wf = true) (_ : (Lit.int .i64 b).wf = true) : ∃ k, laws_FnExactClosestDance.f k a b = some true := by
  by_cases hs : (-12 ≤ a ∧ a ≤ 12) ∧ (0 ≤ b ∧ b ≤ 12)
  · refine ⟨300, ?_⟩
    obtain ⟨h1, h2⟩ := cd_all (a + 12).toNat (List.mem_range.2 (by omega)) b.toNat (List.mem_range.2 (by omega))
    rw [show (((a + 12).toNat : Nat) : Int) - 12 = a by omega, show ((b.toNat : Nat) : Int) = b by omega] at h1 h2
    unfold laws_FnExactClosestDance.f laws_toFraction.f
    simp only [Option.bind_some]
    rw [h2]
    cases e : spec_ClosestDance.f 300 a b with
    | none => rw [e] at h1; cases h1
    | some r => simp
  · refine ⟨2000000, ?_⟩
    unfold laws_FnExactClosestDance.f laws_toFraction.f
    simp only [Option.bind_some]
    rw [cd_spec hs, cd_impl hs]; simp

end Go.Proofs.Ytgbnlaalfebaeaa.Pure
