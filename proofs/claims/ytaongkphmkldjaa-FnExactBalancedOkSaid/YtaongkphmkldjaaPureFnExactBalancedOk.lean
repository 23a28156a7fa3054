/- FnExactBalancedOk: the program's BalancedOk answers as the reference's does, for all arguments. -/
import Derived.Test.YtaongkphmkldjaaPFnExactBalancedOkx0
import Derived.Test.YtaongkphmkldjaaPFnExactBalancedOkx1
set_option linter.unusedVariables false
set_option linter.unusedSimpArgs false
namespace Go.Proofs.Ytaongkphmkldjaa.Pure
open Go.RowKit Go.Proofs.Ytaongkphmkldjaa.PFnExactBalancedOk Go.Proofs.YtaongkphmkldjaaW.PrintWords Go.Proofs.YtaongkphmkldjaaW.PrintLast Go.Proofs.YtaongkphmkldjaaW.PrintMore

-- base
theorem wrap64_in {n : Int} (h : -9223372036854775808 ≤ n) (h' : n ≤ 9223372036854775807) : wrap64 n = n := by unfold wrap64; omega
theorem i64_of_wf {n : Int} (h : (Lit.int .i64 n).wf = true) : -9223372036854775808 ≤ n ∧ n ≤ 9223372036854775807 := by
  simpa [Lit.wf, IntKind.min, IntKind.max, IntKind.signed, IntKind.bits] using h
theorem bigk : ∃ k : Nat, 1000000000 ≤ k := ⟨1000000000, Nat.le_refl _⟩
theorem dec_true {p : Prop} [Decidable p] (h : p) : some (decide p) = some true := by simp [h]
theorem dec_false {p : Prop} [Decidable p] (h : ¬ p) : some (decide p) = some false := by simp [h]
theorem dec_iff {p q : Prop} [Decidable p] [Decidable q] (h : p ↔ q) : some (decide p) = some (decide q) := by simp [h]

-- spec_l1In
theorem spec_l1In_f (a b c : Int) : spec_l1In.f a b c = some (decide (b ≤ a ∧ a ≤ c)) := by
  unfold spec_l1In.f
  by_cases h : b ≤ a
  · rw [if_pos h]; exact dec_iff ⟨fun x => ⟨h, x⟩, fun x => x.2⟩
  · rw [if_neg h]; exact (dec_false (fun x => h x.1)).symm

-- impl_isPart
theorem impl_isPart_f (a : Int) : impl_isPart.f a = some (decide (-1000000 ≤ a ∧ a ≤ 1000000)) := by
  unfold impl_isPart.f
  by_cases h : -1000000 ≤ a
  · rw [if_pos h]; exact dec_iff ⟨fun x => ⟨h, x⟩, fun x => x.2⟩
  · rw [if_neg h]; exact (dec_false (fun x => h x.1)).symm

theorem FnExactBalancedOk (a b c d : Int) (_ : (Lit.int .i64 a).wf = true) (_ : (Lit.int .i64 b).wf = true) (_ : (Lit.int .i64 c).wf = true) (_ : (Lit.int .i64 d).wf = true) :
    laws_FnExactBalancedOk.f a b c d = some true := by
  have e : impl_isBalanced.f a b c d = spec_BalancedOk.f a b c d := by
    unfold impl_isBalanced.f spec_BalancedOk.f
    simp only [impl_isPart_f, spec_l1In_f]
  have t : ∃ r, spec_BalancedOk.f a b c d = some r := by
    unfold spec_BalancedOk.f
    simp only [spec_l1In_f, Option.bind_some]
    repeat' split
    all_goals exact ⟨_, rfl⟩
  obtain ⟨r, hr⟩ := t
  unfold laws_FnExactBalancedOk.f laws_toColours.f impl_BalancedOk.f
  simp only [Option.bind_some, e, hr]
  simp

end Go.Proofs.Ytaongkphmkldjaa.Pure
