/- FnExactToldBy: the program's ToldBy answers as the reference's does, for all arguments. -/
import Derived.Test.YtaongkphmkldjaaPFnExactToldByx0
import Derived.Test.YtaongkphmkldjaaPFnExactToldByx1
import Derived.Test.YtaongkphmkldjaaPFnExactToldByx2
import Derived.Test.YtaongkphmkldjaaPFnExactToldByx3
set_option linter.unusedVariables false
set_option linter.unusedSimpArgs false
namespace Go.Proofs.Ytaongkphmkldjaa.Pure
open Go.RowKit Go.Proofs.Ytaongkphmkldjaa.PFnExactToldBy Go.Proofs.YtaongkphmkldjaaW.PrintWords Go.Proofs.YtaongkphmkldjaaW.PrintLast Go.Proofs.YtaongkphmkldjaaW.PrintMore

-- base
theorem wrap64_in {n : Int} (h : -9223372036854775808 ≤ n) (h' : n ≤ 9223372036854775807) : wrap64 n = n := by unfold wrap64; omega
theorem i64_of_wf {n : Int} (h : (Lit.int .i64 n).wf = true) : -9223372036854775808 ≤ n ∧ n ≤ 9223372036854775807 := by
  simpa [Lit.wf, IntKind.min, IntKind.max, IntKind.signed, IntKind.bits] using h
theorem bigk : ∃ k : Nat, 1000000000 ≤ k := ⟨1000000000, Nat.le_refl _⟩
theorem dec_true {p : Prop} [Decidable p] (h : p) : some (decide p) = some true := by simp [h]
theorem dec_false {p : Prop} [Decidable p] (h : ¬ p) : some (decide p) = some false := by simp [h]
theorem dec_iff {p q : Prop} [Decidable p] [Decidable q] (h : p ↔ q) : some (decide p) = some (decide q) := by simp [h]

-- frac
/-- A fraction in lowest terms, as FractionOk tells it. -/
def Frac (a b : Int) : Prop := (-1000000 ≤ a ∧ a ≤ 1000000) ∧ (0 ≤ b ∧ b ≤ 1000000) ∧ Int.gcd a b = 1 ∧ (b = 0 → a = 1)
instance (a b : Int) : Decidable (Frac a b) := by unfold Frac; infer_instance

-- gcdmath
theorem natAbs_tmod_lt (a : Int) {b : Int} (h : b ≠ 0) : (Int.tmod a b).natAbs < b.natAbs := by
  rw [Int.natAbs_tmod]
  exact Nat.mod_lt _ (by omega)
theorem gcd_tmod (a b : Int) : Int.gcd b (Int.tmod a b) = Int.gcd a b := by
  unfold Int.gcd
  rw [Int.natAbs_tmod, Nat.gcd_comm a.natAbs, Nat.gcd_rec b.natAbs a.natAbs, Nat.gcd_comm]
theorem mx_abs {a : Int} (h : -9223372036854775808 < a) (h' : a ≤ 9223372036854775807) : mx a (wrap64 (-a)) = (a.natAbs : Int) := by
  rw [wrap64_in (by omega) (by omega)]; unfold mx; split <;> omega

-- lowmath
/-- Two numbers in lowest terms. -/
def lowv (a b : Int) : Int × Int := if b < 0 ∨ (b = 0 ∧ a < 0) then (Int.tdiv a (-(Int.gcd a b : Int)), Int.tdiv b (-(Int.gcd a b : Int))) else (Int.tdiv a (Int.gcd a b : Int), Int.tdiv b (Int.gcd a b : Int))
theorem gcd_ne {a b : Int} (h : ¬ (a = 0 ∧ b = 0)) : Int.gcd a b ≠ 0 := by
  intro x; rw [Int.gcd_eq_zero_iff] at x; exact h x
theorem tdiv_wrap {a g : Int} (h : a.natAbs ≤ 9223372036854775807) : wrap64 (Int.tdiv a g) = Int.tdiv a g := by
  have := Nat.div_le_self a.natAbs g.natAbs
  have e : (Int.tdiv a g).natAbs = a.natAbs / g.natAbs := Int.natAbs_tdiv a g
  rw [← e] at this
  exact wrap64_in (by omega) (by omega)
theorem gcd_le_abs {a b : Int} (h : ¬ (a = 0 ∧ b = 0)) : (Int.gcd a b) ≤ a.natAbs + b.natAbs := by
  by_cases ha : a = 0
  · subst ha; rw [Int.gcd_zero_left]; omega
  · have := Int.gcd_le_natAbs_left (b := b) ha; omega

-- lowestof
/-- What LowestOf answers. -/
def LowOk (a b : Int) : Prop := (-1000000 ≤ a ∧ a ≤ 1000000) ∧ (-1000000 ≤ b ∧ b ≤ 1000000) ∧ ¬ (a = 0 ∧ b = 0)
instance (a b : Int) : Decidable (LowOk a b) := by unfold LowOk; infer_instance
def lowofv (a b : Int) : Int × Int × Bool := if LowOk a b then ((lowv a b).1, (lowv a b).2, true) else (0, 0, false)

-- balmath
def PartP (a : Int) : Prop := -1000000 ≤ a ∧ a ≤ 1000000
instance (a : Int) : Decidable (PartP a) := by unfold PartP; infer_instance
/-- Colours are balanced. -/
def BalP (a b c d : Int) : Prop := PartP a ∧ PartP b ∧ PartP c ∧ PartP d ∧ a + d = b + c
instance (a b c d : Int) : Decidable (BalP a b c d) := by unfold BalP; infer_instance
def toldv (a b c d : Int) : Int × Int × Bool := if BalP a b c d then lowofv (b - a) (b - d) else (0, 0, false)
theorem bal_end {a b c d : Int} (h1 : PartP a) (h2 : PartP b) (h3 : PartP c) (h4 : PartP d) : some ((wrap64 (a + d)) == (wrap64 (b + c))) = some (decide (BalP a b c d)) := by
  unfold PartP at h1 h2 h3 h4
  rw [wrap64_in (by omega) (by omega), wrap64_in (by omega) (by omega)]
  exact dec_iff ⟨fun x => ⟨h1, h2, h3, h4, x⟩, fun x => x.2.2.2.2⟩

-- impl_isPart
theorem impl_isPart_f (a : Int) : impl_isPart.f a = some (decide (-1000000 ≤ a ∧ a ≤ 1000000)) := by
  unfold impl_isPart.f
  by_cases h : -1000000 ≤ a
  · rw [if_pos h]; exact dec_iff ⟨fun x => ⟨h, x⟩, fun x => x.2⟩
  · rw [if_neg h]; exact (dec_false (fun x => h x.1)).symm

-- impl_isBalanced
theorem impl_isBalanced_f (a b c d : Int) : impl_isBalanced.f a b c d = some (decide (BalP a b c d)) := by
  unfold impl_isBalanced.f
  simp only [impl_isPart_f, Option.bind_some, decide_eq_true_eq]
  by_cases h1 : -1000000 ≤ a ∧ a ≤ 1000000
  · rw [if_pos h1]
    by_cases h2 : -1000000 ≤ b ∧ b ≤ 1000000
    · rw [if_pos h2]
      by_cases h3 : -1000000 ≤ c ∧ c ≤ 1000000
      · rw [if_pos h3]
        by_cases h4 : -1000000 ≤ d ∧ d ≤ 1000000
        · rw [if_pos h4]; exact bal_end h1 h2 h3 h4
        · rw [if_neg h4]; exact (dec_false (fun x => h4 x.2.2.2.1)).symm
      · rw [if_neg h3]; exact (dec_false (fun x => h3 x.2.2.1)).symm
    · rw [if_neg h2]; exact (dec_false (fun x => h2 x.2.1)).symm
  · rw [if_neg h1]; exact (dec_false (fun x => h1 x.1)).symm

-- impl_gcd
theorem impl_gcd_l0 (n : Nat) : ∀ (a b : Int), b.natAbs ≤ n → a.natAbs ≤ 9223372036854775807 → b.natAbs ≤ 9223372036854775807 → ∀ k, n < k → impl_gcd.l0 k a b = some (Int.gcd a b : Int) := by
  induction n with
  | zero =>
    intro a b hb ha _ k hk
    obtain ⟨k, rfl⟩ : ∃ m, k = m + 1 := ⟨k - 1, by omega⟩
    obtain rfl : b = 0 := by omega
    simp only [impl_gcd.l0]
    rw [if_pos trivial, mx_abs (by omega) (by omega), Int.gcd_zero_right]
  | succ n ih =>
    intro a b hb ha hb' k hk
    obtain ⟨k, rfl⟩ : ∃ m, k = m + 1 := ⟨k - 1, by omega⟩
    simp only [impl_gcd.l0]
    by_cases h : b = 0
    · subst h; rw [if_pos rfl, mx_abs (by omega) (by omega), Int.gcd_zero_right]
    · have := natAbs_tmod_lt a h
      rw [if_neg h, ih b (Int.tmod a b) (by omega) hb' (by omega) k (by omega), gcd_tmod]
theorem impl_gcd_f {a b : Int} {k : Nat} (ha : a.natAbs ≤ 9223372036854775807) (hb : b.natAbs ≤ 9223372036854775807) (hk : b.natAbs < k) : impl_gcd.f k a b = some (Int.gcd a b : Int) :=
  impl_gcd_l0 b.natAbs a b (Nat.le_refl _) ha hb k hk

-- impl_lowest
theorem impl_lowest_f {a b : Int} {k : Nat} (h : ¬ (a = 0 ∧ b = 0)) (ha : a.natAbs ≤ 1000000) (hb : b.natAbs ≤ 1000000) (hk : 1000001 ≤ k) : impl_lowest.f k a b = some (lowv a b) := by
  unfold impl_lowest.f
  rw [impl_gcd_f (by omega) (by omega) (by omega)]; simp only [Option.bind_some]
  have hg := gcd_ne h
  have hl := gcd_le_abs h
  rw [wrap64_in (n := -((Int.gcd a b : Nat) : Int)) (by omega) (by omega)]
  unfold lowv
  by_cases h1 : b < 0
  · rw [if_pos h1, if_neg (by omega), if_pos (.inl h1), tdiv_wrap (by omega), tdiv_wrap (by omega)]
  · rw [if_neg h1]
    by_cases h2 : b = 0
    · rw [if_pos h2]
      by_cases h3 : a < 0
      · rw [if_pos h3, if_neg (by omega), if_pos (.inr ⟨h2, h3⟩), tdiv_wrap (by omega), tdiv_wrap (by omega)]
      · rw [if_neg h3, if_neg (by omega), if_neg (by omega), tdiv_wrap (by omega), tdiv_wrap (by omega)]
    · rw [if_neg h2, if_neg (by omega), if_neg (by omega), tdiv_wrap (by omega), tdiv_wrap (by omega)]

-- impl_LowestOf
theorem impl_LowestOf_f (a b : Int) {k : Nat} (hk : 1000001 ≤ k) : impl_LowestOf.f k a b = some (lowofv a b) := by
  unfold impl_LowestOf.f
  simp only [impl_isPart_f, Option.bind_some, decide_eq_true_eq]
  unfold lowofv
  by_cases h1 : -1000000 ≤ a ∧ a ≤ 1000000
  · rw [if_pos h1]
    by_cases h2 : -1000000 ≤ b ∧ b ≤ 1000000
    · rw [if_pos h2]
      by_cases h3 : a = 0
      · rw [if_pos h3]
        by_cases h4 : b = 0
        · rw [if_pos h4, if_neg (show ¬ LowOk a b from fun x => x.2.2 ⟨h3, h4⟩)]
        · rw [if_neg h4, impl_lowest_f (by omega) (by omega) (by omega) hk, if_pos (show LowOk a b from ⟨h1, h2, fun x => h4 x.2⟩)]; rfl
      · rw [if_neg h3, impl_lowest_f (by omega) (by omega) (by omega) hk, if_pos (show LowOk a b from ⟨h1, h2, fun x => h3 x.1⟩)]; rfl
    · rw [if_neg h2, if_neg (show ¬ LowOk a b from fun x => h2 x.2.1)]
  · rw [if_neg h1, if_neg (show ¬ LowOk a b from fun x => h1 x.1)]

-- impl_ToldBy
theorem impl_ToldBy_f (a b c d : Int) {k : Nat} (hk : 1000002 ≤ k) : impl_ToldBy.f k a b c d = some (toldv a b c d) := by
  unfold impl_ToldBy.f toldv
  rw [impl_isBalanced_f]; simp only [Option.bind_some, decide_eq_true_eq]
  by_cases h : BalP a b c d
  · have h1 := h.1
    have h2 := h.2.1
    have h4 := h.2.2.2.1
    unfold PartP at h1 h2 h4
    rw [if_pos h, if_pos h, wrap64_in (by omega) (by omega), wrap64_in (by omega) (by omega), impl_LowestOf_f _ _ (by omega)]; rfl
  · rw [if_neg h, if_neg h]

-- spec_l1In
theorem spec_l1In_f (a b c : Int) : spec_l1In.f a b c = some (decide (b ≤ a ∧ a ≤ c)) := by
  unfold spec_l1In.f
  by_cases h : b ≤ a
  · rw [if_pos h]; exact dec_iff ⟨fun x => ⟨h, x⟩, fun x => x.2⟩
  · rw [if_neg h]; exact (dec_false (fun x => h x.1)).symm

-- spec_BalancedOk
theorem spec_BalancedOk_f (a b c d : Int) : spec_BalancedOk.f a b c d = some (decide (BalP a b c d)) := by
  unfold spec_BalancedOk.f
  simp only [spec_l1In_f, Option.bind_some, decide_eq_true_eq]
  by_cases h1 : -1000000 ≤ a ∧ a ≤ 1000000
  · rw [if_pos h1]
    by_cases h2 : -1000000 ≤ b ∧ b ≤ 1000000
    · rw [if_pos h2]
      by_cases h3 : -1000000 ≤ c ∧ c ≤ 1000000
      · rw [if_pos h3]
        by_cases h4 : -1000000 ≤ d ∧ d ≤ 1000000
        · rw [if_pos h4]; exact bal_end h1 h2 h3 h4
        · rw [if_neg h4]; exact (dec_false (fun x => h4 x.2.2.2.1)).symm
      · rw [if_neg h3]; exact (dec_false (fun x => h3 x.2.2.1)).symm
    · rw [if_neg h2]; exact (dec_false (fun x => h2 x.2.1)).symm
  · rw [if_neg h1]; exact (dec_false (fun x => h1 x.1)).symm

-- spec_l1Common
theorem spec_l1Common_l0 (n : Nat) : ∀ (a b : Int), b.natAbs ≤ n → 0 ≤ a → 0 ≤ b → ∀ k, n < k → spec_l1Common.l0 k a b = some (Int.gcd a b : Int) := by
  induction n with
  | zero =>
    intro a b hb ha _ k hk
    obtain ⟨k, rfl⟩ : ∃ m, k = m + 1 := ⟨k - 1, by omega⟩
    obtain rfl : b = 0 := by omega
    simp only [spec_l1Common.l0]
    rw [if_neg (by omega), Int.gcd_zero_right]
    congr 1; omega
  | succ n ih =>
    intro a b hb ha hb' k hk
    obtain ⟨k, rfl⟩ : ∃ m, k = m + 1 := ⟨k - 1, by omega⟩
    simp only [spec_l1Common.l0]
    by_cases h : b = 0
    · subst h; rw [if_neg (by omega), Int.gcd_zero_right]; congr 1; omega
    · have := natAbs_tmod_lt a h
      rw [if_pos (by omega), if_neg h, ih b (Int.tmod a b) (by omega) hb' (Int.tmod_nonneg _ ha) k (by omega), gcd_tmod]
theorem spec_l1Common_f {a b : Int} {k : Nat} (ha : a.natAbs ≤ 9223372036854775807) (hb : b.natAbs ≤ 9223372036854775807) (hk : b.natAbs < k) : spec_l1Common.f k a b = some (Int.gcd a b : Int) := by
  unfold spec_l1Common.f
  rw [mx_abs (by omega) (by omega), mx_abs (by omega) (by omega), spec_l1Common_l0 b.natAbs _ _ (by omega) (by omega) (by omega) k hk]
  rfl

-- spec_LowestOf
theorem spec_LowestOf_f (a b : Int) {k : Nat} (hk : 1000002 ≤ k) : spec_LowestOf.f k a b = some (lowofv a b) := by
  obtain ⟨k, rfl⟩ : ∃ m, k = m + 1 := ⟨k - 1, by omega⟩
  unfold spec_LowestOf.f
  simp only [spec_l1In_f, Option.bind_some, decide_eq_true_eq]
  unfold lowofv
  by_cases h : LowOk a b
  · rw [if_pos h.1, if_pos h.2.1, if_pos h]
    have e : (if a = 0 then spec_LowestOf.j0 (k + 1) a b (b == 0) else spec_LowestOf.j0 (k + 1) a b false) = spec_LowestOf.j0 (k + 1) a b false := by
      by_cases h3 : a = 0
      · rw [if_pos h3, show (b == 0) = false from by simp; exact fun x => h.2.2 ⟨h3, x⟩]
      · rw [if_neg h3]
    rw [e]
    have h1 := h.1
    have h2 := h.2.1
    simp only [spec_LowestOf.j0]
    rw [if_neg (by decide), spec_l1Common_f (by omega) (by omega) (by omega)]; simp only [Option.bind_some]
    have hg := gcd_ne h.2.2
    have hl := gcd_le_abs h.2.2
    rw [wrap64_in (n := -((Int.gcd a b : Nat) : Int)) (by omega) (by omega)]
    unfold lowv
    by_cases h1 : b < 0
    · rw [if_pos h1, if_neg (by omega), if_pos (.inl h1), tdiv_wrap (by omega), tdiv_wrap (by omega)]
    · rw [if_neg h1]
      by_cases h2 : b = 0
      · rw [if_pos h2]
        by_cases h3 : a < 0
        · rw [if_pos h3, if_neg (by omega), if_pos (.inr ⟨h2, h3⟩), tdiv_wrap (by omega), tdiv_wrap (by omega)]
        · rw [if_neg h3, if_neg (by omega), if_neg (by omega), tdiv_wrap (by omega), tdiv_wrap (by omega)]
      · rw [if_neg h2, if_neg (by omega), if_neg (by omega), tdiv_wrap (by omega), tdiv_wrap (by omega)]
  · rw [if_neg h]
    have e : spec_LowestOf.j0 (k + 1) a b true = some (0, 0, false) := by simp only [spec_LowestOf.j0]; rw [if_pos trivial]
    by_cases h1 : -1000000 ≤ a ∧ a ≤ 1000000
    · rw [if_pos h1]
      by_cases h2 : -1000000 ≤ b ∧ b ≤ 1000000
      · rw [if_pos h2]
        have h3 : a = 0 ∧ b = 0 := by
          by_cases x : a = 0 ∧ b = 0
          · exact x
          · exact absurd ⟨h1, h2, x⟩ h
        rw [if_pos h3.1, h3.2]
        rw [h3.2] at e
        exact e
      · rw [if_neg h2, e]
    · rw [if_neg h1, e]

-- spec_ToldBy
theorem spec_ToldBy_f (a b c d : Int) {k : Nat} (hk : 1000002 ≤ k) : spec_ToldBy.f k a b c d = some (toldv a b c d) := by
  unfold spec_ToldBy.f toldv
  rw [spec_BalancedOk_f]; simp only [Option.bind_some, decide_eq_true_eq]
  by_cases h : BalP a b c d
  · have h1 := h.1
    have h2 := h.2.1
    have h4 := h.2.2.2.1
    unfold PartP at h1 h2 h4
    rw [if_pos h, if_pos h, wrap64_in (by omega) (by omega), wrap64_in (by omega) (by omega), spec_LowestOf_f _ _ hk]; rfl
  · rw [if_neg h, if_neg h]

-- eqFraction
theorem eqFraction_f (a b c d : Int) : laws_eqFraction.f a b c d = some (decide (a = c ∧ b = d)) := by
  unfold laws_eqFraction.f
  by_cases h : a = c
  · rw [if_pos h]
    by_cases h' : b = d
    · rw [if_pos h', decide_eq_true ⟨h, h'⟩]
    · rw [if_neg h', decide_eq_false (fun x => h' x.2)]
  · rw [if_neg h, decide_eq_false (fun x => h x.1)]

theorem FnExactToldBy (a b c d : Int) (_ : (Lit.int .i64 a).wf = true) (_ : (Lit.int .i64 b).wf = true) (_ : (Lit.int .i64 c).wf = true) (_ : (Lit.int .i64 d).wf = true) : ∃ k, laws_FnExactToldBy.f k a b c d = some true := by
  obtain ⟨k, hk⟩ := bigk
  refine ⟨k, ?_⟩
  unfold laws_FnExactToldBy.f laws_toColours.f
  simp only [Option.bind_some, spec_ToldBy_f a b c d (show 1000002 ≤ k by omega), impl_ToldBy_f a b c d (show 1000002 ≤ k by omega), eqFraction_f]
  simp

end Go.Proofs.Ytaongkphmkldjaa.Pure
