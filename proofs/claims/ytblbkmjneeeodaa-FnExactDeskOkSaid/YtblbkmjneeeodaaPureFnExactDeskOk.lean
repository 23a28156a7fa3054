/- FnExactDeskOk: the program's DeskOk answers as the reference's does, for all arguments, and leaves them as they are. -/
import Derived.Test.YtblbkmjneeeodaaPFnExactDeskOkx0
import Derived.Test.YtblbkmjneeeodaaPFnExactDeskOkx1
import Derived.Test.YtblbkmjneeeodaaPFnExactDeskOkx2
import Derived.Test.YtblbkmjneeeodaaPFnExactDeskOkx3
set_option linter.unusedVariables false
set_option linter.unusedSimpArgs false
namespace Go.Proofs.Ytblbkmjneeeodaa.Pure
open Go.RowKit Go.Proofs.Ytblbkmjneeeodaa.PFnExactDeskOk Go.Proofs.YtblbkmjneeeodaaW.PrintWords Go.Proofs.YtblbkmjneeeodaaW.PrintLast Go.Proofs.YtblbkmjneeeodaaW.PrintMore

-- base
theorem wrap64_in {n : Int} (h : -9223372036854775808 ≤ n) (h' : n ≤ 9223372036854775807) : wrap64 n = n := by unfold wrap64; omega
theorem i64_of_wf {n : Int} (h : (Lit.int .i64 n).wf = true) : -9223372036854775808 ≤ n ∧ n ≤ 9223372036854775807 := by
  simpa [Lit.wf, IntKind.min, IntKind.max, IntKind.signed, IntKind.bits] using h
theorem bigk : ∃ k : Nat, 1000000000 ≤ k := ⟨1000000000, Nat.le_refl _⟩
theorem dec_true {p : Prop} [Decidable p] (h : p) : some (decide p) = some true := by simp [h]
theorem dec_false {p : Prop} [Decidable p] (h : ¬ p) : some (decide p) = some false := by simp [h]
theorem dec_iff {p q : Prop} [Decidable p] [Decidable q] (h : p ↔ q) : some (decide p) = some (decide q) := by simp [h]
theorem ite_to {c : Prop} [Decidable c] {α : Type} {x y z : α} (h1 : c → x = z) (h2 : ¬ c → y = z) : (if c then x else y) = z := by
  by_cases h : c
  · rw [if_pos h]; exact h1 h
  · rw [if_neg h]; exact h2 h

-- frac
/-- A fraction in lowest terms, as FractionOk tells it. -/
def Frac (a b : Int) : Prop := (-1000000 ≤ a ∧ a ≤ 1000000) ∧ (0 ≤ b ∧ b ≤ 1000000) ∧ Int.gcd a b = 1 ∧ (b = 0 → a = 1)
instance (a b : Int) : Decidable (Frac a b) := by unfold Frac; infer_instance

-- deskmath
def AllF (l : List S24) : Prop := ∀ x ∈ l, Frac x.f0 x.f1
instance (l : List S24) : Decidable (AllF l) := by unfold AllF; infer_instance
theorem allF_cons (x : S24) (l : List S24) : AllF (x :: l) ↔ Frac x.f0 x.f1 ∧ AllF l := by unfold AllF; simp
/-- What DeskOk answers. -/
def DeskP (a b : Int) (l : List S24) : Prop := Frac a b ∧ l.length ≤ 8 ∧ AllF l
instance (a b : Int) (l : List S24) : Decidable (DeskP a b l) := by unfold DeskP; infer_instance
theorem rdF_drop (l : List S24) (i : Nat) (h : i < l.length) : l.drop i = rd_T24 l (i : Int) :: l.drop (i + 1) := by
  rw [List.drop_eq_getElem_cons h]
  unfold rd_T24
  simp [h]

-- impl_isPart
theorem impl_isPart_f (a : Int) : impl_isPart.f a = some (decide (-1000000 ≤ a ∧ a ≤ 1000000)) := by
  unfold impl_isPart.f
  by_cases h : -1000000 ≤ a
  · rw [if_pos h]; exact dec_iff ⟨fun x => ⟨h, x⟩, fun x => x.2⟩
  · rw [if_neg h]; exact (dec_false (fun x => h x.1)).symm

-- gcdmath
theorem natAbs_tmod_lt (a : Int) {b : Int} (h : b ≠ 0) : (Int.tmod a b).natAbs < b.natAbs := by
  rw [Int.natAbs_tmod]
  exact Nat.mod_lt _ (by omega)
theorem gcd_tmod (a b : Int) : Int.gcd b (Int.tmod a b) = Int.gcd a b := by
  unfold Int.gcd
  rw [Int.natAbs_tmod, Nat.gcd_comm a.natAbs, Nat.gcd_rec b.natAbs a.natAbs, Nat.gcd_comm]
theorem mx_abs {a : Int} (h : -9223372036854775808 < a) (h' : a ≤ 9223372036854775807) : mx a (wrap64 (-a)) = (a.natAbs : Int) := by
  rw [wrap64_in (by omega) (by omega)]; unfold mx; split <;> omega

-- impl_gcd
theorem impl_gcd_l0 (n : Nat) : ∀ (a b : Int), b.natAbs ≤ n → a.natAbs ≤ 9223372036854775807 → b.natAbs ≤ 9223372036854775807 → ∀ k, n < k → impl_gcd.l0 k a b = some (Int.gcd a b : Int) := by
  induction n with
  | zero =>
    intro a b hb ha _ k hk
    obtain ⟨k, rfl⟩ : ∃ m, k = m + 1 := ⟨k - 1, by omega⟩
    obtain rfl : b = 0 := by omega
    simp only [impl_gcd.l0]
    rw [if_pos trivial, mx_abs (by omega) (by omega), Int.gcd_zero_right]
  | succ n ih =>
    intro a b hb ha hb' k hk
    obtain ⟨k, rfl⟩ : ∃ m, k = m + 1 := ⟨k - 1, by omega⟩
    simp only [impl_gcd.l0]
    by_cases h : b = 0
    · subst h; rw [if_pos rfl, mx_abs (by omega) (by omega), Int.gcd_zero_right]
    · have := natAbs_tmod_lt a h
      rw [if_neg h, ih b (Int.tmod a b) (by omega) hb' (by omega) k (by omega), gcd_tmod]
theorem impl_gcd_f {a b : Int} {k : Nat} (ha : a.natAbs ≤ 9223372036854775807) (hb : b.natAbs ≤ 9223372036854775807) (hk : b.natAbs < k) : impl_gcd.f k a b = some (Int.gcd a b : Int) :=
  impl_gcd_l0 b.natAbs a b (Nat.le_refl _) ha hb k hk

-- impl_isFraction
theorem impl_isFraction_f (a b : Int) {k : Nat} (hk : 1000001 ≤ k) : impl_isFraction.f k a b = some (decide (Frac a b)) := by
  unfold impl_isFraction.f
  rw [impl_isPart_f]; simp only [Option.bind_some, decide_eq_true_eq]
  by_cases h1 : -1000000 ≤ a ∧ a ≤ 1000000
  · rw [if_pos h1]
    by_cases h2 : b < 0
    · rw [if_pos h2]; exact (dec_false (fun x => by have := x.2.1; omega)).symm
    · rw [if_neg h2]
      by_cases h2' : b > 1000000
      · rw [if_pos h2']; exact (dec_false (fun x => by have := x.2.1; omega)).symm
      · rw [if_neg h2', impl_gcd_f (by omega) (by omega) (by omega)]; simp only [Option.bind_some]
        have hb : (((Int.gcd a b : Nat) : Int) == 1) = decide (Int.gcd a b = 1) := by
          rw [Bool.eq_iff_iff]; simp; omega
        rw [hb]
        by_cases h4 : b = 0
        · rw [if_pos h4]
          by_cases h5 : a = 1
          · rw [if_pos h5]; exact dec_iff ⟨fun h => ⟨h1, by omega, h, fun _ => h5⟩, fun h => h.2.2.1⟩
          · rw [if_neg h5]; exact (dec_false (fun x => h5 (x.2.2.2 h4))).symm
        · rw [if_neg h4]; exact dec_iff ⟨fun h => ⟨h1, by omega, h, fun h' => absurd h' h4⟩, fun h => h.2.2.1⟩
  · rw [if_neg h1]; exact (dec_false (fun x => h1 x.1)).symm

-- impl_isDesk
theorem impl_IndexFunc_l0 (l : List S24) (hl : l.length ≤ 1000000000) (n : Nat) : ∀ i : Nat, i + n = l.length → ∀ k, n + 1000001 ≤ k → ∃ r, impl_Fraction_108.l0 k l (l.length : Int) (i : Int) = some r ∧ (r ≥ 0 ↔ ¬ AllF (l.drop i)) := by
  induction n with
  | zero =>
    intro i hi k hk
    obtain ⟨k, rfl⟩ : ∃ m, k = m + 1 := ⟨k - 1, by omega⟩
    simp only [impl_Fraction_108.l0]
    rw [if_neg (by omega), List.drop_of_length_le (by omega)]
    refine ⟨-1, rfl, ?_⟩
    constructor
    · intro h; omega
    · intro h; exact absurd (by intro x hx; simp at hx) h
  | succ n ih =>
    intro i hi k hk
    obtain ⟨k, rfl⟩ : ∃ m, k = m + 1 := ⟨k - 1, by omega⟩
    obtain ⟨r, h1, h2⟩ := ih (i + 1) (by omega) k (by omega)
    simp only [impl_Fraction_108.l0]
    unfold impl_isDesk_1.f
    rw [if_pos (by omega), if_pos (by omega), if_pos (by omega), impl_isFraction_f _ _ (by omega), rdF_drop l i (by omega)]; simp only [Option.bind_some]
    by_cases h : Frac (rd_T24 l (i : Int)).f0 (rd_T24 l (i : Int)).f1
    · rw [decide_eq_true h, if_neg (by decide), wrap64_in (by omega) (by omega), show ((i : Int) + 1) = ((i + 1 : Nat) : Int) by omega]
      refine ⟨r, h1, ?_⟩
      rw [h2, allF_cons]
      exact ⟨fun x y => x y.2, fun x y => x ⟨h, y⟩⟩
    · rw [decide_eq_false h, if_pos (by decide)]
      refine ⟨_, rfl, ?_⟩
      rw [allF_cons]
      exact ⟨fun _ y => h y.1, fun _ => by omega⟩
theorem impl_ContainsFunc_f (l : List S24) (hl : l.length ≤ 1000000000) (z : Int) {k : Nat} (hk : l.length + 1000001 ≤ k) : impl_Fraction_101.f k l z = some (decide (¬ AllF l)) := by
  unfold impl_Fraction_101.f impl_Fraction_108.f
  obtain ⟨r, h1, h2⟩ := impl_IndexFunc_l0 l hl l.length 0 (by omega) k (by omega)
  rw [List.drop_zero] at h2
  rw [show ((0 : Nat) : Int) = 0 from rfl] at h1
  rw [h1]; simp only [Option.bind_some]
  exact dec_iff h2
theorem impl_isDesk_f (a b : Int) (l : List S24) (hl : l.length ≤ 1000000000) {k : Nat} (hk : 1001000 ≤ k) : impl_isDesk.f k a b l = some (decide (DeskP a b l)) := by
  unfold impl_isDesk.f
  rw [impl_isFraction_f _ _ (by omega)]; simp only [Option.bind_some, decide_eq_true_eq]
  by_cases h : Frac a b
  · rw [if_pos h]
    by_cases h1 : (l.length : Int) ≤ 8
    · rw [if_pos h1, impl_ContainsFunc_f l hl _ (by omega)]; simp only [Option.bind_some]
      by_cases h2 : AllF l
      · rw [decide_eq_false (not_not_intro h2), decide_eq_true (show DeskP a b l from ⟨h, by omega, h2⟩)]; rfl
      · rw [decide_eq_true h2, decide_eq_false (fun x : DeskP a b l => h2 x.2.2)]; rfl
    · rw [if_neg h1]; exact (dec_false (fun x => by have := x.2.1; omega)).symm
  · rw [if_neg h]; exact (dec_false (fun x => h x.1)).symm

-- impl_DeskOk
theorem impl_DeskOk_f (a b : Int) (l : List S24) (hl : l.length ≤ 1000000000) {k : Nat} (hk : 1001000 ≤ k) : impl_DeskOk.f k a b l = some (decide (DeskP a b l)) := by
  unfold impl_DeskOk.f
  rw [impl_isDesk_f a b l hl hk]; rfl

-- spec_l1In
theorem spec_l1In_f (a b c : Int) : spec_l1In.f a b c = some (decide (b ≤ a ∧ a ≤ c)) := by
  unfold spec_l1In.f
  by_cases h : b ≤ a
  · rw [if_pos h]; exact dec_iff ⟨fun x => ⟨h, x⟩, fun x => x.2⟩
  · rw [if_neg h]; exact (dec_false (fun x => h x.1)).symm

-- spec_l1Common
theorem spec_l1Common_l0 (n : Nat) : ∀ (a b : Int), b.natAbs ≤ n → 0 ≤ a → 0 ≤ b → ∀ k, n < k → spec_l1Common.l0 k a b = some (Int.gcd a b : Int) := by
  induction n with
  | zero =>
    intro a b hb ha _ k hk
    obtain ⟨k, rfl⟩ : ∃ m, k = m + 1 := ⟨k - 1, by omega⟩
    obtain rfl : b = 0 := by omega
    simp only [spec_l1Common.l0]
    rw [if_neg (by omega), Int.gcd_zero_right]
    congr 1; omega
  | succ n ih =>
    intro a b hb ha hb' k hk
    obtain ⟨k, rfl⟩ : ∃ m, k = m + 1 := ⟨k - 1, by omega⟩
    simp only [spec_l1Common.l0]
    by_cases h : b = 0
    · subst h; rw [if_neg (by omega), Int.gcd_zero_right]; congr 1; omega
    · have := natAbs_tmod_lt a h
      rw [if_pos (by omega), if_neg h, ih b (Int.tmod a b) (by omega) hb' (Int.tmod_nonneg _ ha) k (by omega), gcd_tmod]
theorem spec_l1Common_f {a b : Int} {k : Nat} (ha : a.natAbs ≤ 9223372036854775807) (hb : b.natAbs ≤ 9223372036854775807) (hk : b.natAbs < k) : spec_l1Common.f k a b = some (Int.gcd a b : Int) := by
  unfold spec_l1Common.f
  rw [mx_abs (by omega) (by omega), mx_abs (by omega) (by omega), spec_l1Common_l0 b.natAbs _ _ (by omega) (by omega) (by omega) k hk]
  rfl

-- spec_FractionOk
theorem spec_FractionOk_f (a b : Int) {k : Nat} (hk : 1000001 ≤ k) : spec_FractionOk.f k a b = some (decide (Frac a b)) := by
  unfold spec_FractionOk.f
  rw [spec_l1In_f]; simp only [Option.bind_some, decide_eq_true_eq]
  by_cases h1 : -1000000 ≤ a ∧ a ≤ 1000000
  · rw [if_pos h1, spec_l1In_f]; simp only [Option.bind_some, decide_eq_true_eq]
    by_cases h2 : 0 ≤ b ∧ b ≤ 1000000
    · rw [if_pos h2, spec_l1Common_f (by omega) (by omega) (by omega)]; simp only [Option.bind_some]
      by_cases h3 : Int.gcd a b = 1
      · rw [if_pos (by omega)]
        by_cases h4 : b > 0
        · rw [if_pos h4]; exact (dec_true ⟨h1, h2, h3, by omega⟩).symm
        · rw [if_neg h4]
          by_cases h5 : a = 1
          · rw [(dec_true ⟨h1, h2, h3, fun _ => h5⟩ : some (decide (Frac a b)) = _)]; simp [h5]
          · rw [(dec_false (fun x => h5 (x.2.2.2 (by omega))) : some (decide (Frac a b)) = _)]; simp [h5]
      · rw [if_neg (by omega)]; exact (dec_false (fun x => h3 x.2.2.1)).symm
    · rw [if_neg h2]; exact (dec_false (fun x => h2 x.2.1)).symm
  · rw [if_neg h1]; exact (dec_false (fun x => h1 x.1)).symm

-- spec_DeskOk
theorem spec_DeskOk_l0 (a b : Int) (l : List S24) (hl : l.length ≤ 1000000000) (n : Nat) : ∀ i : Nat, i + n = l.length → ∀ k, n + 1000002 ≤ k → spec_DeskOk.l0 k (i : Int) a b l = some (decide (Frac a b ∧ l.length ≤ 8 ∧ AllF (l.drop i))) := by
  induction n with
  | zero =>
    intro i hi k hk
    obtain ⟨k, rfl⟩ : ∃ m, k = m + 1 := ⟨k - 1, by omega⟩
    simp only [spec_DeskOk.l0]
    rw [if_neg (by omega), spec_FractionOk_f _ _ (by omega), List.drop_of_length_le (by omega)]; simp only [Option.bind_some, decide_eq_true_eq]
    have e : AllF [] := by intro x hx; simp at hx
    by_cases h : Frac a b
    · rw [if_pos h]; exact dec_iff ⟨fun x => ⟨h, by omega, e⟩, fun x => by omega⟩
    · rw [if_neg h]; exact (dec_false (fun x => h x.1)).symm
  | succ n ih =>
    intro i hi k hk
    obtain ⟨k, rfl⟩ : ∃ m, k = m + 1 := ⟨k - 1, by omega⟩
    simp only [spec_DeskOk.l0]
    rw [if_pos (by omega), if_pos (by omega), spec_FractionOk_f _ _ (by omega), rdF_drop l i (by omega)]; simp only [Option.bind_some, decide_eq_true_eq]
    by_cases h : Frac (rd_T24 l (i : Int)).f0 (rd_T24 l (i : Int)).f1
    · rw [if_pos h, wrap64_in (by omega) (by omega), show ((i : Int) + 1) = ((i + 1 : Nat) : Int) by omega, ih (i + 1) (by omega) k (by omega)]
      exact dec_iff ⟨fun x => ⟨x.1, x.2.1, (allF_cons _ _).2 ⟨h, x.2.2⟩⟩, fun x => ⟨x.1, x.2.1, ((allF_cons _ _).1 x.2.2).2⟩⟩
    · rw [if_neg h]; exact (dec_false (fun x => h ((allF_cons _ _).1 x.2.2).1)).symm
theorem spec_DeskOk_f (a b : Int) (l : List S24) (hl : l.length ≤ 100000000) {k : Nat} (hk : 101001000 ≤ k) : spec_DeskOk.f k a b l = some (decide (DeskP a b l)) := by
  unfold spec_DeskOk.f
  have := spec_DeskOk_l0 a b l (by omega) l.length 0 (by omega) k (by omega)
  rw [List.drop_zero] at this
  exact this

-- toFracS
def conF (x : S55) : S24 := ⟨x.f0, x.f1⟩
theorem rdG_at (l : List S55) (i : Nat) (h : i < l.length) : rd_T55 l (i : Int) = l[i] := by
  unfold rd_T55; simp [h]
theorem toFractionS_l0 (l : List S55) (hl : l.length ≤ 1000000000) (n : Nat) : ∀ (i : Nat) (acc : List S24), i + n = l.length → acc.length = l.length → (∀ j : Nat, j < i → acc[j]? = (l.map conF)[j]?) → ∀ k, n < k →
    laws_toFractionS.l0 k l acc (i : Int) = some (l.map conF) := by
  induction n with
  | zero =>
    intro i acc hi ha hp k hk
    obtain ⟨k, rfl⟩ : ∃ m, k = m + 1 := ⟨k - 1, by omega⟩
    simp only [laws_toFractionS.l0]
    rw [if_neg (by omega)]
    congr 1
    apply List.ext_getElem?
    intro j
    by_cases h : j < i
    · exact hp j h
    · rw [List.getElem?_eq_none (by omega), List.getElem?_eq_none (by simp; omega)]
  | succ n ih =>
    intro i acc hi ha hp k hk
    obtain ⟨k, rfl⟩ : ∃ m, k = m + 1 := ⟨k - 1, by omega⟩
    simp only [laws_toFractionS.l0, laws_toFraction.f, Option.bind_some, Int.toNat_natCast]
    rw [if_pos (by omega), if_pos (by omega), if_pos (by omega), wrap64_in (by omega) (by omega), show ((i : Int) + 1) = ((i + 1 : Nat) : Int) by omega]
    refine ih (i + 1) _ (by omega) (by simp; exact ha) ?_ k (by omega)
    intro j hj
    rw [List.getElem?_set]
    by_cases h : i = j
    · subst h
      rw [if_pos rfl, if_pos (by omega), rdG_at l i (by omega), List.getElem?_map, List.getElem?_eq_getElem (by omega)]; rfl
    · rw [if_neg h]; exact hp j (by omega)
theorem toFractionS_f (l : List S55) {k : Nat} (hl : l.length ≤ 1000000000) (hk : l.length < k) : laws_toFractionS.f k l = some (l.map conF) := by
  unfold laws_toFractionS.f
  rw [if_pos (by omega), if_pos (by simp; omega)]
  exact toFractionS_l0 l hl l.length 0 _ (by omega) (by simp) (fun j h => by omega) k hk

-- eqFraction
theorem eqFraction_f (a b c d : Int) : laws_eqFraction.f a b c d = some (decide (a = c ∧ b = d)) := by
  unfold laws_eqFraction.f
  by_cases h : a = c
  · rw [if_pos h]
    by_cases h' : b = d
    · rw [if_pos h', decide_eq_true ⟨h, h'⟩]
    · rw [if_neg h', decide_eq_false (fun x => h' x.2)]
  · rw [if_neg h, decide_eq_false (fun x => h x.1)]

-- eqFractionS
theorem eqFractionS_l0 (l : List S24) (hl : l.length ≤ 1000000000) (n : Nat) : ∀ (i : Nat), i + n = l.length → ∀ k, n < k → laws_eqFractionS.l0 k l l (i : Int) = some true := by
  induction n with
  | zero =>
    intro i hi k hk
    obtain ⟨k, rfl⟩ : ∃ m, k = m + 1 := ⟨k - 1, by omega⟩
    simp only [laws_eqFractionS.l0]
    rw [if_neg (by omega)]
  | succ n ih =>
    intro i hi k hk
    obtain ⟨k, rfl⟩ : ∃ m, k = m + 1 := ⟨k - 1, by omega⟩
    simp only [laws_eqFractionS.l0, eqFraction_f, Option.bind_some]
    rw [if_pos (by omega), if_pos (by omega), if_pos (by omega), if_pos (by simp), wrap64_in (by omega) (by omega)]
    exact ih (i + 1) (by omega) k (by omega)
theorem eqFractionS_f (l : List S24) {k : Nat} (hl : l.length ≤ 1000000000) (hk : l.length < k) : laws_eqFractionS.f k l l = some true := by
  unfold laws_eqFractionS.f
  rw [if_pos rfl]
  exact eqFractionS_l0 l hl _ 0 (Nat.zero_add _) k hk

theorem FnExactDeskOk (a b : Int) (l : List S55) (hl : l.length ≤ 9223372036854775807) : ∃ k, laws_FnExactDeskOk.f k a b l = some true := by
  refine ⟨1000000002, ?_⟩
  unfold laws_FnExactDeskOk.f laws_szDesk.f laws_szFractionS.f
  by_cases h : l.length > 1048576
  · rw [wrap64_in (by omega) (by omega), if_pos (by omega)]; simp
  · rw [wrap64_in (by omega) (by omega), if_neg (by omega)]; simp only [Option.bind_some]
    rw [if_neg (by omega)]; simp only [Option.bind_some]
    rw [if_neg (by omega)]
    have hd : laws_toDesk.f 1000000002 a b l = some (a, b, l.map conF) := by
      unfold laws_toDesk.f laws_toFraction.f
      rw [toFractionS_f l (by omega) (by omega)]; rfl
    have hm : (l.map conF).length = l.length := by simp
    rw [hd]; simp only [Option.bind_some]
    rw [spec_DeskOk_f _ _ _ (by omega) (by omega), impl_DeskOk_f _ _ _ (by omega) (by omega)]; simp only [Option.bind_some]
    rw [if_neg (by simp)]
    unfold laws_eqDesk.f
    rw [eqFraction_f, eqFractionS_f _ (by omega) (by omega)]; simp

end Go.Proofs.Ytblbkmjneeeodaa.Pure
