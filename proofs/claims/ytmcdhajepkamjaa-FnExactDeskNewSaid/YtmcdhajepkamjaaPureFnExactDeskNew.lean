/- FnExactDeskNew: the program's DeskNew answers as the reference's does, for all arguments, in memory of its own. -/
import Derived.Test.YtmcdhajepkamjaaPFnExactDeskNewx0
import Derived.Test.YtmcdhajepkamjaaPFnExactDeskNewx1
import Derived.Test.YtmcdhajepkamjaaPFnExactDeskNewx2
import Derived.Test.YtmcdhajepkamjaaPFnExactDeskNewx3
set_option linter.unusedVariables false
set_option linter.unusedSimpArgs false
namespace Go.Proofs.Ytmcdhajepkamjaa.Pure
open Go.RowKit Go.Proofs.Ytmcdhajepkamjaa.PFnExactDeskNew Go.Proofs.YtmcdhajepkamjaaW.PrintWords Go.Proofs.YtmcdhajepkamjaaW.PrintLast Go.Proofs.YtmcdhajepkamjaaW.PrintMore

-- base
theorem wrap64_in {n : Int} (h : -9223372036854775808 ≤ n) (h' : n ≤ 9223372036854775807) : wrap64 n = n := by unfold wrap64; omega
theorem i64_of_wf {n : Int} (h : (Lit.int .i64 n).wf = true) : -9223372036854775808 ≤ n ∧ n ≤ 9223372036854775807 := by
  simpa [Lit.wf, IntKind.min, IntKind.max, IntKind.signed, IntKind.bits] using h
theorem bigk : ∃ k : Nat, 1000000000 ≤ k := ⟨1000000000, Nat.le_refl _⟩
theorem dec_true {p : Prop} [Decidable p] (h : p) : some (decide p) = some true := by simp [h]
theorem dec_false {p : Prop} [Decidable p] (h : ¬ p) : some (decide p) = some false := by simp [h]
theorem dec_iff {p q : Prop} [Decidable p] [Decidable q] (h : p ↔ q) : some (decide p) = some (decide q) := by simp [h]
theorem ite_to {c : Prop} [Decidable c] {α : Type} {x y z : α} (h1 : c → x = z) (h2 : ¬ c → y = z) : (if c then x else y) = z := by
  by_cases h : c
  · rw [if_pos h]; exact h1 h
  · rw [if_neg h]; exact h2 h

-- impl_isPart
theorem impl_isPart_f (a : Int) : impl_isPart.f a = some (decide (-1000000 ≤ a ∧ a ≤ 1000000)) := by
  unfold impl_isPart.f
  by_cases h : -1000000 ≤ a
  · rw [if_pos h]; exact dec_iff ⟨fun x => ⟨h, x⟩, fun x => x.2⟩
  · rw [if_neg h]; exact (dec_false (fun x => h x.1)).symm

-- gcdmath
theorem natAbs_tmod_lt (a : Int) {b : Int} (h : b ≠ 0) : (Int.tmod a b).natAbs < b.natAbs := by
  rw [Int.natAbs_tmod]
  exact Nat.mod_lt _ (by omega)
theorem gcd_tmod (a b : Int) : Int.gcd b (Int.tmod a b) = Int.gcd a b := by
  unfold Int.gcd
  rw [Int.natAbs_tmod, Nat.gcd_comm a.natAbs, Nat.gcd_rec b.natAbs a.natAbs, Nat.gcd_comm]
theorem mx_abs {a : Int} (h : -9223372036854775808 < a) (h' : a ≤ 9223372036854775807) : mx a (wrap64 (-a)) = (a.natAbs : Int) := by
  rw [wrap64_in (by omega) (by omega)]; unfold mx; split <;> omega

-- impl_gcd
theorem impl_gcd_l0 (n : Nat) : ∀ (a b : Int), b.natAbs ≤ n → a.natAbs ≤ 9223372036854775807 → b.natAbs ≤ 9223372036854775807 → ∀ k, n < k → impl_gcd.l0 k a b = some (Int.gcd a b : Int) := by
  induction n with
  | zero =>
    intro a b hb ha _ k hk
    obtain ⟨k, rfl⟩ : ∃ m, k = m + 1 := ⟨k - 1, by omega⟩
    obtain rfl : b = 0 := by omega
    simp only [impl_gcd.l0]
    rw [if_pos trivial, mx_abs (by omega) (by omega), Int.gcd_zero_right]
  | succ n ih =>
    intro a b hb ha hb' k hk
    obtain ⟨k, rfl⟩ : ∃ m, k = m + 1 := ⟨k - 1, by omega⟩
    simp only [impl_gcd.l0]
    by_cases h : b = 0
    · subst h; rw [if_pos rfl, mx_abs (by omega) (by omega), Int.gcd_zero_right]
    · have := natAbs_tmod_lt a h
      rw [if_neg h, ih b (Int.tmod a b) (by omega) hb' (by omega) k (by omega), gcd_tmod]
theorem impl_gcd_f {a b : Int} {k : Nat} (ha : a.natAbs ≤ 9223372036854775807) (hb : b.natAbs ≤ 9223372036854775807) (hk : b.natAbs < k) : impl_gcd.f k a b = some (Int.gcd a b : Int) :=
  impl_gcd_l0 b.natAbs a b (Nat.le_refl _) ha hb k hk

-- frac
/-- A fraction in lowest terms, as FractionOk tells it. -/
def Frac (a b : Int) : Prop := (-1000000 ≤ a ∧ a ≤ 1000000) ∧ (0 ≤ b ∧ b ≤ 1000000) ∧ Int.gcd a b = 1 ∧ (b = 0 → a = 1)
instance (a b : Int) : Decidable (Frac a b) := by unfold Frac; infer_instance

-- impl_isFraction
theorem impl_isFraction_f (a b : Int) {k : Nat} (hk : 1000001 ≤ k) : impl_isFraction.f k a b = some (decide (Frac a b)) := by
  unfold impl_isFraction.f
  rw [impl_isPart_f]; simp only [Option.bind_some, decide_eq_true_eq]
  by_cases h1 : -1000000 ≤ a ∧ a ≤ 1000000
  · rw [if_pos h1]
    by_cases h2 : b < 0
    · rw [if_pos h2]; exact (dec_false (fun x => by have := x.2.1; omega)).symm
    · rw [if_neg h2]
      by_cases h2' : b > 1000000
      · rw [if_pos h2']; exact (dec_false (fun x => by have := x.2.1; omega)).symm
      · rw [if_neg h2', impl_gcd_f (by omega) (by omega) (by omega)]; simp only [Option.bind_some]
        have hb : (((Int.gcd a b : Nat) : Int) == 1) = decide (Int.gcd a b = 1) := by
          rw [Bool.eq_iff_iff]; simp; omega
        rw [hb]
        by_cases h4 : b = 0
        · rw [if_pos h4]
          by_cases h5 : a = 1
          · rw [if_pos h5]; exact dec_iff ⟨fun h => ⟨h1, by omega, h, fun _ => h5⟩, fun h => h.2.2.1⟩
          · rw [if_neg h5]; exact (dec_false (fun x => h5 (x.2.2.2 h4))).symm
        · rw [if_neg h4]; exact dec_iff ⟨fun h => ⟨h1, by omega, h, fun h' => absurd h' h4⟩, fun h => h.2.2.1⟩
  · rw [if_neg h1]; exact (dec_false (fun x => h1 x.1)).symm

-- spec_l1In
theorem spec_l1In_f (a b c : Int) : spec_l1In.f a b c = some (decide (b ≤ a ∧ a ≤ c)) := by
  unfold spec_l1In.f
  by_cases h : b ≤ a
  · rw [if_pos h]; exact dec_iff ⟨fun x => ⟨h, x⟩, fun x => x.2⟩
  · rw [if_neg h]; exact (dec_false (fun x => h x.1)).symm

-- spec_l1Common
theorem spec_l1Common_l0 (n : Nat) : ∀ (a b : Int), b.natAbs ≤ n → 0 ≤ a → 0 ≤ b → ∀ k, n < k → spec_l1Common.l0 k a b = some (Int.gcd a b : Int) := by
  induction n with
  | zero =>
    intro a b hb ha _ k hk
    obtain ⟨k, rfl⟩ : ∃ m, k = m + 1 := ⟨k - 1, by omega⟩
    obtain rfl : b = 0 := by omega
    simp only [spec_l1Common.l0]
    rw [if_neg (by omega), Int.gcd_zero_right]
    congr 1; omega
  | succ n ih =>
    intro a b hb ha hb' k hk
    obtain ⟨k, rfl⟩ : ∃ m, k = m + 1 := ⟨k - 1, by omega⟩
    simp only [spec_l1Common.l0]
    by_cases h : b = 0
    · subst h; rw [if_neg (by omega), Int.gcd_zero_right]; congr 1; omega
    · have := natAbs_tmod_lt a h
      rw [if_pos (by omega), if_neg h, ih b (Int.tmod a b) (by omega) hb' (Int.tmod_nonneg _ ha) k (by omega), gcd_tmod]
theorem spec_l1Common_f {a b : Int} {k : Nat} (ha : a.natAbs ≤ 9223372036854775807) (hb : b.natAbs ≤ 9223372036854775807) (hk : b.natAbs < k) : spec_l1Common.f k a b = some (Int.gcd a b : Int) := by
  unfold spec_l1Common.f
  rw [mx_abs (by omega) (by omega), mx_abs (by omega) (by omega), spec_l1Common_l0 b.natAbs _ _ (by omega) (by omega) (by omega) k hk]
  rfl

-- spec_FractionOk
theorem spec_FractionOk_f (a b : Int) {k : Nat} (hk : 1000001 ≤ k) : spec_FractionOk.f k a b = some (decide (Frac a b)) := by
  unfold spec_FractionOk.f
  rw [spec_l1In_f]; simp only [Option.bind_some, decide_eq_true_eq]
  by_cases h1 : -1000000 ≤ a ∧ a ≤ 1000000
  · rw [if_pos h1, spec_l1In_f]; simp only [Option.bind_some, decide_eq_true_eq]
    by_cases h2 : 0 ≤ b ∧ b ≤ 1000000
    · rw [if_pos h2, spec_l1Common_f (by omega) (by omega) (by omega)]; simp only [Option.bind_some]
      by_cases h3 : Int.gcd a b = 1
      · rw [if_pos (by omega)]
        by_cases h4 : b > 0
        · rw [if_pos h4]; exact (dec_true ⟨h1, h2, h3, by omega⟩).symm
        · rw [if_neg h4]
          by_cases h5 : a = 1
          · rw [(dec_true ⟨h1, h2, h3, fun _ => h5⟩ : some (decide (Frac a b)) = _)]; simp [h5]
          · rw [(dec_false (fun x => h5 (x.2.2.2 (by omega))) : some (decide (Frac a b)) = _)]; simp [h5]
      · rw [if_neg (by omega)]; exact (dec_false (fun x => h3 x.2.2.1)).symm
    · rw [if_neg h2]; exact (dec_false (fun x => h2 x.2.1)).symm
  · rw [if_neg h1]; exact (dec_false (fun x => h1 x.1)).symm

-- eqFraction
theorem eqFraction_f (a b c d : Int) : laws_eqFraction.f a b c d = some (decide (a = c ∧ b = d)) := by
  unfold laws_eqFraction.f
  by_cases h : a = c
  · rw [if_pos h]
    by_cases h' : b = d
    · rw [if_pos h', decide_eq_true ⟨h, h'⟩]
    · rw [if_neg h', decide_eq_false (fun x => h' x.2)]
  · rw [if_neg h, decide_eq_false (fun x => h x.1)]

-- fracsS
theorem eqFractionS_l0 (l : List S34) (hl : l.length ≤ 1000000000) (n : Nat) : ∀ (i : Nat), i + n = l.length → ∀ k, n < k → laws_eqFractionS.l0 k l l (i : Int) = some true := by
  induction n with
  | zero =>
    intro i hi k hk
    obtain ⟨k, rfl⟩ : ∃ m, k = m + 1 := ⟨k - 1, by omega⟩
    simp only [laws_eqFractionS.l0]
    rw [if_neg (by omega)]
  | succ n ih =>
    intro i hi k hk
    obtain ⟨k, rfl⟩ : ∃ m, k = m + 1 := ⟨k - 1, by omega⟩
    simp only [laws_eqFractionS.l0, eqFraction_f, Option.bind_some]
    rw [if_pos (by omega), if_pos (by omega), if_pos (by omega), if_pos (by simp), wrap64_in (by omega) (by omega)]
    exact ih (i + 1) (by omega) k (by omega)
theorem eqFractionS_f (l : List S34) {k : Nat} (hl : l.length ≤ 1000000000) (hk : l.length < k) : laws_eqFractionS.f k l l = some true := by
  unfold laws_eqFractionS.f
  rw [if_pos rfl]
  exact eqFractionS_l0 l hl _ 0 (Nat.zero_add _) k hk
theorem rdF_set (l : List S34) (i j : Nat) (v : S34) (hi : i < l.length) : rd_T34 (l.set i v) (j : Int) = if i = j then v else rd_T34 l (j : Int) := by
  unfold rd_T34
  simp only [Int.toNat_natCast]
  by_cases h : i = j
  · subst h; simp [hi]
  · simp [h]
theorem markFractionS_l0 (n : Nat) : ∀ (l : List S34) (m : Int) (i : Nat), l.length ≤ 1000000000 → i + n = l.length → 0 ≤ m → m + 2 * n ≤ 4000000000 → ∀ k, n < k →
    ∃ l', laws_markFractionS.l0 k l m (i : Int) = some (m + 2 * n, l') ∧ l'.length = l.length ∧ (∀ j : Nat, j < i → rd_T34 l' (j : Int) = rd_T34 l (j : Int)) ∧ (∀ j : Nat, i ≤ j → j < l.length → rd_T34 l' (j : Int) = ⟨m + 2 * ((j - i : Nat) : Int), m + 2 * ((j - i : Nat) : Int) + 1⟩) := by
  induction n with
  | zero =>
    intro l m i hl hi hm hm' k hk
    obtain ⟨k, rfl⟩ : ∃ m, k = m + 1 := ⟨k - 1, by omega⟩
    simp only [laws_markFractionS.l0]
    rw [if_neg (by omega)]
    exact ⟨l, by simp, rfl, fun _ _ => rfl, fun j h1 h2 => by omega⟩
  | succ n ih =>
    intro l m i hl hi hm hm' k hk
    obtain ⟨k, rfl⟩ : ∃ m, k = m + 1 := ⟨k - 1, by omega⟩
    simp only [laws_markFractionS.l0, Option.bind_some, Int.toNat_natCast]
    rw [if_pos (by omega), if_pos (by omega), wrap64_in (n := m + 1) (by omega) (by omega), wrap64_in (n := m + 1 + 1) (by omega) (by omega), wrap64_in (n := (i : Int) + 1) (by omega) (by omega)]
    generalize hv : (⟨(rd_T34 (l.set i ⟨m, (rd_T34 l (i : Int)).f1⟩) (i : Int)).f0, m + 1⟩ : S34) = v
    have hv' : v = ⟨m, m + 1⟩ := by rw [← hv, rdF_set _ _ _ _ (by omega), if_pos rfl]
    rw [List.set_set, hv']
    obtain ⟨l', h1, h2, h3, h4⟩ := ih (l.set i ⟨m, m + 1⟩) (m + 1 + 1) (i + 1) (by simp; omega) (by simp; omega) (by omega) (by omega) k (by omega)
    simp only [List.length_set] at h2 h4
    refine ⟨l', by rw [show ((i : Int) + 1) = ((i + 1 : Nat) : Int) by omega, h1]; congr 2; omega, h2, ?_, ?_⟩
    · intro j hj
      rw [h3 j (by omega), rdF_set _ _ _ _ (by omega), if_neg (by omega)]
    · intro j hj hj'
      by_cases h : j = i
      · subst h
        rw [h3 j (by omega), rdF_set _ _ _ _ (by omega), if_pos rfl]; simp
      · rw [h4 j (by omega) hj']
        congr 1 <;> omega
theorem heldFractionS_l0 (n : Nat) : ∀ (l : List S34) (m : Int) (i : Nat), l.length ≤ 1000000000 → i + n = l.length → 0 ≤ m → m + 2 * n ≤ 4000000000 → (∀ j : Nat, i ≤ j → j < l.length → rd_T34 l (j : Int) = ⟨m + 2 * ((j - i : Nat) : Int), m + 2 * ((j - i : Nat) : Int) + 1⟩) → ∀ k, n < k →
    laws_heldFractionS.l0 k l m (i : Int) = some (m + 2 * n) := by
  induction n with
  | zero =>
    intro l m i hl hi hm hm' hr k hk
    obtain ⟨k, rfl⟩ : ∃ m, k = m + 1 := ⟨k - 1, by omega⟩
    simp only [laws_heldFractionS.l0]
    rw [if_neg (by omega)]; simp
  | succ n ih =>
    intro l m i hl hi hm hm' hr k hk
    obtain ⟨k, rfl⟩ : ∃ m, k = m + 1 := ⟨k - 1, by omega⟩
    simp only [laws_heldFractionS.l0]
    rw [if_pos (by omega), if_pos (by omega), hr i (by omega) (by omega), if_pos (by simp), wrap64_in (n := m + 1) (by omega) (by omega), if_pos (by simp), wrap64_in (by omega) (by omega), wrap64_in (by omega) (by omega)]
    rw [show ((i : Int) + 1) = ((i + 1 : Nat) : Int) by omega, ih l (m + 1 + 1) (i + 1) hl (by omega) (by omega) (by omega) (fun j h1 h2 => by rw [hr j (by omega) h2]; congr 1 <;> omega) k (by omega)]
    congr 1; omega
theorem marksFraction {l : List S34} {k : Nat} (hl : l.length ≤ 1000000000) (hk : 1000000001 ≤ k) :
    ∃ l', laws_markFractionS.f k l 1 = some (1 + 2 * (l.length : Int), l') ∧ laws_heldFractionS.f k l' 1 = some (1 + 2 * (l.length : Int)) := by
  unfold laws_markFractionS.f
  obtain ⟨l', h1, h2, _, h4⟩ := markFractionS_l0 l.length l 1 0 hl (Nat.zero_add _) (by omega) (by omega) k (by omega)
  refine ⟨l', h1, ?_⟩
  unfold laws_heldFractionS.f
  have := heldFractionS_l0 l'.length l' 1 0 (by omega) (Nat.zero_add _) (by omega) (by omega) (fun j a b => h4 j a (by omega)) k (by omega)
  rw [h2] at this
  exact this

theorem FnExactDeskNew (a b : Int) (_ : (Lit.int .i64 a).wf = true) (_ : (Lit.int .i64 b).wf = true) : ∃ k, laws_FnExactDeskNew.f k a b = some true := by
  obtain ⟨k, hk⟩ : ∃ k : Nat, 2000000000 ≤ k + 2 := ⟨2000000000, by omega⟩
  refine ⟨k + 2, ?_⟩
  have hE : ∀ n, 1 ≤ n → ∀ x y : Int, laws_eqDesk.f n x y [] x y [] = some true := by
    intro n hn x y
    unfold laws_eqDesk.f
    rw [eqFraction_f, eqFractionS_f [] (by simp) (by simp; omega)]; simp
  have hM : ∀ n, 1 ≤ n → ∀ x y : Int, laws_markDesk.f n x y [] 1 = some (1, []) := by
    intro n hn x y
    obtain ⟨n, rfl⟩ : ∃ m, n = m + 1 := ⟨n - 1, by omega⟩
    unfold laws_markDesk.f laws_markFractionS.f
    simp only [laws_markFractionS.l0]; simp
  have hH : ∀ n, 1 ≤ n → ∀ x y : Int, laws_heldDesk.f n x y [] 1 = some 1 := by
    intro n hn x y
    obtain ⟨n, rfl⟩ : ∃ m, n = m + 1 := ⟨n - 1, by omega⟩
    unfold laws_heldDesk.f laws_heldFractionS.f
    simp only [laws_heldFractionS.l0]; simp
  have hs : ∀ n, 1000001 ≤ n → spec_DeskNew.f n a b = some (if Frac a b then (a, b, [], true) else (0, 0, [], false)) := by
    intro n hn
    unfold spec_DeskNew.f
    rw [spec_FractionOk_f _ _ hn]; simp only [Option.bind_some, decide_eq_true_eq]
    split <;> rfl
  have hi : ∀ n, 1000001 ≤ n → impl_DeskNew.f n a b = some (if Frac a b then (a, b, [], true) else (0, 0, [], false)) := by
    intro n hn
    unfold impl_DeskNew.f
    rw [impl_isFraction_f _ _ hn]; simp only [Option.bind_some, decide_eq_true_eq]
    split <;> rfl
  unfold laws_FnExactDeskNew.f laws_toFraction.f
  simp only [Option.bind_some, hs (k + 2) (by omega), hi (k + 2) (by omega)]
  by_cases h : Frac a b
  · simp only [if_pos h, hE (k + 2) (by omega), Option.bind_some]
    simp only [laws_FnExactDeskNew.j0, laws_FnExactDeskNew.j1, laws_toFraction.f, Option.bind_some, hM (k + 1) (by omega), hH (k + 1) (by omega), hi (k + 1) (by omega), hH k (by omega), if_pos h, hE (k + 1) (by omega)]
    simp
  · simp only [if_neg h, hE (k + 2) (by omega), Option.bind_some]
    simp only [laws_FnExactDeskNew.j0, laws_FnExactDeskNew.j1, laws_toFraction.f, Option.bind_some, hM (k + 1) (by omega), hH (k + 1) (by omega), hi (k + 1) (by omega), hH k (by omega), if_neg h, hE (k + 1) (by omega)]
    simp

end Go.Proofs.Ytmcdhajepkamjaa.Pure
