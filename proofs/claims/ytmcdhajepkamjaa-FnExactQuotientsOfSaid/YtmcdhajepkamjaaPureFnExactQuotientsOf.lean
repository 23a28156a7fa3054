/- FnExactQuotientsOf: the program's QuotientsOf answers as the reference's does, for all arguments, in memory of its own. -/
import Derived.Test.YtmcdhajepkamjaaPFnExactQuotientsOfx0
import Derived.Test.YtmcdhajepkamjaaPFnExactQuotientsOfx1
import Derived.Test.YtmcdhajepkamjaaPFnExactQuotientsOfx2
set_option linter.unusedVariables false
set_option linter.unusedSimpArgs false
namespace Go.Proofs.Ytmcdhajepkamjaa.Pure
open Go.RowKit Go.Proofs.Ytmcdhajepkamjaa.PFnExactQuotientsOf Go.Proofs.YtmcdhajepkamjaaW.PrintWords Go.Proofs.YtmcdhajepkamjaaW.PrintLast Go.Proofs.YtmcdhajepkamjaaW.PrintMore

-- base
theorem wrap64_in {n : Int} (h : -9223372036854775808 ≤ n) (h' : n ≤ 9223372036854775807) : wrap64 n = n := by unfold wrap64; omega
theorem i64_of_wf {n : Int} (h : (Lit.int .i64 n).wf = true) : -9223372036854775808 ≤ n ∧ n ≤ 9223372036854775807 := by
  simpa [Lit.wf, IntKind.min, IntKind.max, IntKind.signed, IntKind.bits] using h
theorem bigk : ∃ k : Nat, 1000000000 ≤ k := ⟨1000000000, Nat.le_refl _⟩
theorem dec_true {p : Prop} [Decidable p] (h : p) : some (decide p) = some true := by simp [h]
theorem dec_false {p : Prop} [Decidable p] (h : ¬ p) : some (decide p) = some false := by simp [h]
theorem dec_iff {p q : Prop} [Decidable p] [Decidable q] (h : p ↔ q) : some (decide p) = some (decide q) := by simp [h]
theorem ite_to {c : Prop} [Decidable c] {α : Type} {x y z : α} (h1 : c → x = z) (h2 : ¬ c → y = z) : (if c then x else y) = z := by
  by_cases h : c
  · rw [if_pos h]; exact h1 h
  · rw [if_neg h]; exact h2 h

-- gcdmath
theorem natAbs_tmod_lt (a : Int) {b : Int} (h : b ≠ 0) : (Int.tmod a b).natAbs < b.natAbs := by
  rw [Int.natAbs_tmod]
  exact Nat.mod_lt _ (by omega)
theorem gcd_tmod (a b : Int) : Int.gcd b (Int.tmod a b) = Int.gcd a b := by
  unfold Int.gcd
  rw [Int.natAbs_tmod, Nat.gcd_comm a.natAbs, Nat.gcd_rec b.natAbs a.natAbs, Nat.gcd_comm]
theorem mx_abs {a : Int} (h : -9223372036854775808 < a) (h' : a ≤ 9223372036854775807) : mx a (wrap64 (-a)) = (a.natAbs : Int) := by
  rw [wrap64_in (by omega) (by omega)]; unfold mx; split <;> omega

-- frac
/-- A fraction in lowest terms, as FractionOk tells it. -/
def Frac (a b : Int) : Prop := (-1000000 ≤ a ∧ a ≤ 1000000) ∧ (0 ≤ b ∧ b ≤ 1000000) ∧ Int.gcd a b = 1 ∧ (b = 0 → a = 1)
instance (a b : Int) : Decidable (Frac a b) := by unfold Frac; infer_instance

-- quomath
/-- The quotients. -/
def quoL (a b : Nat) : List Int := if h : b = 0 then [] else ((a / b : Nat) : Int) :: quoL b (a % b)
termination_by b
decreasing_by exact Nat.mod_lt _ (by omega)
theorem quoL_zero (a : Nat) : quoL a 0 = [] := by rw [quoL]; simp
theorem quoL_pos (a : Nat) {b : Nat} (h : b ≠ 0) : quoL a b = ((a / b : Nat) : Int) :: quoL b (a % b) := by rw [quoL]; simp [h]
theorem tdiv_cast (m n : Nat) : Int.tdiv (m : Int) (n : Int) = ((m / n : Nat) : Int) := by
  rw [Int.tdiv_eq_ediv_of_nonneg (by omega)]; omega
theorem tmod_cast2 (m n : Nat) : Int.tmod (m : Int) (n : Int) = ((m % n : Nat) : Int) := by
  rw [Int.tmod_eq_emod_of_nonneg (by omega)]; omega
/-- What QuotientsOf answers. -/
def quov (a b : Int) : List Int := if Frac a b then quoL a.natAbs b.natAbs else []
theorem quoL_length (n : Nat) : ∀ a b : Nat, b ≤ n → (quoL a b).length ≤ b := by
  induction n with
  | zero => intro a b h; obtain rfl : b = 0 := by omega
            rw [quoL_zero]; simp
  | succ n ih =>
    intro a b h
    by_cases h0 : b = 0
    · rw [h0, quoL_zero]; simp
    · have := Nat.mod_lt a (show b > 0 by omega)
      have := ih b (a % b) (by omega)
      rw [quoL_pos a h0, List.length_cons]; omega
theorem quoL_nonneg (n : Nat) : ∀ a b : Nat, b ≤ n → ∀ x ∈ quoL a b, 0 ≤ x := by
  induction n with
  | zero => intro a b h x hx; obtain rfl : b = 0 := by omega
            rw [quoL_zero] at hx; simp at hx
  | succ n ih =>
    intro a b h x hx
    by_cases h0 : b = 0
    · rw [h0, quoL_zero] at hx; simp at hx
    · have := Nat.mod_lt a (show b > 0 by omega)
      rw [quoL_pos a h0] at hx
      rcases List.mem_cons.1 hx with hx | hx
      · rw [hx]; exact Int.natCast_nonneg _
      · exact ih b (a % b) (by omega) x hx
theorem quoL_sum (n : Nat) : ∀ a b : Nat, b ≤ n → 0 ≤ (quoL a b).sum ∧ (quoL a b).sum ≤ a + b := by
  induction n with
  | zero => intro a b h; obtain rfl : b = 0 := by omega
            rw [quoL_zero]; simp
  | succ n ih =>
    intro a b h
    by_cases h0 : b = 0
    · rw [h0, quoL_zero]; simp
    · have h1 := Nat.mod_lt a (show b > 0 by omega)
      have h2 := ih b (a % b) (by omega)
      have h3 := Nat.div_add_mod a b
      have h7 : (0 : Int) ≤ ((a / b : Nat) : Int) := Int.natCast_nonneg _
      rw [quoL_pos a h0, List.sum_cons]
      by_cases h5 : a % b = 0
      · rw [h5, quoL_zero]
        have := Nat.div_le_self a b
        generalize a / b = q at *
        simp; omega
      · by_cases h6 : a / b = 0
        · rw [h6] at h3 ⊢; simp at h3 ⊢; omega
        · have h4 : a / b + b ≤ b * (a / b) + 1 := by
            obtain ⟨x, hx⟩ : ∃ x, a / b = x + 1 := ⟨a / b - 1, by omega⟩
            obtain ⟨y, hy⟩ : ∃ y, b = y + 1 := ⟨b - 1, by omega⟩
            rw [hx, hy, Nat.mul_succ, Nat.succ_mul]; omega
          generalize a / b = q at *
          generalize b * q = c at *
          omega
/-- All quotients together. -/
def crossn (a b : Nat) : Int := (quoL a b).sum
def crossv (a b : Int) : Int := if Frac a b then crossn a.natAbs b.natAbs else -1
theorem drop_rd (l : List Int) (i : Nat) (h : i < l.length) : l.drop i = rd l (i : Int) :: l.drop (i + 1) := by
  rw [List.drop_eq_getElem_cons h]; unfold rd; simp [h]
theorem sum_nonneg (l : List Int) (h : ∀ x ∈ l, 0 ≤ x) : 0 ≤ l.sum := by
  induction l with
  | nil => simp
  | cons x l ih => rw [List.sum_cons]; have := h x (by simp); have := ih (fun y hy => h y (by simp [hy])); omega

-- impl_quotients
theorem impl_quotients_l0 (n : Nat) : ∀ (acc : List Int) (a b : Nat), b ≤ n → acc.length + b < 17592186044416 → a ≤ 9223372036854775807 → b ≤ 9223372036854775807 → ∀ k, n < k → impl_quotients.l0 k acc (a : Int) (b : Int) = some (acc ++ quoL a b) := by
  induction n with
  | zero =>
    intro acc a b hb hl ha _ k hk
    obtain ⟨k, rfl⟩ : ∃ m, k = m + 1 := ⟨k - 1, by omega⟩
    obtain rfl : b = 0 := by omega
    simp only [impl_quotients.l0]
    rw [if_neg (by omega), quoL_zero, List.append_nil]
  | succ n ih =>
    intro acc a b hb hl ha hb' k hk
    obtain ⟨k, rfl⟩ : ∃ m, k = m + 1 := ⟨k - 1, by omega⟩
    simp only [impl_quotients.l0]
    by_cases h : b = 0
    · rw [if_neg (by omega), h, quoL_zero, List.append_nil]
    · have h1 := Nat.mod_lt a (show b > 0 by omega)
      have h2 := Nat.div_le_self a b
      have h3 : (0 : Int) ≤ ((a / b : Nat) : Int) := Int.natCast_nonneg _
      rw [if_pos (by omega), if_neg (by omega), if_pos (by omega), tdiv_cast, tmod_cast2, wrap64_in (by omega) (by omega), ih _ b (a % b) (by omega) (by rw [List.length_append]; simp; omega) hb' (by omega) k (by omega), quoL_pos a h]
      simp
theorem impl_quotients_f {a b : Int} {k : Nat} (ha : a.natAbs ≤ 9223372036854775807) (hb : 0 ≤ b) (hb' : b ≤ 1000000) (hk : 1000001 ≤ k) : impl_quotients.f k a b = some (quoL a.natAbs b.natAbs) := by
  unfold impl_quotients.f
  rw [mx_abs (by omega) (by omega)]
  have e : b = ((b.natAbs : Nat) : Int) := by omega
  have := impl_quotients_l0 b.natAbs [] a.natAbs b.natAbs (Nat.le_refl _) (by simp; omega) ha (by omega) k (by omega)
  rw [← e] at this
  rw [this]; rfl

-- impl_isPart
theorem impl_isPart_f (a : Int) : impl_isPart.f a = some (decide (-1000000 ≤ a ∧ a ≤ 1000000)) := by
  unfold impl_isPart.f
  by_cases h : -1000000 ≤ a
  · rw [if_pos h]; exact dec_iff ⟨fun x => ⟨h, x⟩, fun x => x.2⟩
  · rw [if_neg h]; exact (dec_false (fun x => h x.1)).symm

-- impl_gcd
theorem impl_gcd_l0 (n : Nat) : ∀ (a b : Int), b.natAbs ≤ n → a.natAbs ≤ 9223372036854775807 → b.natAbs ≤ 9223372036854775807 → ∀ k, n < k → impl_gcd.l0 k a b = some (Int.gcd a b : Int) := by
  induction n with
  | zero =>
    intro a b hb ha _ k hk
    obtain ⟨k, rfl⟩ : ∃ m, k = m + 1 := ⟨k - 1, by omega⟩
    obtain rfl : b = 0 := by omega
    simp only [impl_gcd.l0]
    rw [if_pos trivial, mx_abs (by omega) (by omega), Int.gcd_zero_right]
  | succ n ih =>
    intro a b hb ha hb' k hk
    obtain ⟨k, rfl⟩ : ∃ m, k = m + 1 := ⟨k - 1, by omega⟩
    simp only [impl_gcd.l0]
    by_cases h : b = 0
    · subst h; rw [if_pos rfl, mx_abs (by omega) (by omega), Int.gcd_zero_right]
    · have := natAbs_tmod_lt a h
      rw [if_neg h, ih b (Int.tmod a b) (by omega) hb' (by omega) k (by omega), gcd_tmod]
theorem impl_gcd_f {a b : Int} {k : Nat} (ha : a.natAbs ≤ 9223372036854775807) (hb : b.natAbs ≤ 9223372036854775807) (hk : b.natAbs < k) : impl_gcd.f k a b = some (Int.gcd a b : Int) :=
  impl_gcd_l0 b.natAbs a b (Nat.le_refl _) ha hb k hk

-- impl_isFraction
theorem impl_isFraction_f (a b : Int) {k : Nat} (hk : 1000001 ≤ k) : impl_isFraction.f k a b = some (decide (Frac a b)) := by
  unfold impl_isFraction.f
  rw [impl_isPart_f]; simp only [Option.bind_some, decide_eq_true_eq]
  by_cases h1 : -1000000 ≤ a ∧ a ≤ 1000000
  · rw [if_pos h1]
    by_cases h2 : b < 0
    · rw [if_pos h2]; exact (dec_false (fun x => by have := x.2.1; omega)).symm
    · rw [if_neg h2]
      by_cases h2' : b > 1000000
      · rw [if_pos h2']; exact (dec_false (fun x => by have := x.2.1; omega)).symm
      · rw [if_neg h2', impl_gcd_f (by omega) (by omega) (by omega)]; simp only [Option.bind_some]
        have hb : (((Int.gcd a b : Nat) : Int) == 1) = decide (Int.gcd a b = 1) := by
          rw [Bool.eq_iff_iff]; simp; omega
        rw [hb]
        by_cases h4 : b = 0
        · rw [if_pos h4]
          by_cases h5 : a = 1
          · rw [if_pos h5]; exact dec_iff ⟨fun h => ⟨h1, by omega, h, fun _ => h5⟩, fun h => h.2.2.1⟩
          · rw [if_neg h5]; exact (dec_false (fun x => h5 (x.2.2.2 h4))).symm
        · rw [if_neg h4]; exact dec_iff ⟨fun h => ⟨h1, by omega, h, fun h' => absurd h' h4⟩, fun h => h.2.2.1⟩
  · rw [if_neg h1]; exact (dec_false (fun x => h1 x.1)).symm

-- impl_QuotientsOf
theorem impl_QuotientsOf_f (a b : Int) {k : Nat} (hk : 1000001 ≤ k) : impl_QuotientsOf.f k a b = some (quov a b) := by
  unfold impl_QuotientsOf.f quov
  rw [impl_isFraction_f _ _ hk]; simp only [Option.bind_some, decide_eq_true_eq]
  by_cases h : Frac a b
  · have h1 := h.1
    have h2 := h.2.1
    rw [if_pos h, if_pos h, impl_quotients_f (by omega) (by omega) (by omega) (by omega)]; rfl
  · rw [if_neg h, if_neg h]
theorem quov_length (a b : Int) : (quov a b).length ≤ 1000000 := by
  unfold quov
  split
  · rename_i h
    have h2 := h.2.1
    have := quoL_length b.natAbs a.natAbs b.natAbs (Nat.le_refl _)
    omega
  · simp

-- spec_l1In
theorem spec_l1In_f (a b c : Int) : spec_l1In.f a b c = some (decide (b ≤ a ∧ a ≤ c)) := by
  unfold spec_l1In.f
  by_cases h : b ≤ a
  · rw [if_pos h]; exact dec_iff ⟨fun x => ⟨h, x⟩, fun x => x.2⟩
  · rw [if_neg h]; exact (dec_false (fun x => h x.1)).symm

-- spec_l1Common
theorem spec_l1Common_l0 (n : Nat) : ∀ (a b : Int), b.natAbs ≤ n → 0 ≤ a → 0 ≤ b → ∀ k, n < k → spec_l1Common.l0 k a b = some (Int.gcd a b : Int) := by
  induction n with
  | zero =>
    intro a b hb ha _ k hk
    obtain ⟨k, rfl⟩ : ∃ m, k = m + 1 := ⟨k - 1, by omega⟩
    obtain rfl : b = 0 := by omega
    simp only [spec_l1Common.l0]
    rw [if_neg (by omega), Int.gcd_zero_right]
    congr 1; omega
  | succ n ih =>
    intro a b hb ha hb' k hk
    obtain ⟨k, rfl⟩ : ∃ m, k = m + 1 := ⟨k - 1, by omega⟩
    simp only [spec_l1Common.l0]
    by_cases h : b = 0
    · subst h; rw [if_neg (by omega), Int.gcd_zero_right]; congr 1; omega
    · have := natAbs_tmod_lt a h
      rw [if_pos (by omega), if_neg h, ih b (Int.tmod a b) (by omega) hb' (Int.tmod_nonneg _ ha) k (by omega), gcd_tmod]
theorem spec_l1Common_f {a b : Int} {k : Nat} (ha : a.natAbs ≤ 9223372036854775807) (hb : b.natAbs ≤ 9223372036854775807) (hk : b.natAbs < k) : spec_l1Common.f k a b = some (Int.gcd a b : Int) := by
  unfold spec_l1Common.f
  rw [mx_abs (by omega) (by omega), mx_abs (by omega) (by omega), spec_l1Common_l0 b.natAbs _ _ (by omega) (by omega) (by omega) k hk]
  rfl

-- spec_FractionOk
theorem spec_FractionOk_f (a b : Int) {k : Nat} (hk : 1000001 ≤ k) : spec_FractionOk.f k a b = some (decide (Frac a b)) := by
  unfold spec_FractionOk.f
  rw [spec_l1In_f]; simp only [Option.bind_some, decide_eq_true_eq]
  by_cases h1 : -1000000 ≤ a ∧ a ≤ 1000000
  · rw [if_pos h1, spec_l1In_f]; simp only [Option.bind_some, decide_eq_true_eq]
    by_cases h2 : 0 ≤ b ∧ b ≤ 1000000
    · rw [if_pos h2, spec_l1Common_f (by omega) (by omega) (by omega)]; simp only [Option.bind_some]
      by_cases h3 : Int.gcd a b = 1
      · rw [if_pos (by omega)]
        by_cases h4 : b > 0
        · rw [if_pos h4]; exact (dec_true ⟨h1, h2, h3, by omega⟩).symm
        · rw [if_neg h4]
          by_cases h5 : a = 1
          · rw [(dec_true ⟨h1, h2, h3, fun _ => h5⟩ : some (decide (Frac a b)) = _)]; simp [h5]
          · rw [(dec_false (fun x => h5 (x.2.2.2 (by omega))) : some (decide (Frac a b)) = _)]; simp [h5]
      · rw [if_neg (by omega)]; exact (dec_false (fun x => h3 x.2.2.1)).symm
    · rw [if_neg h2]; exact (dec_false (fun x => h2 x.2.1)).symm
  · rw [if_neg h1]; exact (dec_false (fun x => h1 x.1)).symm

-- spec_QuotientsOf
theorem spec_QuotientsOf_l0 (u v : Int) (hf : Frac u v) (n : Nat) : ∀ (acc : List Int) (a b : Nat), b ≤ n → acc.length + b < 17592186044416 → a ≤ 9223372036854775807 → b ≤ 9223372036854775807 → ∀ k, n + 1000001 < k → spec_QuotientsOf.l0 k acc (a : Int) (b : Int) u v = some (acc ++ quoL a b) := by
  induction n with
  | zero =>
    intro acc a b hb hl ha _ k hk
    obtain ⟨k, rfl⟩ : ∃ m, k = m + 1 := ⟨k - 1, by omega⟩
    obtain rfl : b = 0 := by omega
    simp only [spec_QuotientsOf.l0]
    rw [if_neg (by omega), quoL_zero, List.append_nil]
  | succ n ih =>
    intro acc a b hb hl ha hb' k hk
    obtain ⟨k, rfl⟩ : ∃ m, k = m + 1 := ⟨k - 1, by omega⟩
    simp only [spec_QuotientsOf.l0]
    by_cases h : b = 0
    · rw [if_neg (by omega), h, quoL_zero, List.append_nil]
    · have h1 := Nat.mod_lt a (show b > 0 by omega)
      have h2 := Nat.div_le_self a b
      have h3 : (0 : Int) ≤ ((a / b : Nat) : Int) := Int.natCast_nonneg _
      rw [if_pos (by omega), spec_FractionOk_f _ _ (by omega)]; simp only [Option.bind_some, decide_eq_true_eq]
      rw [if_pos hf, if_neg (by omega), if_pos (by omega), tdiv_cast, tmod_cast2, wrap64_in (by omega) (by omega), ih _ b (a % b) (by omega) (by rw [List.length_append]; simp; omega) hb' (by omega) k (by omega), quoL_pos a h]
      simp
theorem spec_QuotientsOf_f (a b : Int) {k : Nat} (hk : 3000000 ≤ k) : spec_QuotientsOf.f k a b = some (quov a b) := by
  unfold spec_QuotientsOf.f quov
  by_cases h : Frac a b
  · have h1 := h.1
    have h2 := h.2.1
    rw [mx_abs (by omega) (by omega), if_pos h]
    have e : b = ((b.natAbs : Nat) : Int) := by omega
    have := spec_QuotientsOf_l0 a b h b.natAbs [] a.natAbs b.natAbs (Nat.le_refl _) (by simp; omega) (by omega) (by omega) k (by omega)
    rw [← e] at this
    rw [this]; rfl
  · rw [if_neg h]
    obtain ⟨k, rfl⟩ : ∃ m, k = m + 1 := ⟨k - 1, by omega⟩
    simp only [spec_QuotientsOf.l0]
    by_cases h0 : b > 0
    · rw [if_pos h0, spec_FractionOk_f _ _ (by omega)]; simp only [Option.bind_some, decide_eq_true_eq]; rw [if_neg h]
    · rw [if_neg h0]

-- ints
theorem eqIntS_l0 (l : List Int) (hl : l.length ≤ 1000000000) (n : Nat) : ∀ (i : Nat), i + n = l.length → ∀ k, n < k → laws_eqIntS.l0 k l l (i : Int) = some true := by
  induction n with
  | zero =>
    intro i hi k hk
    obtain ⟨k, rfl⟩ : ∃ m, k = m + 1 := ⟨k - 1, by omega⟩
    simp only [laws_eqIntS.l0]
    rw [if_neg (by omega)]
  | succ n ih =>
    intro i hi k hk
    obtain ⟨k, rfl⟩ : ∃ m, k = m + 1 := ⟨k - 1, by omega⟩
    simp only [laws_eqIntS.l0]
    rw [if_pos (by omega), if_pos (by omega), if_pos (by omega), if_pos trivial, wrap64_in (by omega) (by omega)]
    exact ih (i + 1) (by omega) k (by omega)
theorem eqIntS_f (l : List Int) {k : Nat} (hl : l.length ≤ 1000000000) (hk : l.length < k) : laws_eqIntS.f k l l = some true := by
  unfold laws_eqIntS.f
  rw [if_pos rfl]
  exact eqIntS_l0 l hl _ 0 (Nat.zero_add _) k hk
theorem rd_set (l : List Int) (i j : Nat) (v : Int) (hi : i < l.length) : rd (l.set i v) (j : Int) = if i = j then v else rd l (j : Int) := by
  unfold rd
  simp only [Int.toNat_natCast]
  by_cases h : i = j
  · subst h; simp [hi]
  · simp [h]
theorem markIntS_l0 (n : Nat) : ∀ (l : List Int) (m : Int) (i : Nat), l.length ≤ 1000000000 → i + n = l.length → 0 ≤ m → m + n ≤ 4000000000 → ∀ k, n < k →
    ∃ l', laws_markIntS.l0 k l m (i : Int) = some (m + n, l') ∧ l'.length = l.length ∧ (∀ j : Nat, j < i → rd l' (j : Int) = rd l (j : Int)) ∧ (∀ j : Nat, i ≤ j → j < l.length → rd l' (j : Int) = m + ((j - i : Nat) : Int)) := by
  induction n with
  | zero =>
    intro l m i hl hi hm hm' k hk
    obtain ⟨k, rfl⟩ : ∃ m, k = m + 1 := ⟨k - 1, by omega⟩
    simp only [laws_markIntS.l0]
    rw [if_neg (by omega)]
    exact ⟨l, by simp, rfl, fun _ _ => rfl, fun j h1 h2 => by omega⟩
  | succ n ih =>
    intro l m i hl hi hm hm' k hk
    obtain ⟨k, rfl⟩ : ∃ m, k = m + 1 := ⟨k - 1, by omega⟩
    simp only [laws_markIntS.l0]
    rw [if_pos (by omega), if_pos (by omega), wrap64_in (n := m + 1) (by omega) (by omega), wrap64_in (by omega) (by omega)]
    obtain ⟨l', h1, h2, h3, h4⟩ := ih (l.set (i : Int).toNat m) (m + 1) (i + 1) (by simp; omega) (by simp; omega) (by omega) (by omega) k (by omega)
    simp only [List.length_set] at h2 h4
    refine ⟨l', by rw [show ((i : Int) + 1) = ((i + 1 : Nat) : Int) by omega, h1]; congr 2; omega, h2, ?_, ?_⟩
    · intro j hj
      rw [h3 j (by omega)]
      simp only [Int.toNat_natCast]
      rw [rd_set _ _ _ _ (by omega), if_neg (by omega)]
    · intro j hj hj'
      by_cases h : j = i
      · subst h
        rw [h3 j (by omega)]
        simp only [Int.toNat_natCast]
        rw [rd_set _ _ _ _ (by omega), if_pos rfl]; simp
      · rw [h4 j (by omega) hj']; omega
theorem heldIntS_l0 (n : Nat) : ∀ (l : List Int) (m : Int) (i : Nat), l.length ≤ 1000000000 → i + n = l.length → 0 ≤ m → m + n ≤ 4000000000 → (∀ j : Nat, i ≤ j → j < l.length → rd l (j : Int) = m + ((j - i : Nat) : Int)) → ∀ k, n < k →
    laws_heldIntS.l0 k l m (i : Int) = some (m + n) := by
  induction n with
  | zero =>
    intro l m i hl hi hm hm' hr k hk
    obtain ⟨k, rfl⟩ : ∃ m, k = m + 1 := ⟨k - 1, by omega⟩
    simp only [laws_heldIntS.l0]
    rw [if_neg (by omega)]; simp
  | succ n ih =>
    intro l m i hl hi hm hm' hr k hk
    obtain ⟨k, rfl⟩ : ∃ m, k = m + 1 := ⟨k - 1, by omega⟩
    simp only [laws_heldIntS.l0]
    rw [if_pos (by omega), if_pos (by omega), if_pos (by rw [hr i (by omega) (by omega)]; simp), wrap64_in (n := m + 1) (by omega) (by omega), wrap64_in (by omega) (by omega)]
    rw [show ((i : Int) + 1) = ((i + 1 : Nat) : Int) by omega, ih l (m + 1) (i + 1) hl (by omega) (by omega) (by omega) (fun j h1 h2 => by rw [hr j (by omega) h2]; omega) k (by omega)]
    congr 1; omega
theorem marksInt {l : List Int} {k : Nat} (hl : l.length ≤ 1000000000) (hk : 1000000001 ≤ k) :
    ∃ l', laws_markIntS.f k l 1 = some (1 + (l.length : Int), l') ∧ laws_heldIntS.f k l' 1 = some (1 + (l.length : Int)) := by
  unfold laws_markIntS.f
  obtain ⟨l', h1, h2, _, h4⟩ := markIntS_l0 l.length l 1 0 hl (Nat.zero_add _) (by omega) (by omega) k (by omega)
  refine ⟨l', h1, ?_⟩
  unfold laws_heldIntS.f
  have := heldIntS_l0 l'.length l' 1 0 (by omega) (Nat.zero_add _) (by omega) (by omega) (fun j a b => h4 j a (by omega)) k (by omega)
  rw [h2] at this
  exact this

theorem FnExactQuotientsOf (a b : Int) (_ : (Lit.int .i64 a).wf = true) (_ : (Lit.int .i64 b).wf = true) : ∃ k, laws_FnExactQuotientsOf.f k a b = some true := by
  obtain ⟨k, hk⟩ : ∃ k : Nat, 2000000000 ≤ k := ⟨_, Nat.le_refl _⟩
  refine ⟨k, ?_⟩
  have hl := quov_length a b
  obtain ⟨l', h1, h2⟩ := marksInt (l := quov a b) (k := k) (by omega) (by omega)
  unfold laws_FnExactQuotientsOf.f laws_toFraction.f
  simp only [Option.bind_some, spec_QuotientsOf_f a b (show 3000000 ≤ k by omega), impl_QuotientsOf_f a b (show 1000001 ≤ k by omega), eqIntS_f (quov a b) (show (quov a b).length ≤ 1000000000 by omega) (show (quov a b).length < k by omega), h1, h2]
  have : ¬ (1 + ((quov a b).length : Int) < 0) := by omega
  simp [this]

end Go.Proofs.Ytmcdhajepkamjaa.Pure
