/- FnExactMirrorLink: the program's MirrorLink answers as the reference's does, for all arguments. -/
import Derived.Test.YtaongkphmkldjaaPFnExactMirrorLinkx0
import Derived.Test.YtaongkphmkldjaaPFnExactMirrorLinkx1
set_option linter.unusedVariables false
set_option linter.unusedSimpArgs false
namespace Go.Proofs.Ytaongkphmkldjaa.Pure
open Go.RowKit Go.Proofs.Ytaongkphmkldjaa.PFnExactMirrorLink Go.Proofs.YtaongkphmkldjaaW.PrintWords Go.Proofs.YtaongkphmkldjaaW.PrintLast Go.Proofs.YtaongkphmkldjaaW.PrintMore

-- base
theorem wrap64_in {n : Int} (h : -9223372036854775808 ≤ n) (h' : n ≤ 9223372036854775807) : wrap64 n = n := by unfold wrap64; omega
theorem i64_of_wf {n : Int} (h : (Lit.int .i64 n).wf = true) : -9223372036854775808 ≤ n ∧ n ≤ 9223372036854775807 := by
  simpa [Lit.wf, IntKind.min, IntKind.max, IntKind.signed, IntKind.bits] using h
theorem bigk : ∃ k : Nat, 1000000000 ≤ k := ⟨1000000000, Nat.le_refl _⟩
theorem dec_true {p : Prop} [Decidable p] (h : p) : some (decide p) = some true := by simp [h]
theorem dec_false {p : Prop} [Decidable p] (h : ¬ p) : some (decide p) = some false := by simp [h]
theorem dec_iff {p q : Prop} [Decidable p] [Decidable q] (h : p ↔ q) : some (decide p) = some (decide q) := by simp [h]

-- link
/-- A link as LinkOk tells it. -/
def LinkP (a b : Int) : Prop := (a = 0 ∧ b = 1) ∨ (a = 1 ∧ b = 0) ∨ ((2 ≤ a ∧ a ≤ 60) ∧ (1 ≤ b ∧ b < a) ∧ Int.gcd a b = 1)
instance (a b : Int) : Decidable (LinkP a b) := by unfold LinkP; infer_instance
theorem linkP_zero (b : Int) : LinkP 0 b ↔ b = 1 := by unfold LinkP; omega
theorem linkP_one (b : Int) : LinkP 1 b ↔ b = 0 := by unfold LinkP; omega
theorem linkP_more {a b : Int} (h : a ≠ 0) (h' : a ≠ 1) : LinkP a b ↔ ((2 ≤ a ∧ a ≤ 60) ∧ (1 ≤ b ∧ b < a) ∧ Int.gcd a b = 1) := by
  unfold LinkP; constructor
  · rintro (x | x | x)
    · exact absurd x.1 h
    · exact absurd x.1 h'
    · exact x
  · exact fun x => .inr (.inr x)
theorem linkP_range {a b : Int} (h : LinkP a b) : 0 ≤ a ∧ a ≤ 60 ∧ 0 ≤ b ∧ b ≤ 59 := by
  unfold LinkP at h; omega
theorem gcd_beq (a b : Int) : (((Int.gcd a b : Nat) : Int) == 1) = decide (Int.gcd a b = 1) := by
  rw [Bool.eq_iff_iff]; simp; omega

-- mirlink
def mirlinkv (a b : Int) : Int × Int := if a ≥ 2 then (a, a - b) else (a, b)
def mirlinkofv (a b : Int) : Int × Int × Bool := if LinkP a b then ((mirlinkv a b).1, (mirlinkv a b).2, true) else (0, 0, false)
theorem mirlink_ok {a b : Int} (h : LinkP a b) : LinkP (mirlinkv a b).1 (mirlinkv a b).2 := by
  unfold mirlinkv
  split
  · rename_i h2
    have x := (linkP_more (by omega) (by omega)).1 h
    refine (linkP_more (by simp; omega) (by simp; omega)).2 ⟨x.1, by simp; omega, ?_⟩
    simp only
    rw [show a - b = -b + a * 1 by omega, Int.gcd_add_mul_left_right]
    simpa using x.2.2
  · exact h

-- impl_mirrorLink
theorem impl_mirrorLink_f {a b : Int} (h : LinkP a b) : impl_mirrorLink.f a b = some (mirlinkv a b) := by
  unfold impl_mirrorLink.f mirlinkv
  have hr := linkP_range h
  split
  · rw [wrap64_in (by omega) (by omega)]
  · rfl

-- gcdmath
theorem natAbs_tmod_lt (a : Int) {b : Int} (h : b ≠ 0) : (Int.tmod a b).natAbs < b.natAbs := by
  rw [Int.natAbs_tmod]
  exact Nat.mod_lt _ (by omega)
theorem gcd_tmod (a b : Int) : Int.gcd b (Int.tmod a b) = Int.gcd a b := by
  unfold Int.gcd
  rw [Int.natAbs_tmod, Nat.gcd_comm a.natAbs, Nat.gcd_rec b.natAbs a.natAbs, Nat.gcd_comm]
theorem mx_abs {a : Int} (h : -9223372036854775808 < a) (h' : a ≤ 9223372036854775807) : mx a (wrap64 (-a)) = (a.natAbs : Int) := by
  rw [wrap64_in (by omega) (by omega)]; unfold mx; split <;> omega

-- impl_gcd
theorem impl_gcd_l0 (n : Nat) : ∀ (a b : Int), b.natAbs ≤ n → a.natAbs ≤ 9223372036854775807 → b.natAbs ≤ 9223372036854775807 → ∀ k, n < k → impl_gcd.l0 k a b = some (Int.gcd a b : Int) := by
  induction n with
  | zero =>
    intro a b hb ha _ k hk
    obtain ⟨k, rfl⟩ : ∃ m, k = m + 1 := ⟨k - 1, by omega⟩
    obtain rfl : b = 0 := by omega
    simp only [impl_gcd.l0]
    rw [if_pos trivial, mx_abs (by omega) (by omega), Int.gcd_zero_right]
  | succ n ih =>
    intro a b hb ha hb' k hk
    obtain ⟨k, rfl⟩ : ∃ m, k = m + 1 := ⟨k - 1, by omega⟩
    simp only [impl_gcd.l0]
    by_cases h : b = 0
    · subst h; rw [if_pos rfl, mx_abs (by omega) (by omega), Int.gcd_zero_right]
    · have := natAbs_tmod_lt a h
      rw [if_neg h, ih b (Int.tmod a b) (by omega) hb' (by omega) k (by omega), gcd_tmod]
theorem impl_gcd_f {a b : Int} {k : Nat} (ha : a.natAbs ≤ 9223372036854775807) (hb : b.natAbs ≤ 9223372036854775807) (hk : b.natAbs < k) : impl_gcd.f k a b = some (Int.gcd a b : Int) :=
  impl_gcd_l0 b.natAbs a b (Nat.le_refl _) ha hb k hk

-- impl_isLink
theorem impl_isLink_f (a b : Int) {k : Nat} (hk : 1000 ≤ k) : impl_isLink.f k a b = some (decide (LinkP a b)) := by
  obtain ⟨k, rfl⟩ : ∃ m, k = m + 1 := ⟨k - 1, by omega⟩
  unfold impl_isLink.f
  by_cases h0 : a < 0
  · rw [if_pos h0]; simp only [impl_isLink.j0]; rw [if_pos trivial]
    exact (dec_false (fun x => by have := linkP_range x; omega)).symm
  · rw [if_neg h0]; simp only [impl_isLink.j0, decide_eq_true_eq]
    by_cases h1 : a > 60
    · rw [if_pos h1]; exact (dec_false (fun x => by have := linkP_range x; omega)).symm
    · rw [if_neg h1]
      by_cases h2 : a = 0
      · rw [if_pos h2]; subst h2; exact dec_iff (linkP_zero b).symm
      · rw [if_neg h2]
        by_cases h3 : a = 1
        · rw [if_pos h3]; subst h3; exact dec_iff (linkP_one b).symm
        · rw [if_neg h3]
          by_cases h4 : b ≥ 1
          · rw [if_pos h4]
            by_cases h5 : b < a
            · rw [if_pos h5, impl_gcd_f (by omega) (by omega) (by omega)]; simp only [Option.bind_some, gcd_beq]
              exact dec_iff ⟨fun x => (linkP_more h2 h3).2 ⟨by omega, by omega, x⟩, fun x => ((linkP_more h2 h3).1 x).2.2⟩
            · rw [if_neg h5]; exact (dec_false (fun x => by have := (linkP_more h2 h3).1 x; omega)).symm
          · rw [if_neg h4]; exact (dec_false (fun x => by have := (linkP_more h2 h3).1 x; omega)).symm

-- impl_MirrorLink
theorem impl_MirrorLink_f (a b : Int) {k : Nat} (hk : 1000 ≤ k) : impl_MirrorLink.f k a b = some (mirlinkofv a b) := by
  unfold impl_MirrorLink.f
  rw [impl_isLink_f _ _ hk]; simp only [Option.bind_some, decide_eq_true_eq]
  unfold mirlinkofv
  by_cases h : LinkP a b
  · rw [if_pos h, if_pos h, impl_mirrorLink_f h]; rfl
  · rw [if_neg h, if_neg h]

-- spec_l1Common
theorem spec_l1Common_l0 (n : Nat) : ∀ (a b : Int), b.natAbs ≤ n → 0 ≤ a → 0 ≤ b → ∀ k, n < k → spec_l1Common.l0 k a b = some (Int.gcd a b : Int) := by
  induction n with
  | zero =>
    intro a b hb ha _ k hk
    obtain ⟨k, rfl⟩ : ∃ m, k = m + 1 := ⟨k - 1, by omega⟩
    obtain rfl : b = 0 := by omega
    simp only [spec_l1Common.l0]
    rw [if_neg (by omega), Int.gcd_zero_right]
    congr 1; omega
  | succ n ih =>
    intro a b hb ha hb' k hk
    obtain ⟨k, rfl⟩ : ∃ m, k = m + 1 := ⟨k - 1, by omega⟩
    simp only [spec_l1Common.l0]
    by_cases h : b = 0
    · subst h; rw [if_neg (by omega), Int.gcd_zero_right]; congr 1; omega
    · have := natAbs_tmod_lt a h
      rw [if_pos (by omega), if_neg h, ih b (Int.tmod a b) (by omega) hb' (Int.tmod_nonneg _ ha) k (by omega), gcd_tmod]
theorem spec_l1Common_f {a b : Int} {k : Nat} (ha : a.natAbs ≤ 9223372036854775807) (hb : b.natAbs ≤ 9223372036854775807) (hk : b.natAbs < k) : spec_l1Common.f k a b = some (Int.gcd a b : Int) := by
  unfold spec_l1Common.f
  rw [mx_abs (by omega) (by omega), mx_abs (by omega) (by omega), spec_l1Common_l0 b.natAbs _ _ (by omega) (by omega) (by omega) k hk]
  rfl

-- spec_l1In
theorem spec_l1In_f (a b c : Int) : spec_l1In.f a b c = some (decide (b ≤ a ∧ a ≤ c)) := by
  unfold spec_l1In.f
  by_cases h : b ≤ a
  · rw [if_pos h]; exact dec_iff ⟨fun x => ⟨h, x⟩, fun x => x.2⟩
  · rw [if_neg h]; exact (dec_false (fun x => h x.1)).symm

-- spec_LinkOk
theorem spec_LinkOk_f (a b : Int) {k : Nat} (hk : 1000 ≤ k) : spec_LinkOk.f k a b = some (decide (LinkP a b)) := by
  unfold spec_LinkOk.f
  by_cases h2 : a = 0
  · rw [if_pos h2]; subst h2; exact dec_iff (linkP_zero b).symm
  · rw [if_neg h2]
    by_cases h3 : a = 1
    · rw [if_pos h3]; subst h3; exact dec_iff (linkP_one b).symm
    · rw [if_neg h3, spec_l1In_f]; simp only [Option.bind_some, decide_eq_true_eq]
      by_cases h1 : 2 ≤ a ∧ a ≤ 60
      · rw [if_pos h1, spec_l1In_f, wrap64_in (by omega) (by omega)]; simp only [Option.bind_some, decide_eq_true_eq]
        by_cases h4 : 1 ≤ b ∧ b ≤ a - 1
        · rw [if_pos h4, spec_l1Common_f (by omega) (by omega) (by omega)]; simp only [Option.bind_some, gcd_beq]
          exact dec_iff ⟨fun x => (linkP_more h2 h3).2 ⟨h1, by omega, x⟩, fun x => ((linkP_more h2 h3).1 x).2.2⟩
        · rw [if_neg h4]; exact (dec_false (fun x => by have := (linkP_more h2 h3).1 x; omega)).symm
      · rw [if_neg h1]; exact (dec_false (fun x => h1 ((linkP_more h2 h3).1 x).1)).symm

-- spec_MirrorLink
theorem spec_MirrorLink_f (a b : Int) {k : Nat} (hk : 1000 ≤ k) : spec_MirrorLink.f k a b = some (mirlinkofv a b) := by
  unfold spec_MirrorLink.f
  rw [spec_LinkOk_f _ _ hk]; simp only [Option.bind_some, decide_eq_true_eq]
  unfold mirlinkofv mirlinkv
  by_cases h : LinkP a b
  · rw [if_pos h, if_pos h]
    have hr := linkP_range h
    by_cases h2 : a < 2
    · rw [if_pos h2, if_neg (by omega)]
    · rw [if_neg h2, if_pos (by omega), wrap64_in (by omega) (by omega)]
  · rw [if_neg h, if_neg h]

-- eqLink
theorem eqLink_f (a b c d : Int) : laws_eqLink.f a b c d = some (decide (a = c ∧ b = d)) := by
  unfold laws_eqLink.f
  by_cases h : a = c
  · rw [if_pos h]
    by_cases h' : b = d
    · rw [if_pos h', decide_eq_true ⟨h, h'⟩]
    · rw [if_neg h', decide_eq_false (fun x => h' x.2)]
  · rw [if_neg h, decide_eq_false (fun x => h x.1)]

theorem FnExactMirrorLink (a b : Int) (_ : (Lit.int .i64 a).wf = true) (_ : (Lit.int .i64 b).wf = true) : ∃ k, laws_FnExactMirrorLink.f k a b = some true := by
  obtain ⟨k, hk⟩ := bigk
  refine ⟨k, ?_⟩
  unfold laws_FnExactMirrorLink.f laws_toLink.f
  simp only [Option.bind_some, spec_MirrorLink_f a b (show 1000 ≤ k by omega), impl_MirrorLink_f a b (show 1000 ≤ k by omega), eqLink_f]
  simp

end Go.Proofs.Ytaongkphmkldjaa.Pure
