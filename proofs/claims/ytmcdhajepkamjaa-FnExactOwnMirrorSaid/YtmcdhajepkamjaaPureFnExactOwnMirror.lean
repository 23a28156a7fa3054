/- FnExactOwnMirror: the program's OwnMirror answers as the reference's does, for all arguments. -/
import Derived.Test.YtmcdhajepkamjaaPFnExactOwnMirrorx0
import Derived.Test.YtmcdhajepkamjaaPFnExactOwnMirrorx1
import Derived.Test.YtmcdhajepkamjaaPFnExactOwnMirrorx2
import Derived.Test.YtmcdhajepkamjaaPFnExactOwnMirrorx3
set_option linter.unusedVariables false
set_option linter.unusedSimpArgs false
namespace Go.Proofs.Ytmcdhajepkamjaa.Pure
open Go.RowKit Go.Proofs.Ytmcdhajepkamjaa.PFnExactOwnMirror Go.Proofs.YtmcdhajepkamjaaW.PrintWords Go.Proofs.YtmcdhajepkamjaaW.PrintLast Go.Proofs.YtmcdhajepkamjaaW.PrintMore

-- base
theorem wrap64_in {n : Int} (h : -9223372036854775808 ≤ n) (h' : n ≤ 9223372036854775807) : wrap64 n = n := by unfold wrap64; omega
theorem i64_of_wf {n : Int} (h : (Lit.int .i64 n).wf = true) : -9223372036854775808 ≤ n ∧ n ≤ 9223372036854775807 := by
  simpa [Lit.wf, IntKind.min, IntKind.max, IntKind.signed, IntKind.bits] using h
theorem bigk : ∃ k : Nat, 1000000000 ≤ k := ⟨1000000000, Nat.le_refl _⟩
theorem dec_true {p : Prop} [Decidable p] (h : p) : some (decide p) = some true := by simp [h]
theorem dec_false {p : Prop} [Decidable p] (h : ¬ p) : some (decide p) = some false := by simp [h]
theorem dec_iff {p q : Prop} [Decidable p] [Decidable q] (h : p ↔ q) : some (decide p) = some (decide q) := by simp [h]
theorem ite_to {c : Prop} [Decidable c] {α : Type} {x y z : α} (h1 : c → x = z) (h2 : ¬ c → y = z) : (if c then x else y) = z := by
  by_cases h : c
  · rw [if_pos h]; exact h1 h
  · rw [if_neg h]; exact h2 h

-- link
/-- A link as LinkOk tells it. -/
def LinkP (a b : Int) : Prop := (a = 0 ∧ b = 1) ∨ (a = 1 ∧ b = 0) ∨ ((2 ≤ a ∧ a ≤ 60) ∧ (1 ≤ b ∧ b < a) ∧ Int.gcd a b = 1)
instance (a b : Int) : Decidable (LinkP a b) := by unfold LinkP; infer_instance
theorem linkP_zero (b : Int) : LinkP 0 b ↔ b = 1 := by unfold LinkP; omega
theorem linkP_one (b : Int) : LinkP 1 b ↔ b = 0 := by unfold LinkP; omega
theorem linkP_more {a b : Int} (h : a ≠ 0) (h' : a ≠ 1) : LinkP a b ↔ ((2 ≤ a ∧ a ≤ 60) ∧ (1 ≤ b ∧ b < a) ∧ Int.gcd a b = 1) := by
  unfold LinkP; constructor
  · rintro (x | x | x)
    · exact absurd x.1 h
    · exact absurd x.1 h'
    · exact x
  · exact fun x => .inr (.inr x)
theorem linkP_range {a b : Int} (h : LinkP a b) : 0 ≤ a ∧ a ≤ 60 ∧ 0 ≤ b ∧ b ≤ 59 := by
  unfold LinkP at h; omega
theorem gcd_beq (a b : Int) : (((Int.gcd a b : Nat) : Int) == 1) = decide (Int.gcd a b = 1) := by
  rw [Bool.eq_iff_iff]; simp; omega

-- gcdmath
theorem natAbs_tmod_lt (a : Int) {b : Int} (h : b ≠ 0) : (Int.tmod a b).natAbs < b.natAbs := by
  rw [Int.natAbs_tmod]
  exact Nat.mod_lt _ (by omega)
theorem gcd_tmod (a b : Int) : Int.gcd b (Int.tmod a b) = Int.gcd a b := by
  unfold Int.gcd
  rw [Int.natAbs_tmod, Nat.gcd_comm a.natAbs, Nat.gcd_rec b.natAbs a.natAbs, Nat.gcd_comm]
theorem mx_abs {a : Int} (h : -9223372036854775808 < a) (h' : a ≤ 9223372036854775807) : mx a (wrap64 (-a)) = (a.natAbs : Int) := by
  rw [wrap64_in (by omega) (by omega)]; unfold mx; split <;> omega

-- leastmath
/-- The program's search for a lesser number left: from x on. -/
def scan : Nat → Nat → Nat → Nat → Nat
  | 0, _, _, b => b
  | n + 1, x, a, b => if x < b then (if x * b % a = 1 then x else scan n (x + 1) a b) else b
/-- The reference's search for the number that multiplied leaves 1. -/
def backn : Nat → Nat → Nat → Nat → Nat
  | 0, _, _, _ => 0
  | n + 1, x, l, a => if x < a then (if x * l % a = 1 then x else backn n (x + 1) l a) else 0
def leastn (a b : Nat) : Nat := scan 60 1 a b
def leastv (a b : Int) : Int := (leastn a.toNat b.toNat : Nat)
theorem tmod_cast (m n : Nat) : Int.tmod (m : Int) (n : Int) = ((m % n : Nat) : Int) := by
  rw [Int.tmod_eq_emod_of_nonneg (by omega)]; omega
theorem back_least : ((List.range 61).all fun a => (List.range 61).all fun b => !(decide (2 ≤ a) && decide (1 ≤ b) && decide (b < a) && decide (Nat.gcd a b = 1)) || decide (min b (backn 60 1 b a) = leastn a b)) = true := by decide +kernel
theorem back_least_at {a b : Nat} (h1 : 2 ≤ a) (h2 : a ≤ 60) (h3 : 1 ≤ b) (h4 : b < a) (h5 : Nat.gcd a b = 1) : min b (backn 60 1 b a) = leastn a b := by
  have h := back_least
  rw [List.all_eq_true] at h
  have h := h a (List.mem_range.2 (by omega))
  rw [List.all_eq_true] at h
  have h := h b (List.mem_range.2 (by omega))
  simpa [h1, h3, h4, h5] using h
/-- What LeastOf answers. -/
def leastofv (a b : Int) : Int × Int × Bool := if LinkP a b then (a, leastv a b, true) else (0, 0, false)

-- samelink
/-- SameLink of two links. -/
def SameP (a b c d : Int) : Prop := LinkP a b ∧ LinkP c d ∧ a = c ∧ leastv a b = leastv c d
instance (a b c d : Int) : Decidable (SameP a b c d) := by unfold SameP; infer_instance
theorem beq_and (a b c d : Int) : (a == c && (b == d)) = decide (a = c ∧ b = d) := by
  rw [Bool.eq_iff_iff]; simp

-- mirlink
def mirlinkv (a b : Int) : Int × Int := if a ≥ 2 then (a, a - b) else (a, b)
def mirlinkofv (a b : Int) : Int × Int × Bool := if LinkP a b then ((mirlinkv a b).1, (mirlinkv a b).2, true) else (0, 0, false)
theorem mirlink_ok {a b : Int} (h : LinkP a b) : LinkP (mirlinkv a b).1 (mirlinkv a b).2 := by
  unfold mirlinkv
  split
  · rename_i h2
    have x := (linkP_more (by omega) (by omega)).1 h
    refine (linkP_more (by simp; omega) (by simp; omega)).2 ⟨x.1, by simp; omega, ?_⟩
    simp only
    rw [show a - b = -b + a * 1 by omega, Int.gcd_add_mul_left_right]
    simpa using x.2.2
  · exact h

-- ownmirror
def OwnP (a b : Int) : Prop := LinkP a b ∧ SameP a b (mirlinkv a b).1 (mirlinkv a b).2
instance (a b : Int) : Decidable (OwnP a b) := by unfold OwnP; infer_instance

-- impl_least
theorem impl_least_l0 (n : Nat) : ∀ (x a b : Nat), 0 < a → b ≤ x + n → x ≤ 100 → a ≤ 100 → b ≤ 100 → ∀ k, n + 1 < k → impl_least.l0 k (x : Int) (a : Int) (b : Int) = some ((a : Int), ((scan n x a b : Nat) : Int)) := by
  induction n with
  | zero =>
    intro x a b ha hb hx _ _ k hk
    obtain ⟨k, rfl⟩ : ∃ m, k = m + 1 := ⟨k - 1, by omega⟩
    simp only [impl_least.l0]
    rw [if_neg (by omega)]; rfl
  | succ n ih =>
    intro x a b ha hb hx ha' hb' k hk
    obtain ⟨k, rfl⟩ : ∃ m, k = m + 1 := ⟨k - 1, by omega⟩
    simp only [impl_least.l0, scan]
    by_cases h : x < b
    · have hm : x * b ≤ 100 * 100 := Nat.mul_le_mul hx hb'
      rw [if_pos (by omega), if_neg (by omega), if_pos h, ← Int.natCast_mul, wrap64_in (n := ((x * b : Nat) : Int)) (by omega) (by omega), tmod_cast]
      by_cases h1 : x * b % a = 1
      · rw [if_pos (by omega), if_pos h1, wrap64_in (by omega) (by omega)]
        obtain ⟨k, rfl⟩ : ∃ m, k = m + 1 := ⟨k - 1, by omega⟩
        simp only [impl_least.l0]
        rw [if_neg (by omega)]
      · rw [if_neg (by omega), if_neg h1, wrap64_in (by omega) (by omega)]
        have := ih (x + 1) a b ha (by omega) (by omega) ha' hb' k (by omega)
        rw [← this]; rfl
    · rw [if_neg (by omega), if_neg h]
theorem impl_least_f {a b : Int} {k : Nat} (h : LinkP a b) (hk : 1000 ≤ k) : impl_least.f k a b = some (a, leastv a b) := by
  have hr := linkP_range h
  unfold impl_least.f leastv leastn
  obtain ⟨a, rfl⟩ := Int.eq_ofNat_of_zero_le hr.1
  obtain ⟨b, rfl⟩ := Int.eq_ofNat_of_zero_le hr.2.2.1
  by_cases ha : a = 0
  · subst ha
    have := (linkP_zero b).1 h
    obtain rfl : b = 1 := by omega
    obtain ⟨k, rfl⟩ : ∃ m, k = m + 1 := ⟨k - 1, by omega⟩
    simp only [impl_least.l0]
    rw [if_neg (by omega)]; rfl
  · exact impl_least_l0 60 1 a b (by omega) (by omega) (by omega) (by omega) (by omega) k (by omega)

-- impl_gcd
theorem impl_gcd_l0 (n : Nat) : ∀ (a b : Int), b.natAbs ≤ n → a.natAbs ≤ 9223372036854775807 → b.natAbs ≤ 9223372036854775807 → ∀ k, n < k → impl_gcd.l0 k a b = some (Int.gcd a b : Int) := by
  induction n with
  | zero =>
    intro a b hb ha _ k hk
    obtain ⟨k, rfl⟩ : ∃ m, k = m + 1 := ⟨k - 1, by omega⟩
    obtain rfl : b = 0 := by omega
    simp only [impl_gcd.l0]
    rw [if_pos trivial, mx_abs (by omega) (by omega), Int.gcd_zero_right]
  | succ n ih =>
    intro a b hb ha hb' k hk
    obtain ⟨k, rfl⟩ : ∃ m, k = m + 1 := ⟨k - 1, by omega⟩
    simp only [impl_gcd.l0]
    by_cases h : b = 0
    · subst h; rw [if_pos rfl, mx_abs (by omega) (by omega), Int.gcd_zero_right]
    · have := natAbs_tmod_lt a h
      rw [if_neg h, ih b (Int.tmod a b) (by omega) hb' (by omega) k (by omega), gcd_tmod]
theorem impl_gcd_f {a b : Int} {k : Nat} (ha : a.natAbs ≤ 9223372036854775807) (hb : b.natAbs ≤ 9223372036854775807) (hk : b.natAbs < k) : impl_gcd.f k a b = some (Int.gcd a b : Int) :=
  impl_gcd_l0 b.natAbs a b (Nat.le_refl _) ha hb k hk

-- impl_isLink
theorem impl_isLink_f (a b : Int) {k : Nat} (hk : 1000 ≤ k) : impl_isLink.f k a b = some (decide (LinkP a b)) := by
  obtain ⟨k, rfl⟩ : ∃ m, k = m + 1 := ⟨k - 1, by omega⟩
  unfold impl_isLink.f
  by_cases h0 : a < 0
  · rw [if_pos h0]; simp only [impl_isLink.j0]; rw [if_pos trivial]
    exact (dec_false (fun x => by have := linkP_range x; omega)).symm
  · rw [if_neg h0]; simp only [impl_isLink.j0, decide_eq_true_eq]
    by_cases h1 : a > 60
    · rw [if_pos h1]; exact (dec_false (fun x => by have := linkP_range x; omega)).symm
    · rw [if_neg h1]
      by_cases h2 : a = 0
      · rw [if_pos h2]; subst h2; exact dec_iff (linkP_zero b).symm
      · rw [if_neg h2]
        by_cases h3 : a = 1
        · rw [if_pos h3]; subst h3; exact dec_iff (linkP_one b).symm
        · rw [if_neg h3]
          by_cases h4 : b ≥ 1
          · rw [if_pos h4]
            by_cases h5 : b < a
            · rw [if_pos h5, impl_gcd_f (by omega) (by omega) (by omega)]; simp only [Option.bind_some, gcd_beq]
              exact dec_iff ⟨fun x => (linkP_more h2 h3).2 ⟨by omega, by omega, x⟩, fun x => ((linkP_more h2 h3).1 x).2.2⟩
            · rw [if_neg h5]; exact (dec_false (fun x => by have := (linkP_more h2 h3).1 x; omega)).symm
          · rw [if_neg h4]; exact (dec_false (fun x => by have := (linkP_more h2 h3).1 x; omega)).symm

-- impl_mirrorLink
theorem impl_mirrorLink_f {a b : Int} (h : LinkP a b) : impl_mirrorLink.f a b = some (mirlinkv a b) := by
  unfold impl_mirrorLink.f mirlinkv
  have hr := linkP_range h
  split
  · rw [wrap64_in (by omega) (by omega)]
  · rfl

-- impl_OwnMirror
theorem impl_OwnMirror_f (a b : Int) {k : Nat} (hk : 1000 ≤ k) : impl_OwnMirror.f k a b = some (decide (OwnP a b)) := by
  unfold impl_OwnMirror.f
  rw [impl_isLink_f _ _ hk]; simp only [Option.bind_some, decide_eq_true_eq]
  by_cases h : LinkP a b
  · rw [if_pos h, impl_least_f h hk, impl_mirrorLink_f h]; simp only [Option.bind_some]
    rw [impl_least_f (mirlink_ok h) hk]; simp only [Option.bind_some, beq_and]
    exact dec_iff ⟨fun x => ⟨h, h, mirlink_ok h, x⟩, fun x => x.2.2.2⟩
  · rw [if_neg h]; exact (dec_false (fun x => h x.1)).symm

-- spec_l1Common
theorem spec_l1Common_l0 (n : Nat) : ∀ (a b : Int), b.natAbs ≤ n → 0 ≤ a → 0 ≤ b → ∀ k, n < k → spec_l1Common.l0 k a b = some (Int.gcd a b : Int) := by
  induction n with
  | zero =>
    intro a b hb ha _ k hk
    obtain ⟨k, rfl⟩ : ∃ m, k = m + 1 := ⟨k - 1, by omega⟩
    obtain rfl : b = 0 := by omega
    simp only [spec_l1Common.l0]
    rw [if_neg (by omega), Int.gcd_zero_right]
    congr 1; omega
  | succ n ih =>
    intro a b hb ha hb' k hk
    obtain ⟨k, rfl⟩ : ∃ m, k = m + 1 := ⟨k - 1, by omega⟩
    simp only [spec_l1Common.l0]
    by_cases h : b = 0
    · subst h; rw [if_neg (by omega), Int.gcd_zero_right]; congr 1; omega
    · have := natAbs_tmod_lt a h
      rw [if_pos (by omega), if_neg h, ih b (Int.tmod a b) (by omega) hb' (Int.tmod_nonneg _ ha) k (by omega), gcd_tmod]
theorem spec_l1Common_f {a b : Int} {k : Nat} (ha : a.natAbs ≤ 9223372036854775807) (hb : b.natAbs ≤ 9223372036854775807) (hk : b.natAbs < k) : spec_l1Common.f k a b = some (Int.gcd a b : Int) := by
  unfold spec_l1Common.f
  rw [mx_abs (by omega) (by omega), mx_abs (by omega) (by omega), spec_l1Common_l0 b.natAbs _ _ (by omega) (by omega) (by omega) k hk]
  rfl

-- spec_l1In
theorem spec_l1In_f (a b c : Int) : spec_l1In.f a b c = some (decide (b ≤ a ∧ a ≤ c)) := by
  unfold spec_l1In.f
  by_cases h : b ≤ a
  · rw [if_pos h]; exact dec_iff ⟨fun x => ⟨h, x⟩, fun x => x.2⟩
  · rw [if_neg h]; exact (dec_false (fun x => h x.1)).symm

-- spec_LinkOk
theorem spec_LinkOk_f (a b : Int) {k : Nat} (hk : 1000 ≤ k) : spec_LinkOk.f k a b = some (decide (LinkP a b)) := by
  unfold spec_LinkOk.f
  by_cases h2 : a = 0
  · rw [if_pos h2]; subst h2; exact dec_iff (linkP_zero b).symm
  · rw [if_neg h2]
    by_cases h3 : a = 1
    · rw [if_pos h3]; subst h3; exact dec_iff (linkP_one b).symm
    · rw [if_neg h3, spec_l1In_f]; simp only [Option.bind_some, decide_eq_true_eq]
      by_cases h1 : 2 ≤ a ∧ a ≤ 60
      · rw [if_pos h1, spec_l1In_f, wrap64_in (by omega) (by omega)]; simp only [Option.bind_some, decide_eq_true_eq]
        by_cases h4 : 1 ≤ b ∧ b ≤ a - 1
        · rw [if_pos h4, spec_l1Common_f (by omega) (by omega) (by omega)]; simp only [Option.bind_some, gcd_beq]
          exact dec_iff ⟨fun x => (linkP_more h2 h3).2 ⟨h1, by omega, x⟩, fun x => ((linkP_more h2 h3).1 x).2.2⟩
        · rw [if_neg h4]; exact (dec_false (fun x => by have := (linkP_more h2 h3).1 x; omega)).symm
      · rw [if_neg h1]; exact (dec_false (fun x => h1 ((linkP_more h2 h3).1 x).1)).symm

-- spec_MirrorLink
theorem spec_MirrorLink_f (a b : Int) {k : Nat} (hk : 1000 ≤ k) : spec_MirrorLink.f k a b = some (mirlinkofv a b) := by
  unfold spec_MirrorLink.f
  rw [spec_LinkOk_f _ _ hk]; simp only [Option.bind_some, decide_eq_true_eq]
  unfold mirlinkofv mirlinkv
  by_cases h : LinkP a b
  · rw [if_pos h, if_pos h]
    have hr := linkP_range h
    by_cases h2 : a < 2
    · rw [if_pos h2, if_neg (by omega)]
    · rw [if_neg h2, if_pos (by omega), wrap64_in (by omega) (by omega)]
  · rw [if_neg h, if_neg h]

-- spec_LeastOf
theorem spec_l10Back_l0 (n : Nat) : ∀ (x a b : Nat), 0 < a → a ≤ x + n → x ≤ 100 → a ≤ 100 → b ≤ 100 → ∀ k, n < k → spec_l10Back.l0 k (b : Int) (a : Int) (x : Int) = some ((backn n x b a : Nat) : Int) := by
  induction n with
  | zero =>
    intro x a b ha hb hx _ _ k hk
    obtain ⟨k, rfl⟩ : ∃ m, k = m + 1 := ⟨k - 1, by omega⟩
    simp only [spec_l10Back.l0]
    rw [if_neg (by omega)]; rfl
  | succ n ih =>
    intro x a b ha hb hx ha' hb' k hk
    obtain ⟨k, rfl⟩ : ∃ m, k = m + 1 := ⟨k - 1, by omega⟩
    simp only [spec_l10Back.l0, backn]
    by_cases h : x < a
    · have hm : x * b ≤ 100 * 100 := Nat.mul_le_mul hx hb'
      rw [if_pos (by omega), if_neg (by omega), if_pos h, ← Int.natCast_mul, wrap64_in (n := ((x * b : Nat) : Int)) (by omega) (by omega), tmod_cast]
      by_cases h1 : x * b % a = 1
      · rw [if_pos (by omega), if_pos h1]
      · rw [if_neg (by omega), if_neg h1, wrap64_in (by omega) (by omega)]
        have := ih (x + 1) a b ha (by omega) (by omega) ha' hb' k (by omega)
        rw [← this]; rfl
    · rw [if_neg (by omega), if_neg h]; rfl
theorem spec_LeastOf_f (a b : Int) {k : Nat} (hk : 1000 ≤ k) : spec_LeastOf.f k a b = some (leastofv a b) := by
  unfold spec_LeastOf.f
  rw [spec_LinkOk_f _ _ hk]; simp only [Option.bind_some, decide_eq_true_eq]
  unfold leastofv
  by_cases h : LinkP a b
  · rw [if_pos h, if_pos h]
    have hr := linkP_range h
    obtain ⟨a, rfl⟩ := Int.eq_ofNat_of_zero_le hr.1
    obtain ⟨b, rfl⟩ := Int.eq_ofNat_of_zero_le hr.2.2.1
    by_cases h0 : a = 0
    · subst h0
      have := (linkP_zero b).1 h
      obtain rfl : b = 1 := by omega
      rfl
    · by_cases h1 : a = 1
      · subst h1
        have := (linkP_one b).1 h
        obtain rfl : b = 0 := by omega
        rfl
      · have hm := (linkP_more (by omega) (by omega)).1 h
        rw [if_neg (by omega)]
        unfold spec_l10Back.f
        have e := spec_l10Back_l0 60 1 a b (by omega) (by omega) (by omega) (by omega) (by omega) k (by omega)
        rw [show ((1 : Nat) : Int) = 1 from rfl] at e
        rw [e]; simp only [Option.bind_some]
        have := back_least_at (a := a) (b := b) (by omega) (by omega) (by omega) (by omega) (by have := hm.2.2; simpa [Int.gcd] using this)
        unfold leastv
        rw [show (((a : Nat) : Int)).toNat = a from rfl, show (((b : Nat) : Int)).toNat = b from rfl, ← this]
        congr 3
        unfold mn; split <;> omega
  · rw [if_neg h, if_neg h]

-- spec_SameLink
theorem spec_SameLink_f (a b c d : Int) {k : Nat} (hk : 1000 ≤ k) : spec_SameLink.f k a b c d = some (decide (SameP a b c d)) := by
  unfold spec_SameLink.f
  rw [spec_LeastOf_f _ _ hk, spec_LeastOf_f _ _ hk]; simp only [Option.bind_some]
  unfold leastofv
  by_cases h : LinkP a b
  · rw [if_pos h]; rw [if_pos rfl]
    by_cases h' : LinkP c d
    · rw [if_pos h']; rw [if_pos rfl]; simp only [beq_and]
      exact dec_iff ⟨fun x => ⟨h, h', x⟩, fun x => x.2.2⟩
    · rw [if_neg h']; rw [if_neg (by decide)]; exact (dec_false (fun x => h' x.2.1)).symm
  · rw [if_neg h]; rw [if_neg (by decide)]; exact (dec_false (fun x => h x.1)).symm

-- spec_OwnMirror
theorem spec_OwnMirror_f (a b : Int) {k : Nat} (hk : 1000 ≤ k) : spec_OwnMirror.f k a b = some (decide (OwnP a b)) := by
  unfold spec_OwnMirror.f
  rw [spec_MirrorLink_f _ _ hk]; simp only [Option.bind_some]
  unfold mirlinkofv
  by_cases h : LinkP a b
  · rw [if_pos h]; rw [if_pos rfl, spec_SameLink_f _ _ _ _ hk]; simp only [Option.bind_some]
    exact dec_iff ⟨fun x => ⟨h, x⟩, fun x => x.2⟩
  · rw [if_neg h]; rw [if_neg (by decide)]; exact (dec_false (fun x => h x.1)).symm

theorem FnExactOwnMirror (a b : Int) (_ : (Lit.int .i64 a).wf = true) (_ : (Lit.int .i64 b).wf = true) : ∃ k, laws_FnExactOwnMirror.f k a b = some true := by
  obtain ⟨k, hk⟩ := bigk
  refine ⟨k, ?_⟩
  unfold laws_FnExactOwnMirror.f laws_toLink.f
  simp only [Option.bind_some, spec_OwnMirror_f a b (show 1000 ≤ k by omega), impl_OwnMirror_f a b (show 1000 ≤ k by omega)]
  simp

end Go.Proofs.Ytmcdhajepkamjaa.Pure
