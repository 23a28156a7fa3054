/- FnExactLinksOf: the program's LinksOf answers as the reference's does, for all arguments, in memory of its own. -/
import Derived.Test.YtmcdhajepkamjaaPFnExactLinksOfx0
import Derived.Test.YtmcdhajepkamjaaPFnExactLinksOfx1
import Derived.Test.YtmcdhajepkamjaaPFnExactLinksOfx2
import Derived.Test.YtmcdhajepkamjaaPFnExactLinksOfx3
import Derived.Test.YtmcdhajepkamjaaPFnExactLinksOfx4
set_option linter.unusedVariables false
set_option linter.unusedSimpArgs false
namespace Go.Proofs.Ytmcdhajepkamjaa.Pure
open Go.RowKit Go.Proofs.Ytmcdhajepkamjaa.PFnExactLinksOf Go.Proofs.YtmcdhajepkamjaaW.PrintWords Go.Proofs.YtmcdhajepkamjaaW.PrintLast Go.Proofs.YtmcdhajepkamjaaW.PrintMore

-- base
theorem wrap64_in {n : Int} (h : -9223372036854775808 ≤ n) (h' : n ≤ 9223372036854775807) : wrap64 n = n := by unfold wrap64; omega
theorem i64_of_wf {n : Int} (h : (Lit.int .i64 n).wf = true) : -9223372036854775808 ≤ n ∧ n ≤ 9223372036854775807 := by
  simpa [Lit.wf, IntKind.min, IntKind.max, IntKind.signed, IntKind.bits] using h
theorem bigk : ∃ k : Nat, 1000000000 ≤ k := ⟨1000000000, Nat.le_refl _⟩
theorem dec_true {p : Prop} [Decidable p] (h : p) : some (decide p) = some true := by simp [h]
theorem dec_false {p : Prop} [Decidable p] (h : ¬ p) : some (decide p) = some false := by simp [h]
theorem dec_iff {p q : Prop} [Decidable p] [Decidable q] (h : p ↔ q) : some (decide p) = some (decide q) := by simp [h]
theorem ite_to {c : Prop} [Decidable c] {α : Type} {x y z : α} (h1 : c → x = z) (h2 : ¬ c → y = z) : (if c then x else y) = z := by
  by_cases h : c
  · rw [if_pos h]; exact h1 h
  · rw [if_neg h]; exact h2 h

-- link
/-- A link as LinkOk tells it. -/
def LinkP (a b : Int) : Prop := (a = 0 ∧ b = 1) ∨ (a = 1 ∧ b = 0) ∨ ((2 ≤ a ∧ a ≤ 60) ∧ (1 ≤ b ∧ b < a) ∧ Int.gcd a b = 1)
instance (a b : Int) : Decidable (LinkP a b) := by unfold LinkP; infer_instance
theorem linkP_zero (b : Int) : LinkP 0 b ↔ b = 1 := by unfold LinkP; omega
theorem linkP_one (b : Int) : LinkP 1 b ↔ b = 0 := by unfold LinkP; omega
theorem linkP_more {a b : Int} (h : a ≠ 0) (h' : a ≠ 1) : LinkP a b ↔ ((2 ≤ a ∧ a ≤ 60) ∧ (1 ≤ b ∧ b < a) ∧ Int.gcd a b = 1) := by
  unfold LinkP; constructor
  · rintro (x | x | x)
    · exact absurd x.1 h
    · exact absurd x.1 h'
    · exact x
  · exact fun x => .inr (.inr x)
theorem linkP_range {a b : Int} (h : LinkP a b) : 0 ≤ a ∧ a ≤ 60 ∧ 0 ≤ b ∧ b ≤ 59 := by
  unfold LinkP at h; omega
theorem gcd_beq (a b : Int) : (((Int.gcd a b : Nat) : Int) == 1) = decide (Int.gcd a b = 1) := by
  rw [Bool.eq_iff_iff]; simp; omega

-- gcdmath
theorem natAbs_tmod_lt (a : Int) {b : Int} (h : b ≠ 0) : (Int.tmod a b).natAbs < b.natAbs := by
  rw [Int.natAbs_tmod]
  exact Nat.mod_lt _ (by omega)
theorem gcd_tmod (a b : Int) : Int.gcd b (Int.tmod a b) = Int.gcd a b := by
  unfold Int.gcd
  rw [Int.natAbs_tmod, Nat.gcd_comm a.natAbs, Nat.gcd_rec b.natAbs a.natAbs, Nat.gcd_comm]
theorem mx_abs {a : Int} (h : -9223372036854775808 < a) (h' : a ≤ 9223372036854775807) : mx a (wrap64 (-a)) = (a.natAbs : Int) := by
  rw [wrap64_in (by omega) (by omega)]; unfold mx; split <;> omega

-- leastmath
/-- The program's search for a lesser number left: from x on. -/
def scan : Nat → Nat → Nat → Nat → Nat
  | 0, _, _, b => b
  | n + 1, x, a, b => if x < b then (if x * b % a = 1 then x else scan n (x + 1) a b) else b
/-- The reference's search for the number that multiplied leaves 1. -/
def backn : Nat → Nat → Nat → Nat → Nat
  | 0, _, _, _ => 0
  | n + 1, x, l, a => if x < a then (if x * l % a = 1 then x else backn n (x + 1) l a) else 0
def leastn (a b : Nat) : Nat := scan 60 1 a b
def leastv (a b : Int) : Int := (leastn a.toNat b.toNat : Nat)
theorem tmod_cast (m n : Nat) : Int.tmod (m : Int) (n : Int) = ((m % n : Nat) : Int) := by
  rw [Int.tmod_eq_emod_of_nonneg (by omega)]; omega
theorem back_least : ((List.range 61).all fun a => (List.range 61).all fun b => !(decide (2 ≤ a) && decide (1 ≤ b) && decide (b < a) && decide (Nat.gcd a b = 1)) || decide (min b (backn 60 1 b a) = leastn a b)) = true := by decide +kernel
theorem back_least_at {a b : Nat} (h1 : 2 ≤ a) (h2 : a ≤ 60) (h3 : 1 ≤ b) (h4 : b < a) (h5 : Nat.gcd a b = 1) : min b (backn 60 1 b a) = leastn a b := by
  have h := back_least
  rw [List.all_eq_true] at h
  have h := h a (List.mem_range.2 (by omega))
  rw [List.all_eq_true] at h
  have h := h b (List.mem_range.2 (by omega))
  simpa [h1, h3, h4, h5] using h
/-- What LeastOf answers. -/
def leastofv (a b : Int) : Int × Int × Bool := if LinkP a b then (a, leastv a b, true) else (0, 0, false)

-- impl_least
theorem impl_least_l0 (n : Nat) : ∀ (x a b : Nat), 0 < a → b ≤ x + n → x ≤ 100 → a ≤ 100 → b ≤ 100 → ∀ k, n + 1 < k → impl_least.l0 k (x : Int) (a : Int) (b : Int) = some ((a : Int), ((scan n x a b : Nat) : Int)) := by
  induction n with
  | zero =>
    intro x a b ha hb hx _ _ k hk
    obtain ⟨k, rfl⟩ : ∃ m, k = m + 1 := ⟨k - 1, by omega⟩
    simp only [impl_least.l0]
    rw [if_neg (by omega)]; rfl
  | succ n ih =>
    intro x a b ha hb hx ha' hb' k hk
    obtain ⟨k, rfl⟩ : ∃ m, k = m + 1 := ⟨k - 1, by omega⟩
    simp only [impl_least.l0, scan]
    by_cases h : x < b
    · have hm : x * b ≤ 100 * 100 := Nat.mul_le_mul hx hb'
      rw [if_pos (by omega), if_neg (by omega), if_pos h, ← Int.natCast_mul, wrap64_in (n := ((x * b : Nat) : Int)) (by omega) (by omega), tmod_cast]
      by_cases h1 : x * b % a = 1
      · rw [if_pos (by omega), if_pos h1, wrap64_in (by omega) (by omega)]
        obtain ⟨k, rfl⟩ : ∃ m, k = m + 1 := ⟨k - 1, by omega⟩
        simp only [impl_least.l0]
        rw [if_neg (by omega)]
      · rw [if_neg (by omega), if_neg h1, wrap64_in (by omega) (by omega)]
        have := ih (x + 1) a b ha (by omega) (by omega) ha' hb' k (by omega)
        rw [← this]; rfl
    · rw [if_neg (by omega), if_neg h]
theorem impl_least_f {a b : Int} {k : Nat} (h : LinkP a b) (hk : 1000 ≤ k) : impl_least.f k a b = some (a, leastv a b) := by
  have hr := linkP_range h
  unfold impl_least.f leastv leastn
  obtain ⟨a, rfl⟩ := Int.eq_ofNat_of_zero_le hr.1
  obtain ⟨b, rfl⟩ := Int.eq_ofNat_of_zero_le hr.2.2.1
  by_cases ha : a = 0
  · subst ha
    have := (linkP_zero b).1 h
    obtain rfl : b = 1 := by omega
    obtain ⟨k, rfl⟩ : ∃ m, k = m + 1 := ⟨k - 1, by omega⟩
    simp only [impl_least.l0]
    rw [if_neg (by omega)]; rfl
  · exact impl_least_l0 60 1 a b (by omega) (by omega) (by omega) (by omega) (by omega) k (by omega)

-- impl_gcd
theorem impl_gcd_l0 (n : Nat) : ∀ (a b : Int), b.natAbs ≤ n → a.natAbs ≤ 9223372036854775807 → b.natAbs ≤ 9223372036854775807 → ∀ k, n < k → impl_gcd.l0 k a b = some (Int.gcd a b : Int) := by
  induction n with
  | zero =>
    intro a b hb ha _ k hk
    obtain ⟨k, rfl⟩ : ∃ m, k = m + 1 := ⟨k - 1, by omega⟩
    obtain rfl : b = 0 := by omega
    simp only [impl_gcd.l0]
    rw [if_pos trivial, mx_abs (by omega) (by omega), Int.gcd_zero_right]
  | succ n ih =>
    intro a b hb ha hb' k hk
    obtain ⟨k, rfl⟩ : ∃ m, k = m + 1 := ⟨k - 1, by omega⟩
    simp only [impl_gcd.l0]
    by_cases h : b = 0
    · subst h; rw [if_pos rfl, mx_abs (by omega) (by omega), Int.gcd_zero_right]
    · have := natAbs_tmod_lt a h
      rw [if_neg h, ih b (Int.tmod a b) (by omega) hb' (by omega) k (by omega), gcd_tmod]
theorem impl_gcd_f {a b : Int} {k : Nat} (ha : a.natAbs ≤ 9223372036854775807) (hb : b.natAbs ≤ 9223372036854775807) (hk : b.natAbs < k) : impl_gcd.f k a b = some (Int.gcd a b : Int) :=
  impl_gcd_l0 b.natAbs a b (Nat.le_refl _) ha hb k hk

-- impl_isLink
theorem impl_isLink_f (a b : Int) {k : Nat} (hk : 1000 ≤ k) : impl_isLink.f k a b = some (decide (LinkP a b)) := by
  obtain ⟨k, rfl⟩ : ∃ m, k = m + 1 := ⟨k - 1, by omega⟩
  unfold impl_isLink.f
  by_cases h0 : a < 0
  · rw [if_pos h0]; simp only [impl_isLink.j0]; rw [if_pos trivial]
    exact (dec_false (fun x => by have := linkP_range x; omega)).symm
  · rw [if_neg h0]; simp only [impl_isLink.j0, decide_eq_true_eq]
    by_cases h1 : a > 60
    · rw [if_pos h1]; exact (dec_false (fun x => by have := linkP_range x; omega)).symm
    · rw [if_neg h1]
      by_cases h2 : a = 0
      · rw [if_pos h2]; subst h2; exact dec_iff (linkP_zero b).symm
      · rw [if_neg h2]
        by_cases h3 : a = 1
        · rw [if_pos h3]; subst h3; exact dec_iff (linkP_one b).symm
        · rw [if_neg h3]
          by_cases h4 : b ≥ 1
          · rw [if_pos h4]
            by_cases h5 : b < a
            · rw [if_pos h5, impl_gcd_f (by omega) (by omega) (by omega)]; simp only [Option.bind_some, gcd_beq]
              exact dec_iff ⟨fun x => (linkP_more h2 h3).2 ⟨by omega, by omega, x⟩, fun x => ((linkP_more h2 h3).1 x).2.2⟩
            · rw [if_neg h5]; exact (dec_false (fun x => by have := (linkP_more h2 h3).1 x; omega)).symm
          · rw [if_neg h4]; exact (dec_false (fun x => by have := (linkP_more h2 h3).1 x; omega)).symm

-- spec_l1Common
theorem spec_l1Common_l0 (n : Nat) : ∀ (a b : Int), b.natAbs ≤ n → 0 ≤ a → 0 ≤ b → ∀ k, n < k → spec_l1Common.l0 k a b = some (Int.gcd a b : Int) := by
  induction n with
  | zero =>
    intro a b hb ha _ k hk
    obtain ⟨k, rfl⟩ : ∃ m, k = m + 1 := ⟨k - 1, by omega⟩
    obtain rfl : b = 0 := by omega
    simp only [spec_l1Common.l0]
    rw [if_neg (by omega), Int.gcd_zero_right]
    congr 1; omega
  | succ n ih =>
    intro a b hb ha hb' k hk
    obtain ⟨k, rfl⟩ : ∃ m, k = m + 1 := ⟨k - 1, by omega⟩
    simp only [spec_l1Common.l0]
    by_cases h : b = 0
    · subst h; rw [if_neg (by omega), Int.gcd_zero_right]; congr 1; omega
    · have := natAbs_tmod_lt a h
      rw [if_pos (by omega), if_neg h, ih b (Int.tmod a b) (by omega) hb' (Int.tmod_nonneg _ ha) k (by omega), gcd_tmod]
theorem spec_l1Common_f {a b : Int} {k : Nat} (ha : a.natAbs ≤ 9223372036854775807) (hb : b.natAbs ≤ 9223372036854775807) (hk : b.natAbs < k) : spec_l1Common.f k a b = some (Int.gcd a b : Int) := by
  unfold spec_l1Common.f
  rw [mx_abs (by omega) (by omega), mx_abs (by omega) (by omega), spec_l1Common_l0 b.natAbs _ _ (by omega) (by omega) (by omega) k hk]
  rfl

-- spec_l1In
theorem spec_l1In_f (a b c : Int) : spec_l1In.f a b c = some (decide (b ≤ a ∧ a ≤ c)) := by
  unfold spec_l1In.f
  by_cases h : b ≤ a
  · rw [if_pos h]; exact dec_iff ⟨fun x => ⟨h, x⟩, fun x => x.2⟩
  · rw [if_neg h]; exact (dec_false (fun x => h x.1)).symm

-- spec_LinkOk
theorem spec_LinkOk_f (a b : Int) {k : Nat} (hk : 1000 ≤ k) : spec_LinkOk.f k a b = some (decide (LinkP a b)) := by
  unfold spec_LinkOk.f
  by_cases h2 : a = 0
  · rw [if_pos h2]; subst h2; exact dec_iff (linkP_zero b).symm
  · rw [if_neg h2]
    by_cases h3 : a = 1
    · rw [if_pos h3]; subst h3; exact dec_iff (linkP_one b).symm
    · rw [if_neg h3, spec_l1In_f]; simp only [Option.bind_some, decide_eq_true_eq]
      by_cases h1 : 2 ≤ a ∧ a ≤ 60
      · rw [if_pos h1, spec_l1In_f, wrap64_in (by omega) (by omega)]; simp only [Option.bind_some, decide_eq_true_eq]
        by_cases h4 : 1 ≤ b ∧ b ≤ a - 1
        · rw [if_pos h4, spec_l1Common_f (by omega) (by omega) (by omega)]; simp only [Option.bind_some, gcd_beq]
          exact dec_iff ⟨fun x => (linkP_more h2 h3).2 ⟨h1, by omega, x⟩, fun x => ((linkP_more h2 h3).1 x).2.2⟩
        · rw [if_neg h4]; exact (dec_false (fun x => by have := (linkP_more h2 h3).1 x; omega)).symm
      · rw [if_neg h1]; exact (dec_false (fun x => h1 ((linkP_more h2 h3).1 x).1)).symm

-- spec_LeastOf
theorem spec_l10Back_l0 (n : Nat) : ∀ (x a b : Nat), 0 < a → a ≤ x + n → x ≤ 100 → a ≤ 100 → b ≤ 100 → ∀ k, n < k → spec_l10Back.l0 k (b : Int) (a : Int) (x : Int) = some ((backn n x b a : Nat) : Int) := by
  induction n with
  | zero =>
    intro x a b ha hb hx _ _ k hk
    obtain ⟨k, rfl⟩ : ∃ m, k = m + 1 := ⟨k - 1, by omega⟩
    simp only [spec_l10Back.l0]
    rw [if_neg (by omega)]; rfl
  | succ n ih =>
    intro x a b ha hb hx ha' hb' k hk
    obtain ⟨k, rfl⟩ : ∃ m, k = m + 1 := ⟨k - 1, by omega⟩
    simp only [spec_l10Back.l0, backn]
    by_cases h : x < a
    · have hm : x * b ≤ 100 * 100 := Nat.mul_le_mul hx hb'
      rw [if_pos (by omega), if_neg (by omega), if_pos h, ← Int.natCast_mul, wrap64_in (n := ((x * b : Nat) : Int)) (by omega) (by omega), tmod_cast]
      by_cases h1 : x * b % a = 1
      · rw [if_pos (by omega), if_pos h1]
      · rw [if_neg (by omega), if_neg h1, wrap64_in (by omega) (by omega)]
        have := ih (x + 1) a b ha (by omega) (by omega) ha' hb' k (by omega)
        rw [← this]; rfl
    · rw [if_neg (by omega), if_neg h]; rfl
theorem spec_LeastOf_f (a b : Int) {k : Nat} (hk : 1000 ≤ k) : spec_LeastOf.f k a b = some (leastofv a b) := by
  unfold spec_LeastOf.f
  rw [spec_LinkOk_f _ _ hk]; simp only [Option.bind_some, decide_eq_true_eq]
  unfold leastofv
  by_cases h : LinkP a b
  · rw [if_pos h, if_pos h]
    have hr := linkP_range h
    obtain ⟨a, rfl⟩ := Int.eq_ofNat_of_zero_le hr.1
    obtain ⟨b, rfl⟩ := Int.eq_ofNat_of_zero_le hr.2.2.1
    by_cases h0 : a = 0
    · subst h0
      have := (linkP_zero b).1 h
      obtain rfl : b = 1 := by omega
      rfl
    · by_cases h1 : a = 1
      · subst h1
        have := (linkP_one b).1 h
        obtain rfl : b = 0 := by omega
        rfl
      · have hm := (linkP_more (by omega) (by omega)).1 h
        rw [if_neg (by omega)]
        unfold spec_l10Back.f
        have e := spec_l10Back_l0 60 1 a b (by omega) (by omega) (by omega) (by omega) (by omega) k (by omega)
        rw [show ((1 : Nat) : Int) = 1 from rfl] at e
        rw [e]; simp only [Option.bind_some]
        have := back_least_at (a := a) (b := b) (by omega) (by omega) (by omega) (by omega) (by have := hm.2.2; simpa [Int.gcd] using this)
        unfold leastv
        rw [show (((a : Nat) : Int)).toNat = a from rfl, show (((b : Nat) : Int)).toNat = b from rfl, ← this]
        congr 3
        unfold mn; split <;> omega
  · rw [if_neg h, if_neg h]

-- linksof
/-- A number left whose link is the least of the same. -/
def LstP (a : Int) (x : Nat) : Prop := LinkP a (x : Int) ∧ leastv a (x : Int) = (x : Int)
instance (a : Int) (x : Nat) : Decidable (LstP a x) := by unfold LstP; infer_instance
def linkq (a : Int) (i n : Nat) : List S24 := ((List.range' i n).filter (fun x => decide (LstP a x))).map (fun x : Nat => (⟨a, (x : Int)⟩ : S24))
theorem linkq_length (a : Int) (i n : Nat) : (linkq a i n).length ≤ n := by
  unfold linkq
  rw [List.length_map]
  have := List.length_filter_le (fun x => decide (LstP a x)) (List.range' i n)
  rw [List.length_range'] at this
  exact this
theorem linkq_yes {a : Int} {i n : Nat} (h : LstP a i) : linkq a i (n + 1) = ⟨a, (i : Int)⟩ :: linkq a (i + 1) n := by
  unfold linkq; rw [List.range'_succ, List.filter_cons_of_pos (by simpa using h), List.map_cons]
theorem linkq_no {a : Int} {i n : Nat} (h : ¬ LstP a i) : linkq a i (n + 1) = linkq a (i + 1) n := by
  unfold linkq; rw [List.range'_succ, List.filter_cons_of_neg (by simpa using h)]
theorem impl_LinksOf_l0 (a : Int) (ha : 0 ≤ a ∧ a ≤ 60) (n : Nat) : ∀ (acc : List S24) (i : Nat), (i : Int) + n = a + 2 → acc.length ≤ i → ∀ k, n + 1000 < k → impl_LinksOf.l0 k a acc (a + 2) (i : Int) = some (acc ++ linkq a i n) := by
  induction n with
  | zero =>
    intro acc i hi hl k hk
    obtain ⟨k, rfl⟩ : ∃ m, k = m + 1 := ⟨k - 1, by omega⟩
    simp only [impl_LinksOf.l0]
    rw [if_neg (by omega)]; simp [linkq]
  | succ n ih =>
    intro acc i hi hl k hk
    obtain ⟨k, rfl⟩ : ∃ m, k = m + 1 := ⟨k - 1, by omega⟩
    simp only [impl_LinksOf.l0]
    rw [if_pos (by omega), impl_isLink_f _ _ (by omega), wrap64_in (by omega) (by omega), show ((i : Int) + 1) = ((i + 1 : Nat) : Int) by omega]; simp only [Option.bind_some, decide_eq_true_eq]
    by_cases h : LinkP a (i : Int)
    · rw [if_pos h, impl_least_f h (by omega)]; simp only [Option.bind_some]
      by_cases h' : leastv a (i : Int) = (i : Int)
      · rw [if_pos (by simpa using h'), if_pos (by omega), ih _ (i + 1) (by omega) (by rw [List.length_append]; simp; omega) k (by omega), linkq_yes ⟨h, h'⟩]; simp
      · rw [if_neg (by simpa using h'), ih _ (i + 1) (by omega) (by omega) k (by omega), linkq_no (fun x => h' x.2)]
    · rw [if_neg h, ih _ (i + 1) (by omega) (by omega) k (by omega), linkq_no (fun x => h x.1)]
theorem spec_LinksOf_l0 (a : Int) (ha : 0 ≤ a ∧ a ≤ 60) (n : Nat) : ∀ (acc : List S24) (i : Nat), (i : Int) + n = a + 2 → acc.length ≤ i → ∀ k, n + 1000 < k → spec_LinksOf.l0 k a acc (i : Int) = some (acc ++ linkq a i n) := by
  induction n with
  | zero =>
    intro acc i hi hl k hk
    obtain ⟨k, rfl⟩ : ∃ m, k = m + 1 := ⟨k - 1, by omega⟩
    simp only [spec_LinksOf.l0]
    rw [wrap64_in (by omega) (by omega), if_neg (by omega)]; simp [linkq]
  | succ n ih =>
    intro acc i hi hl k hk
    obtain ⟨k, rfl⟩ : ∃ m, k = m + 1 := ⟨k - 1, by omega⟩
    simp only [spec_LinksOf.l0]
    rw [wrap64_in (n := a + 1) (by omega) (by omega), if_pos (by omega), spec_LeastOf_f _ _ (by omega), wrap64_in (by omega) (by omega), show ((i : Int) + 1) = ((i + 1 : Nat) : Int) by omega]; simp only [Option.bind_some]
    unfold leastofv
    by_cases h : LinkP a (i : Int)
    · rw [if_pos h]; simp only
      rw [if_pos trivial]
      by_cases h' : leastv a (i : Int) = (i : Int)
      · rw [if_pos (by simpa using h'), if_pos (by omega), ih _ (i + 1) (by omega) (by rw [List.length_append]; simp; omega) k (by omega), linkq_yes ⟨h, h'⟩]; simp
      · rw [if_neg (by simpa using h'), ih _ (i + 1) (by omega) (by omega) k (by omega), linkq_no (fun x => h' x.2)]
    · rw [if_neg h]; simp only
      rw [if_neg (by decide), ih _ (i + 1) (by omega) (by omega) k (by omega), linkq_no (fun x => h x.1)]
/-- What LinksOf answers. -/
def linksv (a : Int) : List S24 := if 0 ≤ a ∧ a ≤ 60 then linkq a 0 (a.toNat + 2) else []
theorem linksv_length (a : Int) : (linksv a).length ≤ 62 := by
  unfold linksv
  split
  · have := linkq_length a 0 (a.toNat + 2); omega
  · simp
theorem impl_LinksOf_f (a : Int) {k : Nat} (hk : 2000 ≤ k) : impl_LinksOf.f k a = some (linksv a) := by
  obtain ⟨k, rfl⟩ : ∃ m, k = m + 1 := ⟨k - 1, by omega⟩
  unfold impl_LinksOf.f linksv
  by_cases h : a < 0
  · rw [if_pos h, if_neg (by omega)]; simp only [impl_LinksOf.j0]; rw [if_pos trivial]
  · rw [if_neg h]; simp only [impl_LinksOf.j0, decide_eq_true_eq]
    by_cases h' : a > 60
    · rw [if_pos h', if_neg (by omega)]
    · rw [if_neg h', if_pos (by omega), wrap64_in (by omega) (by omega)]
      exact impl_LinksOf_l0 a (by omega) (a.toNat + 2) [] 0 (by omega) (by simp) k (by omega)
theorem spec_LinksOf_f (a : Int) {k : Nat} (hk : 2000 ≤ k) : spec_LinksOf.f k a = some (linksv a) := by
  unfold spec_LinksOf.f linksv
  rw [spec_l1In_f]; simp only [Option.bind_some, decide_eq_true_eq]
  by_cases h : 0 ≤ a ∧ a ≤ 60
  · rw [if_pos h, if_pos h]
    exact spec_LinksOf_l0 a h (a.toNat + 2) [] 0 (by omega) (by simp) k (by omega)
  · rw [if_neg h, if_neg h]

-- eqLink
theorem eqLink_f (a b c d : Int) : laws_eqLink.f a b c d = some (decide (a = c ∧ b = d)) := by
  unfold laws_eqLink.f
  by_cases h : a = c
  · rw [if_pos h]
    by_cases h' : b = d
    · rw [if_pos h', decide_eq_true ⟨h, h'⟩]
    · rw [if_neg h', decide_eq_false (fun x => h' x.2)]
  · rw [if_neg h, decide_eq_false (fun x => h x.1)]

-- linksS
theorem eqLinkS_l0 (l : List S24) (hl : l.length ≤ 1000000000) (n : Nat) : ∀ (i : Nat), i + n = l.length → ∀ k, n < k → laws_eqLinkS.l0 k l l (i : Int) = some true := by
  induction n with
  | zero =>
    intro i hi k hk
    obtain ⟨k, rfl⟩ : ∃ m, k = m + 1 := ⟨k - 1, by omega⟩
    simp only [laws_eqLinkS.l0]
    rw [if_neg (by omega)]
  | succ n ih =>
    intro i hi k hk
    obtain ⟨k, rfl⟩ : ∃ m, k = m + 1 := ⟨k - 1, by omega⟩
    simp only [laws_eqLinkS.l0, eqLink_f, Option.bind_some]
    rw [if_pos (by omega), if_pos (by omega), if_pos (by omega), if_pos (by simp), wrap64_in (by omega) (by omega)]
    exact ih (i + 1) (by omega) k (by omega)
theorem eqLinkS_f (l : List S24) {k : Nat} (hl : l.length ≤ 1000000000) (hk : l.length < k) : laws_eqLinkS.f k l l = some true := by
  unfold laws_eqLinkS.f
  rw [if_pos rfl]
  exact eqLinkS_l0 l hl _ 0 (Nat.zero_add _) k hk
theorem rdL_set (l : List S24) (i j : Nat) (v : S24) (hi : i < l.length) : rd_T24 (l.set i v) (j : Int) = if i = j then v else rd_T24 l (j : Int) := by
  unfold rd_T24
  simp only [Int.toNat_natCast]
  by_cases h : i = j
  · subst h; simp [hi]
  · simp [h]
theorem markLinkS_l0 (n : Nat) : ∀ (l : List S24) (m : Int) (i : Nat), l.length ≤ 1000000000 → i + n = l.length → 0 ≤ m → m + 2 * n ≤ 4000000000 → ∀ k, n < k →
    ∃ l', laws_markLinkS.l0 k l m (i : Int) = some (m + 2 * n, l') ∧ l'.length = l.length ∧ (∀ j : Nat, j < i → rd_T24 l' (j : Int) = rd_T24 l (j : Int)) ∧ (∀ j : Nat, i ≤ j → j < l.length → rd_T24 l' (j : Int) = ⟨m + 2 * ((j - i : Nat) : Int), m + 2 * ((j - i : Nat) : Int) + 1⟩) := by
  induction n with
  | zero =>
    intro l m i hl hi hm hm' k hk
    obtain ⟨k, rfl⟩ : ∃ m, k = m + 1 := ⟨k - 1, by omega⟩
    simp only [laws_markLinkS.l0]
    rw [if_neg (by omega)]
    exact ⟨l, by simp, rfl, fun _ _ => rfl, fun j h1 h2 => by omega⟩
  | succ n ih =>
    intro l m i hl hi hm hm' k hk
    obtain ⟨k, rfl⟩ : ∃ m, k = m + 1 := ⟨k - 1, by omega⟩
    simp only [laws_markLinkS.l0, Option.bind_some, Int.toNat_natCast]
    rw [if_pos (by omega), if_pos (by omega), wrap64_in (n := m + 1) (by omega) (by omega), wrap64_in (n := m + 1 + 1) (by omega) (by omega), wrap64_in (n := (i : Int) + 1) (by omega) (by omega)]
    generalize hv : (⟨(rd_T24 (l.set i ⟨m, (rd_T24 l (i : Int)).f1⟩) (i : Int)).f0, m + 1⟩ : S24) = v
    have hv' : v = ⟨m, m + 1⟩ := by rw [← hv, rdL_set _ _ _ _ (by omega), if_pos rfl]
    rw [List.set_set, hv']
    obtain ⟨l', h1, h2, h3, h4⟩ := ih (l.set i ⟨m, m + 1⟩) (m + 1 + 1) (i + 1) (by simp; omega) (by simp; omega) (by omega) (by omega) k (by omega)
    simp only [List.length_set] at h2 h4
    refine ⟨l', by rw [show ((i : Int) + 1) = ((i + 1 : Nat) : Int) by omega, h1]; congr 2; omega, h2, ?_, ?_⟩
    · intro j hj
      rw [h3 j (by omega), rdL_set _ _ _ _ (by omega), if_neg (by omega)]
    · intro j hj hj'
      by_cases h : j = i
      · subst h
        rw [h3 j (by omega), rdL_set _ _ _ _ (by omega), if_pos rfl]; simp
      · rw [h4 j (by omega) hj']
        congr 1 <;> omega
theorem heldLinkS_l0 (n : Nat) : ∀ (l : List S24) (m : Int) (i : Nat), l.length ≤ 1000000000 → i + n = l.length → 0 ≤ m → m + 2 * n ≤ 4000000000 → (∀ j : Nat, i ≤ j → j < l.length → rd_T24 l (j : Int) = ⟨m + 2 * ((j - i : Nat) : Int), m + 2 * ((j - i : Nat) : Int) + 1⟩) → ∀ k, n < k →
    laws_heldLinkS.l0 k l m (i : Int) = some (m + 2 * n) := by
  induction n with
  | zero =>
    intro l m i hl hi hm hm' hr k hk
    obtain ⟨k, rfl⟩ : ∃ m, k = m + 1 := ⟨k - 1, by omega⟩
    simp only [laws_heldLinkS.l0]
    rw [if_neg (by omega)]; simp
  | succ n ih =>
    intro l m i hl hi hm hm' hr k hk
    obtain ⟨k, rfl⟩ : ∃ m, k = m + 1 := ⟨k - 1, by omega⟩
    simp only [laws_heldLinkS.l0]
    rw [if_pos (by omega), if_pos (by omega), hr i (by omega) (by omega), if_pos (by simp), wrap64_in (n := m + 1) (by omega) (by omega), if_pos (by simp), wrap64_in (by omega) (by omega), wrap64_in (by omega) (by omega)]
    rw [show ((i : Int) + 1) = ((i + 1 : Nat) : Int) by omega, ih l (m + 1 + 1) (i + 1) hl (by omega) (by omega) (by omega) (fun j h1 h2 => by rw [hr j (by omega) h2]; congr 1 <;> omega) k (by omega)]
    congr 1; omega
theorem marksLink {l : List S24} {k : Nat} (hl : l.length ≤ 1000000000) (hk : 1000000001 ≤ k) :
    ∃ l', laws_markLinkS.f k l 1 = some (1 + 2 * (l.length : Int), l') ∧ laws_heldLinkS.f k l' 1 = some (1 + 2 * (l.length : Int)) := by
  unfold laws_markLinkS.f
  obtain ⟨l', h1, h2, _, h4⟩ := markLinkS_l0 l.length l 1 0 hl (Nat.zero_add _) (by omega) (by omega) k (by omega)
  refine ⟨l', h1, ?_⟩
  unfold laws_heldLinkS.f
  have := heldLinkS_l0 l'.length l' 1 0 (by omega) (Nat.zero_add _) (by omega) (by omega) (fun j a b => h4 j a (by omega)) k (by omega)
  rw [h2] at this
  exact this

theorem FnExactLinksOf : laws_FnExactLinksOf.Pure := by
  intro a _
  obtain ⟨k, hk⟩ : ∃ k : Nat, 2000000000 ≤ k := ⟨_, Nat.le_refl _⟩
  refine ⟨k, ?_⟩
  have hl := linksv_length a
  obtain ⟨l', h1, h2⟩ := marksLink (l := linksv a) (k := k) (by omega) (by omega)
  unfold laws_FnExactLinksOf.f
  simp only [Option.bind_some, spec_LinksOf_f a (show 2000 ≤ k by omega), impl_LinksOf_f a (show 2000 ≤ k by omega), eqLinkS_f (linksv a) (show (linksv a).length ≤ 1000000000 by omega) (show (linksv a).length < k by omega), h1, h2]
  have : ¬ (1 + 2 * ((linksv a).length : Int) < 0) := by omega
  simp [this]

end Go.Proofs.Ytmcdhajepkamjaa.Pure
