/- FnLinksOf: the links are the reference's; each link of the number above is the same as just one of them; and twice as many are as many as numbers apart from it and those whose square leaves 1; at every draw. -/
import Derived.Test.YtmcdhajepkamjaaPFnLinksOfx0
import Derived.Test.YtmcdhajepkamjaaPFnLinksOfx1
import Derived.Test.YtmcdhajepkamjaaPFnLinksOfx2
import Derived.Test.YtmcdhajepkamjaaPFnLinksOfx3
import Derived.Test.YtmcdhajepkamjaaPFnLinksOfx4
import Derived.Test.YtmcdhajepkamjaaPFnLinksOfx5
import Derived.Test.YtmcdhajepkamjaaPFnLinksOfx6
set_option linter.unusedVariables false
set_option linter.unusedSimpArgs false
namespace Go.Proofs.Ytmcdhajepkamjaa.Pure
open Go.RowKit Go.Proofs.Ytmcdhajepkamjaa.PFnLinksOf Go.Proofs.YtmcdhajepkamjaaW.PrintWords Go.Proofs.YtmcdhajepkamjaaW.PrintLast Go.Proofs.YtmcdhajepkamjaaW.PrintMore

-- base
theorem wrap64_in {n : Int} (h : -9223372036854775808 ≤ n) (h' : n ≤ 9223372036854775807) : wrap64 n = n := by unfold wrap64; omega
theorem i64_of_wf {n : Int} (h : (Lit.int .i64 n).wf = true) : -9223372036854775808 ≤ n ∧ n ≤ 9223372036854775807 := by
  simpa [Lit.wf, IntKind.min, IntKind.max, IntKind.signed, IntKind.bits] using h
theorem bigk : ∃ k : Nat, 1000000000 ≤ k := ⟨1000000000, Nat.le_refl _⟩
theorem dec_true {p : Prop} [Decidable p] (h : p) : some (decide p) = some true := by simp [h]
theorem dec_false {p : Prop} [Decidable p] (h : ¬ p) : some (decide p) = some false := by simp [h]
theorem dec_iff {p q : Prop} [Decidable p] [Decidable q] (h : p ↔ q) : some (decide p) = some (decide q) := by simp [h]
theorem ite_to {c : Prop} [Decidable c] {α : Type} {x y z : α} (h1 : c → x = z) (h2 : ¬ c → y = z) : (if c then x else y) = z := by
  by_cases h : c
  · rw [if_pos h]; exact h1 h
  · rw [if_neg h]; exact h2 h

-- gcdmath
theorem natAbs_tmod_lt (a : Int) {b : Int} (h : b ≠ 0) : (Int.tmod a b).natAbs < b.natAbs := by
  rw [Int.natAbs_tmod]
  exact Nat.mod_lt _ (by omega)
theorem gcd_tmod (a b : Int) : Int.gcd b (Int.tmod a b) = Int.gcd a b := by
  unfold Int.gcd
  rw [Int.natAbs_tmod, Nat.gcd_comm a.natAbs, Nat.gcd_rec b.natAbs a.natAbs, Nat.gcd_comm]
theorem mx_abs {a : Int} (h : -9223372036854775808 < a) (h' : a ≤ 9223372036854775807) : mx a (wrap64 (-a)) = (a.natAbs : Int) := by
  rw [wrap64_in (by omega) (by omega)]; unfold mx; split <;> omega

-- draw
/-- The bytes that a draw reads. -/
def RdOk (s : List Int) : Prop := s.length ≤ 2000 ∧ ∀ x ∈ s, 0 ≤ x ∧ x ≤ 255
theorem rd_bd {s : List Int} (h : RdOk s) (i : Int) : 0 ≤ rd s i ∧ rd s i ≤ 255 := by
  unfold rd
  by_cases hi : i.toNat < s.length
  · have e : s.getD i.toNat 0 = s[i.toNat] := by simp [hi]
    rw [e]; exact h.2 _ (List.getElem_mem hi)
  · have e : s.getD i.toNat 0 = 0 := by simp; rw [List.getElem?_eq_none (by omega)]; rfl
    rw [e]; omega
theorem xor_nonneg {x y : Int} (hx : 0 ≤ x) (hx' : x < 4611686018427387904) (hy : 0 ≤ y) (hy' : y < 4611686018427387904) : 0 ≤ Go.bits .xor .i64 x y := by
  unfold Go.bits
  simp only
  obtain ⟨a, rfl⟩ := Int.eq_ofNat_of_zero_le hx
  obtain ⟨b, rfl⟩ := Int.eq_ofNat_of_zero_le hy
  have h64 : IntKind.i64.bits = 64 := rfl
  rw [BitVec.toNat_xor]
  have ea : (BitVec.ofInt IntKind.i64.bits (a : Int)).toNat = a := by
    rw [BitVec.toNat_ofInt, h64]; omega
  have eb : (BitVec.ofInt IntKind.i64.bits (b : Int)).toNat = b := by
    rw [BitVec.toNat_ofInt, h64]; omega
  rw [ea, eb]
  have hl : a ^^^ b < 2 ^ 62 := Nat.xor_lt_two_pow (by omega) (by omega)
  generalize a ^^^ b = c at *
  have : IntKind.i64.wrap (c : Int) = wrap64 (c : Int) := by
    simp [IntKind.wrap, wrap64, IntKind.signed, IntKind.bits]
    try omega
  rw [this, wrap64_in (by omega) (by omega)]
  omega
theorem tmod_range {x n : Int} (hx : 0 ≤ x) (hn : 1 ≤ n) : 0 ≤ Int.tmod x n ∧ Int.tmod x n < n := by
  rw [Int.tmod_eq_emod_of_nonneg hx]
  exact ⟨Int.emod_nonneg _ (by omega), Int.emod_lt_of_pos _ (by omega)⟩
theorem pick_f {s : List Int} {p : Int} (n : Int) {k : Nat} (hs : RdOk s) (hp : 0 ≤ p) (hp' : p ≤ 1000000) (hk : 1 ≤ k) :
    ∃ v, spec_l20Rd_pick.f k s p n = some (v, p + 1) ∧ 0 ≤ v ∧ (1 ≤ n → v < n) ∧ (n < 1 → v = 0) := by
  obtain ⟨k, rfl⟩ : ∃ m, k = m + 1 := ⟨k - 1, by omega⟩
  unfold spec_l20Rd_pick.f
  rw [wrap64_in (n := p + 1) (by omega) (by omega)]
  by_cases hn : n < 1
  · rw [if_pos hn]; simp only [spec_l20Rd_pick.j0]; rw [if_pos trivial]
    exact ⟨0, rfl, by omega, by omega, fun _ => rfl⟩
  · rw [if_neg hn]
    by_cases hl : (s.length : Int) = 0
    · rw [show ((s.length : Int) == 0) = true by simpa using hl]; simp only [spec_l20Rd_pick.j0]; rw [if_pos trivial]
      exact ⟨0, rfl, by omega, by omega, fun _ => rfl⟩
    · rw [show ((s.length : Int) == 0) = false by simpa using hl]; simp only [spec_l20Rd_pick.j0]; rw [if_neg (by decide)]
      have hlen := hs.1
      rw [show p + 1 - 1 = p by omega, wrap64_in (n := p) (by omega) (by omega)]
      by_cases h1 : p < (s.length : Int)
      · have hb := rd_bd hs p
        rw [if_pos h1, if_pos hp, if_neg (by omega), wrap64_in (by omega) (by omega)]
        have ht := tmod_range (n := n) hb.1 (by omega)
        exact ⟨_, rfl, ht.1, fun _ => ht.2, fun x => absurd x hn⟩
      · have t1 := tmod_range (x := p) (n := (s.length : Int)) hp (by omega)
        have t2 := tmod_range (x := p * 7 + 3) (n := (s.length : Int)) (by omega) (by omega)
        rw [if_neg h1, if_neg hl, if_pos t1.1, if_pos t1.2, wrap64_in (n := p * 7) (by omega) (by omega), wrap64_in (n := p * 7 + 3) (by omega) (by omega), if_pos t2.1, if_pos t2.2, if_neg (by omega)]
        have b1 := rd_bd hs (Int.tmod p (s.length : Int))
        have b2 := rd_bd hs (Int.tmod (p * 7 + 3) (s.length : Int))
        generalize rd s (Int.tmod p (s.length : Int)) = r1 at *
        generalize rd s (Int.tmod (p * 7 + 3) (s.length : Int)) = r2 at *
        have q1 : 0 ≤ Int.tdiv p (s.length : Int) ∧ Int.tdiv p (s.length : Int) ≤ p := by
          obtain ⟨a, rfl⟩ := Int.eq_ofNat_of_zero_le hp
          rw [Int.tdiv_eq_ediv_of_nonneg (by omega), ← Int.natCast_ediv]
          have := Nat.div_le_self a s.length
          exact ⟨Int.natCast_nonneg _, by exact_mod_cast this⟩
        generalize Int.tdiv p (s.length : Int) = q at *
        rw [wrap64_in (n := r1) (by omega) (by omega), wrap64_in (n := r1 * 131) (by omega) (by omega), wrap64_in (n := r2) (by omega) (by omega), wrap64_in (n := r2 * 1117) (by omega) (by omega), wrap64_in (n := r1 * 131 + r2 * 1117) (by omega) (by omega), wrap64_in (n := p * 29) (by omega) (by omega), wrap64_in (n := q) (by omega) (by omega), wrap64_in (n := q * 53) (by omega) (by omega), wrap64_in (n := r1 * 131 + r2 * 1117 + p * 29) (by omega) (by omega), wrap64_in (n := r1 * 131 + r2 * 1117 + p * 29 + q * 53) (by omega) (by omega)]
        generalize hX : r1 * 131 + r2 * 1117 + p * 29 + q * 53 = X
        have hX0 : 0 ≤ X := by omega
        have hX1 : X ≤ 1000000000 := by omega
        have d1 : 0 ≤ Int.tdiv X 64 ∧ Int.tdiv X 64 ≤ X := by
          rw [Int.tdiv_eq_ediv_of_nonneg hX0]; omega
        rw [wrap64_in (n := Int.tdiv X 64) (by omega) (by omega)]
        have hx := xor_nonneg (x := X) (y := Int.tdiv X 64) hX0 (by omega) d1.1 (by omega)
        have ht := tmod_range (n := n) hx (by omega)
        exact ⟨_, rfl, ht.1, fun _ => ht.2, fun x => absurd x hn⟩

-- open
theorem u8_of_wf {n : Int} (h : (Lit.int .u8 n).wf = true) : 0 ≤ n ∧ n ≤ 255 := by
  simpa [Lit.wf, IntKind.min, IntKind.max, IntKind.signed, IntKind.bits] using h
theorem open_f {l : List Int} (h : ∀ x ∈ l, (Lit.int .u8 x).wf = true) : ∃ s, spec_l20Open.f l = some (s, 0) ∧ RdOk s := by
  unfold spec_l20Open.f
  by_cases hl : (l.length : Int) > 2000
  · rw [if_pos hl, if_pos (by omega)]
    exact ⟨_, rfl, by rw [List.length_take]; omega, fun x hx => u8_of_wf (h x (List.mem_of_mem_take hx))⟩
  · rw [if_neg hl]
    exact ⟨_, rfl, by omega, fun x hx => u8_of_wf (h x hx)⟩

-- link
/-- A link as LinkOk tells it. -/
def LinkP (a b : Int) : Prop := (a = 0 ∧ b = 1) ∨ (a = 1 ∧ b = 0) ∨ ((2 ≤ a ∧ a ≤ 60) ∧ (1 ≤ b ∧ b < a) ∧ Int.gcd a b = 1)
instance (a b : Int) : Decidable (LinkP a b) := by unfold LinkP; infer_instance
theorem linkP_zero (b : Int) : LinkP 0 b ↔ b = 1 := by unfold LinkP; omega
theorem linkP_one (b : Int) : LinkP 1 b ↔ b = 0 := by unfold LinkP; omega
theorem linkP_more {a b : Int} (h : a ≠ 0) (h' : a ≠ 1) : LinkP a b ↔ ((2 ≤ a ∧ a ≤ 60) ∧ (1 ≤ b ∧ b < a) ∧ Int.gcd a b = 1) := by
  unfold LinkP; constructor
  · rintro (x | x | x)
    · exact absurd x.1 h
    · exact absurd x.1 h'
    · exact x
  · exact fun x => .inr (.inr x)
theorem linkP_range {a b : Int} (h : LinkP a b) : 0 ≤ a ∧ a ≤ 60 ∧ 0 ≤ b ∧ b ≤ 59 := by
  unfold LinkP at h; omega
theorem gcd_beq (a b : Int) : (((Int.gcd a b : Nat) : Int) == 1) = decide (Int.gcd a b = 1) := by
  rw [Bool.eq_iff_iff]; simp; omega

-- leastmath
/-- The program's search for a lesser number left: from x on. -/
def scan : Nat → Nat → Nat → Nat → Nat
  | 0, _, _, b => b
  | n + 1, x, a, b => if x < b then (if x * b % a = 1 then x else scan n (x + 1) a b) else b
/-- The reference's search for the number that multiplied leaves 1. -/
def backn : Nat → Nat → Nat → Nat → Nat
  | 0, _, _, _ => 0
  | n + 1, x, l, a => if x < a then (if x * l % a = 1 then x else backn n (x + 1) l a) else 0
def leastn (a b : Nat) : Nat := scan 60 1 a b
def leastv (a b : Int) : Int := (leastn a.toNat b.toNat : Nat)
theorem tmod_cast (m n : Nat) : Int.tmod (m : Int) (n : Int) = ((m % n : Nat) : Int) := by
  rw [Int.tmod_eq_emod_of_nonneg (by omega)]; omega
theorem back_least : ((List.range 61).all fun a => (List.range 61).all fun b => !(decide (2 ≤ a) && decide (1 ≤ b) && decide (b < a) && decide (Nat.gcd a b = 1)) || decide (min b (backn 60 1 b a) = leastn a b)) = true := by decide +kernel
theorem back_least_at {a b : Nat} (h1 : 2 ≤ a) (h2 : a ≤ 60) (h3 : 1 ≤ b) (h4 : b < a) (h5 : Nat.gcd a b = 1) : min b (backn 60 1 b a) = leastn a b := by
  have h := back_least
  rw [List.all_eq_true] at h
  have h := h a (List.mem_range.2 (by omega))
  rw [List.all_eq_true] at h
  have h := h b (List.mem_range.2 (by omega))
  simpa [h1, h3, h4, h5] using h
/-- What LeastOf answers. -/
def leastofv (a b : Int) : Int × Int × Bool := if LinkP a b then (a, leastv a b, true) else (0, 0, false)

-- impl_least
theorem impl_least_l0 (n : Nat) : ∀ (x a b : Nat), 0 < a → b ≤ x + n → x ≤ 100 → a ≤ 100 → b ≤ 100 → ∀ k, n + 1 < k → impl_least.l0 k (x : Int) (a : Int) (b : Int) = some ((a : Int), ((scan n x a b : Nat) : Int)) := by
  induction n with
  | zero =>
    intro x a b ha hb hx _ _ k hk
    obtain ⟨k, rfl⟩ : ∃ m, k = m + 1 := ⟨k - 1, by omega⟩
    simp only [impl_least.l0]
    rw [if_neg (by omega)]; rfl
  | succ n ih =>
    intro x a b ha hb hx ha' hb' k hk
    obtain ⟨k, rfl⟩ : ∃ m, k = m + 1 := ⟨k - 1, by omega⟩
    simp only [impl_least.l0, scan]
    by_cases h : x < b
    · have hm : x * b ≤ 100 * 100 := Nat.mul_le_mul hx hb'
      rw [if_pos (by omega), if_neg (by omega), if_pos h, ← Int.natCast_mul, wrap64_in (n := ((x * b : Nat) : Int)) (by omega) (by omega), tmod_cast]
      by_cases h1 : x * b % a = 1
      · rw [if_pos (by omega), if_pos h1, wrap64_in (by omega) (by omega)]
        obtain ⟨k, rfl⟩ : ∃ m, k = m + 1 := ⟨k - 1, by omega⟩
        simp only [impl_least.l0]
        rw [if_neg (by omega)]
      · rw [if_neg (by omega), if_neg h1, wrap64_in (by omega) (by omega)]
        have := ih (x + 1) a b ha (by omega) (by omega) ha' hb' k (by omega)
        rw [← this]; rfl
    · rw [if_neg (by omega), if_neg h]
theorem impl_least_f {a b : Int} {k : Nat} (h : LinkP a b) (hk : 1000 ≤ k) : impl_least.f k a b = some (a, leastv a b) := by
  have hr := linkP_range h
  unfold impl_least.f leastv leastn
  obtain ⟨a, rfl⟩ := Int.eq_ofNat_of_zero_le hr.1
  obtain ⟨b, rfl⟩ := Int.eq_ofNat_of_zero_le hr.2.2.1
  by_cases ha : a = 0
  · subst ha
    have := (linkP_zero b).1 h
    obtain rfl : b = 1 := by omega
    obtain ⟨k, rfl⟩ : ∃ m, k = m + 1 := ⟨k - 1, by omega⟩
    simp only [impl_least.l0]
    rw [if_neg (by omega)]; rfl
  · exact impl_least_l0 60 1 a b (by omega) (by omega) (by omega) (by omega) (by omega) k (by omega)

-- impl_gcd
theorem impl_gcd_l0 (n : Nat) : ∀ (a b : Int), b.natAbs ≤ n → a.natAbs ≤ 9223372036854775807 → b.natAbs ≤ 9223372036854775807 → ∀ k, n < k → impl_gcd.l0 k a b = some (Int.gcd a b : Int) := by
  induction n with
  | zero =>
    intro a b hb ha _ k hk
    obtain ⟨k, rfl⟩ : ∃ m, k = m + 1 := ⟨k - 1, by omega⟩
    obtain rfl : b = 0 := by omega
    simp only [impl_gcd.l0]
    rw [if_pos trivial, mx_abs (by omega) (by omega), Int.gcd_zero_right]
  | succ n ih =>
    intro a b hb ha hb' k hk
    obtain ⟨k, rfl⟩ : ∃ m, k = m + 1 := ⟨k - 1, by omega⟩
    simp only [impl_gcd.l0]
    by_cases h : b = 0
    · subst h; rw [if_pos rfl, mx_abs (by omega) (by omega), Int.gcd_zero_right]
    · have := natAbs_tmod_lt a h
      rw [if_neg h, ih b (Int.tmod a b) (by omega) hb' (by omega) k (by omega), gcd_tmod]
theorem impl_gcd_f {a b : Int} {k : Nat} (ha : a.natAbs ≤ 9223372036854775807) (hb : b.natAbs ≤ 9223372036854775807) (hk : b.natAbs < k) : impl_gcd.f k a b = some (Int.gcd a b : Int) :=
  impl_gcd_l0 b.natAbs a b (Nat.le_refl _) ha hb k hk

-- impl_isLink
theorem impl_isLink_f (a b : Int) {k : Nat} (hk : 1000 ≤ k) : impl_isLink.f k a b = some (decide (LinkP a b)) := by
  obtain ⟨k, rfl⟩ : ∃ m, k = m + 1 := ⟨k - 1, by omega⟩
  unfold impl_isLink.f
  by_cases h0 : a < 0
  · rw [if_pos h0]; simp only [impl_isLink.j0]; rw [if_pos trivial]
    exact (dec_false (fun x => by have := linkP_range x; omega)).symm
  · rw [if_neg h0]; simp only [impl_isLink.j0, decide_eq_true_eq]
    by_cases h1 : a > 60
    · rw [if_pos h1]; exact (dec_false (fun x => by have := linkP_range x; omega)).symm
    · rw [if_neg h1]
      by_cases h2 : a = 0
      · rw [if_pos h2]; subst h2; exact dec_iff (linkP_zero b).symm
      · rw [if_neg h2]
        by_cases h3 : a = 1
        · rw [if_pos h3]; subst h3; exact dec_iff (linkP_one b).symm
        · rw [if_neg h3]
          by_cases h4 : b ≥ 1
          · rw [if_pos h4]
            by_cases h5 : b < a
            · rw [if_pos h5, impl_gcd_f (by omega) (by omega) (by omega)]; simp only [Option.bind_some, gcd_beq]
              exact dec_iff ⟨fun x => (linkP_more h2 h3).2 ⟨by omega, by omega, x⟩, fun x => ((linkP_more h2 h3).1 x).2.2⟩
            · rw [if_neg h5]; exact (dec_false (fun x => by have := (linkP_more h2 h3).1 x; omega)).symm
          · rw [if_neg h4]; exact (dec_false (fun x => by have := (linkP_more h2 h3).1 x; omega)).symm

-- spec_l1Common
theorem spec_l1Common_l0 (n : Nat) : ∀ (a b : Int), b.natAbs ≤ n → 0 ≤ a → 0 ≤ b → ∀ k, n < k → spec_l1Common.l0 k a b = some (Int.gcd a b : Int) := by
  induction n with
  | zero =>
    intro a b hb ha _ k hk
    obtain ⟨k, rfl⟩ : ∃ m, k = m + 1 := ⟨k - 1, by omega⟩
    obtain rfl : b = 0 := by omega
    simp only [spec_l1Common.l0]
    rw [if_neg (by omega), Int.gcd_zero_right]
    congr 1; omega
  | succ n ih =>
    intro a b hb ha hb' k hk
    obtain ⟨k, rfl⟩ : ∃ m, k = m + 1 := ⟨k - 1, by omega⟩
    simp only [spec_l1Common.l0]
    by_cases h : b = 0
    · subst h; rw [if_neg (by omega), Int.gcd_zero_right]; congr 1; omega
    · have := natAbs_tmod_lt a h
      rw [if_pos (by omega), if_neg h, ih b (Int.tmod a b) (by omega) hb' (Int.tmod_nonneg _ ha) k (by omega), gcd_tmod]
theorem spec_l1Common_f {a b : Int} {k : Nat} (ha : a.natAbs ≤ 9223372036854775807) (hb : b.natAbs ≤ 9223372036854775807) (hk : b.natAbs < k) : spec_l1Common.f k a b = some (Int.gcd a b : Int) := by
  unfold spec_l1Common.f
  rw [mx_abs (by omega) (by omega), mx_abs (by omega) (by omega), spec_l1Common_l0 b.natAbs _ _ (by omega) (by omega) (by omega) k hk]
  rfl

-- spec_l1In
theorem spec_l1In_f (a b c : Int) : spec_l1In.f a b c = some (decide (b ≤ a ∧ a ≤ c)) := by
  unfold spec_l1In.f
  by_cases h : b ≤ a
  · rw [if_pos h]; exact dec_iff ⟨fun x => ⟨h, x⟩, fun x => x.2⟩
  · rw [if_neg h]; exact (dec_false (fun x => h x.1)).symm

-- spec_LinkOk
theorem spec_LinkOk_f (a b : Int) {k : Nat} (hk : 1000 ≤ k) : spec_LinkOk.f k a b = some (decide (LinkP a b)) := by
  unfold spec_LinkOk.f
  by_cases h2 : a = 0
  · rw [if_pos h2]; subst h2; exact dec_iff (linkP_zero b).symm
  · rw [if_neg h2]
    by_cases h3 : a = 1
    · rw [if_pos h3]; subst h3; exact dec_iff (linkP_one b).symm
    · rw [if_neg h3, spec_l1In_f]; simp only [Option.bind_some, decide_eq_true_eq]
      by_cases h1 : 2 ≤ a ∧ a ≤ 60
      · rw [if_pos h1, spec_l1In_f, wrap64_in (by omega) (by omega)]; simp only [Option.bind_some, decide_eq_true_eq]
        by_cases h4 : 1 ≤ b ∧ b ≤ a - 1
        · rw [if_pos h4, spec_l1Common_f (by omega) (by omega) (by omega)]; simp only [Option.bind_some, gcd_beq]
          exact dec_iff ⟨fun x => (linkP_more h2 h3).2 ⟨h1, by omega, x⟩, fun x => ((linkP_more h2 h3).1 x).2.2⟩
        · rw [if_neg h4]; exact (dec_false (fun x => by have := (linkP_more h2 h3).1 x; omega)).symm
      · rw [if_neg h1]; exact (dec_false (fun x => h1 ((linkP_more h2 h3).1 x).1)).symm

-- spec_LeastOf
theorem spec_l10Back_l0 (n : Nat) : ∀ (x a b : Nat), 0 < a → a ≤ x + n → x ≤ 100 → a ≤ 100 → b ≤ 100 → ∀ k, n < k → spec_l10Back.l0 k (b : Int) (a : Int) (x : Int) = some ((backn n x b a : Nat) : Int) := by
  induction n with
  | zero =>
    intro x a b ha hb hx _ _ k hk
    obtain ⟨k, rfl⟩ : ∃ m, k = m + 1 := ⟨k - 1, by omega⟩
    simp only [spec_l10Back.l0]
    rw [if_neg (by omega)]; rfl
  | succ n ih =>
    intro x a b ha hb hx ha' hb' k hk
    obtain ⟨k, rfl⟩ : ∃ m, k = m + 1 := ⟨k - 1, by omega⟩
    simp only [spec_l10Back.l0, backn]
    by_cases h : x < a
    · have hm : x * b ≤ 100 * 100 := Nat.mul_le_mul hx hb'
      rw [if_pos (by omega), if_neg (by omega), if_pos h, ← Int.natCast_mul, wrap64_in (n := ((x * b : Nat) : Int)) (by omega) (by omega), tmod_cast]
      by_cases h1 : x * b % a = 1
      · rw [if_pos (by omega), if_pos h1]
      · rw [if_neg (by omega), if_neg h1, wrap64_in (by omega) (by omega)]
        have := ih (x + 1) a b ha (by omega) (by omega) ha' hb' k (by omega)
        rw [← this]; rfl
    · rw [if_neg (by omega), if_neg h]; rfl
theorem spec_LeastOf_f (a b : Int) {k : Nat} (hk : 1000 ≤ k) : spec_LeastOf.f k a b = some (leastofv a b) := by
  unfold spec_LeastOf.f
  rw [spec_LinkOk_f _ _ hk]; simp only [Option.bind_some, decide_eq_true_eq]
  unfold leastofv
  by_cases h : LinkP a b
  · rw [if_pos h, if_pos h]
    have hr := linkP_range h
    obtain ⟨a, rfl⟩ := Int.eq_ofNat_of_zero_le hr.1
    obtain ⟨b, rfl⟩ := Int.eq_ofNat_of_zero_le hr.2.2.1
    by_cases h0 : a = 0
    · subst h0
      have := (linkP_zero b).1 h
      obtain rfl : b = 1 := by omega
      rfl
    · by_cases h1 : a = 1
      · subst h1
        have := (linkP_one b).1 h
        obtain rfl : b = 0 := by omega
        rfl
      · have hm := (linkP_more (by omega) (by omega)).1 h
        rw [if_neg (by omega)]
        unfold spec_l10Back.f
        have e := spec_l10Back_l0 60 1 a b (by omega) (by omega) (by omega) (by omega) (by omega) k (by omega)
        rw [show ((1 : Nat) : Int) = 1 from rfl] at e
        rw [e]; simp only [Option.bind_some]
        have := back_least_at (a := a) (b := b) (by omega) (by omega) (by omega) (by omega) (by have := hm.2.2; simpa [Int.gcd] using this)
        unfold leastv
        rw [show (((a : Nat) : Int)).toNat = a from rfl, show (((b : Nat) : Int)).toNat = b from rfl, ← this]
        congr 3
        unfold mn; split <;> omega
  · rw [if_neg h, if_neg h]

-- linksof
/-- A number left whose link is the least of the same. -/
def LstP (a : Int) (x : Nat) : Prop := LinkP a (x : Int) ∧ leastv a (x : Int) = (x : Int)
instance (a : Int) (x : Nat) : Decidable (LstP a x) := by unfold LstP; infer_instance
def linkq (a : Int) (i n : Nat) : List S24 := ((List.range' i n).filter (fun x => decide (LstP a x))).map (fun x : Nat => (⟨a, (x : Int)⟩ : S24))
theorem linkq_length (a : Int) (i n : Nat) : (linkq a i n).length ≤ n := by
  unfold linkq
  rw [List.length_map]
  have := List.length_filter_le (fun x => decide (LstP a x)) (List.range' i n)
  rw [List.length_range'] at this
  exact this
theorem linkq_yes {a : Int} {i n : Nat} (h : LstP a i) : linkq a i (n + 1) = ⟨a, (i : Int)⟩ :: linkq a (i + 1) n := by
  unfold linkq; rw [List.range'_succ, List.filter_cons_of_pos (by simpa using h), List.map_cons]
theorem linkq_no {a : Int} {i n : Nat} (h : ¬ LstP a i) : linkq a i (n + 1) = linkq a (i + 1) n := by
  unfold linkq; rw [List.range'_succ, List.filter_cons_of_neg (by simpa using h)]
theorem impl_LinksOf_l0 (a : Int) (ha : 0 ≤ a ∧ a ≤ 60) (n : Nat) : ∀ (acc : List S24) (i : Nat), (i : Int) + n = a + 2 → acc.length ≤ i → ∀ k, n + 1000 < k → impl_LinksOf.l0 k a acc (a + 2) (i : Int) = some (acc ++ linkq a i n) := by
  induction n with
  | zero =>
    intro acc i hi hl k hk
    obtain ⟨k, rfl⟩ : ∃ m, k = m + 1 := ⟨k - 1, by omega⟩
    simp only [impl_LinksOf.l0]
    rw [if_neg (by omega)]; simp [linkq]
  | succ n ih =>
    intro acc i hi hl k hk
    obtain ⟨k, rfl⟩ : ∃ m, k = m + 1 := ⟨k - 1, by omega⟩
    simp only [impl_LinksOf.l0]
    rw [if_pos (by omega), impl_isLink_f _ _ (by omega), wrap64_in (by omega) (by omega), show ((i : Int) + 1) = ((i + 1 : Nat) : Int) by omega]; simp only [Option.bind_some, decide_eq_true_eq]
    by_cases h : LinkP a (i : Int)
    · rw [if_pos h, impl_least_f h (by omega)]; simp only [Option.bind_some]
      by_cases h' : leastv a (i : Int) = (i : Int)
      · rw [if_pos (by simpa using h'), if_pos (by omega), ih _ (i + 1) (by omega) (by rw [List.length_append]; simp; omega) k (by omega), linkq_yes ⟨h, h'⟩]; simp
      · rw [if_neg (by simpa using h'), ih _ (i + 1) (by omega) (by omega) k (by omega), linkq_no (fun x => h' x.2)]
    · rw [if_neg h, ih _ (i + 1) (by omega) (by omega) k (by omega), linkq_no (fun x => h x.1)]
theorem spec_LinksOf_l0 (a : Int) (ha : 0 ≤ a ∧ a ≤ 60) (n : Nat) : ∀ (acc : List S24) (i : Nat), (i : Int) + n = a + 2 → acc.length ≤ i → ∀ k, n + 1000 < k → spec_LinksOf.l0 k a acc (i : Int) = some (acc ++ linkq a i n) := by
  induction n with
  | zero =>
    intro acc i hi hl k hk
    obtain ⟨k, rfl⟩ : ∃ m, k = m + 1 := ⟨k - 1, by omega⟩
    simp only [spec_LinksOf.l0]
    rw [wrap64_in (by omega) (by omega), if_neg (by omega)]; simp [linkq]
  | succ n ih =>
    intro acc i hi hl k hk
    obtain ⟨k, rfl⟩ : ∃ m, k = m + 1 := ⟨k - 1, by omega⟩
    simp only [spec_LinksOf.l0]
    rw [wrap64_in (n := a + 1) (by omega) (by omega), if_pos (by omega), spec_LeastOf_f _ _ (by omega), wrap64_in (by omega) (by omega), show ((i : Int) + 1) = ((i + 1 : Nat) : Int) by omega]; simp only [Option.bind_some]
    unfold leastofv
    by_cases h : LinkP a (i : Int)
    · rw [if_pos h]; simp only
      rw [if_pos trivial]
      by_cases h' : leastv a (i : Int) = (i : Int)
      · rw [if_pos (by simpa using h'), if_pos (by omega), ih _ (i + 1) (by omega) (by rw [List.length_append]; simp; omega) k (by omega), linkq_yes ⟨h, h'⟩]; simp
      · rw [if_neg (by simpa using h'), ih _ (i + 1) (by omega) (by omega) k (by omega), linkq_no (fun x => h' x.2)]
    · rw [if_neg h]; simp only
      rw [if_neg (by decide), ih _ (i + 1) (by omega) (by omega) k (by omega), linkq_no (fun x => h x.1)]
/-- What LinksOf answers. -/
def linksv (a : Int) : List S24 := if 0 ≤ a ∧ a ≤ 60 then linkq a 0 (a.toNat + 2) else []
theorem linksv_length (a : Int) : (linksv a).length ≤ 62 := by
  unfold linksv
  split
  · have := linkq_length a 0 (a.toNat + 2); omega
  · simp
theorem impl_LinksOf_f (a : Int) {k : Nat} (hk : 2000 ≤ k) : impl_LinksOf.f k a = some (linksv a) := by
  obtain ⟨k, rfl⟩ : ∃ m, k = m + 1 := ⟨k - 1, by omega⟩
  unfold impl_LinksOf.f linksv
  by_cases h : a < 0
  · rw [if_pos h, if_neg (by omega)]; simp only [impl_LinksOf.j0]; rw [if_pos trivial]
  · rw [if_neg h]; simp only [impl_LinksOf.j0, decide_eq_true_eq]
    by_cases h' : a > 60
    · rw [if_pos h', if_neg (by omega)]
    · rw [if_neg h', if_pos (by omega), wrap64_in (by omega) (by omega)]
      exact impl_LinksOf_l0 a (by omega) (a.toNat + 2) [] 0 (by omega) (by simp) k (by omega)
theorem spec_LinksOf_f (a : Int) {k : Nat} (hk : 2000 ≤ k) : spec_LinksOf.f k a = some (linksv a) := by
  unfold spec_LinksOf.f linksv
  rw [spec_l1In_f]; simp only [Option.bind_some, decide_eq_true_eq]
  by_cases h : 0 ≤ a ∧ a ≤ 60
  · rw [if_pos h, if_pos h]
    exact spec_LinksOf_l0 a h (a.toNat + 2) [] 0 (by omega) (by simp) k (by omega)
  · rw [if_neg h, if_neg h]

-- samelink
/-- SameLink of two links. -/
def SameP (a b c d : Int) : Prop := LinkP a b ∧ LinkP c d ∧ a = c ∧ leastv a b = leastv c d
instance (a b c d : Int) : Decidable (SameP a b c d) := by unfold SameP; infer_instance
theorem beq_and (a b c d : Int) : (a == c && (b == d)) = decide (a = c ∧ b = d) := by
  rw [Bool.eq_iff_iff]; simp

-- impl_SameLink
theorem impl_SameLink_f (a b c d : Int) {k : Nat} (hk : 1000 ≤ k) : impl_SameLink.f k a b c d = some (decide (SameP a b c d)) := by
  unfold impl_SameLink.f
  rw [impl_isLink_f _ _ hk, impl_isLink_f _ _ hk]; simp only [Option.bind_some, decide_eq_true_eq]
  by_cases h : LinkP a b
  · rw [if_pos h]
    by_cases h' : LinkP c d
    · rw [if_pos h', impl_least_f h hk, impl_least_f h' hk]; simp only [Option.bind_some, beq_and]
      exact dec_iff ⟨fun x => ⟨h, h', x⟩, fun x => x.2.2⟩
    · rw [if_neg h']; exact (dec_false (fun x => h' x.2.1)).symm
  · rw [if_neg h]; exact (dec_false (fun x => h x.1)).symm

-- impl_isPart
theorem impl_isPart_f (a : Int) : impl_isPart.f a = some (decide (-1000000 ≤ a ∧ a ≤ 1000000)) := by
  unfold impl_isPart.f
  by_cases h : -1000000 ≤ a
  · rw [if_pos h]; exact dec_iff ⟨fun x => ⟨h, x⟩, fun x => x.2⟩
  · rw [if_neg h]; exact (dec_false (fun x => h x.1)).symm

-- frac
/-- A fraction in lowest terms, as FractionOk tells it. -/
def Frac (a b : Int) : Prop := (-1000000 ≤ a ∧ a ≤ 1000000) ∧ (0 ≤ b ∧ b ≤ 1000000) ∧ Int.gcd a b = 1 ∧ (b = 0 → a = 1)
instance (a b : Int) : Decidable (Frac a b) := by unfold Frac; infer_instance

-- impl_isFraction
theorem impl_isFraction_f (a b : Int) {k : Nat} (hk : 1000001 ≤ k) : impl_isFraction.f k a b = some (decide (Frac a b)) := by
  unfold impl_isFraction.f
  rw [impl_isPart_f]; simp only [Option.bind_some, decide_eq_true_eq]
  by_cases h1 : -1000000 ≤ a ∧ a ≤ 1000000
  · rw [if_pos h1]
    by_cases h2 : b < 0
    · rw [if_pos h2]; exact (dec_false (fun x => by have := x.2.1; omega)).symm
    · rw [if_neg h2]
      by_cases h2' : b > 1000000
      · rw [if_pos h2']; exact (dec_false (fun x => by have := x.2.1; omega)).symm
      · rw [if_neg h2', impl_gcd_f (by omega) (by omega) (by omega)]; simp only [Option.bind_some]
        have hb : (((Int.gcd a b : Nat) : Int) == 1) = decide (Int.gcd a b = 1) := by
          rw [Bool.eq_iff_iff]; simp; omega
        rw [hb]
        by_cases h4 : b = 0
        · rw [if_pos h4]
          by_cases h5 : a = 1
          · rw [if_pos h5]; exact dec_iff ⟨fun h => ⟨h1, by omega, h, fun _ => h5⟩, fun h => h.2.2.1⟩
          · rw [if_neg h5]; exact (dec_false (fun x => h5 (x.2.2.2 h4))).symm
        · rw [if_neg h4]; exact dec_iff ⟨fun h => ⟨h1, by omega, h, fun h' => absurd h' h4⟩, fun h => h.2.2.1⟩
  · rw [if_neg h1]; exact (dec_false (fun x => h1 x.1)).symm

-- alive
theorem alive_f {k : Nat} (hk : 1000001 ≤ k) : laws_alive.f k = some true := by
  unfold laws_alive.f impl_FractionOk.f
  simp only [impl_isFraction_f _ _ hk, Option.bind_some]
  rw [if_pos (by decide)]
  congr 1

theorem DrawLinksOf_f {l : List Int} {k : Nat} (h : ∀ x ∈ l, (Lit.int .u8 x).wf = true) (hk : 2000000 ≤ k) : ∃ a, spec_DrawLinksOf.f k l = some a ∧ -1 ≤ a ∧ a ≤ 61 := by
  unfold spec_DrawLinksOf.f
  obtain ⟨s, hs, hr⟩ := open_f h
  rw [hs]; simp only [Option.bind_some]
  obtain ⟨v, hv, v0, v1, _⟩ := pick_f (k := k) (p := 0) 63 hr (by omega) (by omega) (by omega)
  have v1 := v1 (by omega)
  rw [hv]; simp only [Option.bind_some]
  rw [wrap64_in (by omega) (by omega)]
  exact ⟨_, rfl, by omega, by omega⟩
theorem count_range (m n : Nat) : ∀ i : Nat, (List.range' i n).countP (fun x => decide (x = m)) = if i ≤ m ∧ m < i + n then 1 else 0 := by
  induction n with
  | zero => intro i; simp
  | succ n ih =>
    intro i
    rw [List.range'_succ, List.countP_cons, ih (i + 1)]
    by_cases h : i = m
    · subst h; simp; omega
    · simp [h]
      by_cases h2 : i + 1 ≤ m ∧ m < i + 1 + n
      · rw [if_pos h2, if_pos (by omega)]
      · rw [if_neg h2, if_neg (by omega)]
theorem least_least : ((List.range 61).all fun a => (List.range 61).all fun b => !(decide (LinkP (a : Int) (b : Int))) || decide (LinkP (a : Int) ((leastn a b : Nat) : Int) ∧ leastn a (leastn a b) = leastn a b)) = true := by decide +kernel
theorem least_at {a b : Nat} (h : LinkP (a : Int) (b : Int)) : LinkP (a : Int) ((leastn a b : Nat) : Int) ∧ leastn a (leastn a b) = leastn a b := by
  have hr := linkP_range h
  have x := least_least
  rw [List.all_eq_true] at x
  have x := x a (List.mem_range.2 (by omega))
  rw [List.all_eq_true] at x
  have x := x b (List.mem_range.2 (by omega))
  simpa [h] using x
/-- Each link is the same as one of the list alone. -/
theorem one_same {a b : Nat} (h : LinkP (a : Int) (b : Int)) : (linksv (a : Int)).countP (fun y => decide (SameP (a : Int) (b : Int) y.f0 y.f1)) = 1 := by
  have hr := linkP_range h
  obtain ⟨h1, h2⟩ := least_at h
  have hr1 := linkP_range h1
  unfold linksv
  rw [if_pos (by omega)]
  unfold linkq
  rw [List.countP_map, List.countP_filter]
  have e : ∀ x : Nat, ((((fun y : S24 => decide (SameP (a : Int) (b : Int) y.f0 y.f1)) ∘ fun x : Nat => (⟨(a : Int), (x : Int)⟩ : S24)) x) && decide (LstP (a : Int) x)) = decide (x = leastn a b) := by
    intro x
    rw [Bool.eq_iff_iff]
    simp only [Function.comp, Bool.and_eq_true, decide_eq_true_eq]
    constructor
    · rintro ⟨s, t⟩
      have s4 := s.2.2.2
      have t2 := t.2
      unfold leastv at s4 t2
      simp only [Int.toNat_natCast] at s4 t2
      omega
    · intro hx
      subst hx
      have q : leastv (a : Int) ((leastn a b : Nat) : Int) = ((leastn a b : Nat) : Int) := by
        unfold leastv; simp only [Int.toNat_natCast]; rw [h2]
      refine ⟨⟨h, h1, rfl, ?_⟩, h1, q⟩
      rw [q]; unfold leastv; simp only [Int.toNat_natCast]
  rw [show (fun x : Nat => ((((fun y : S24 => decide (SameP (a : Int) (b : Int) y.f0 y.f1)) ∘ fun x : Nat => (⟨(a : Int), (x : Int)⟩ : S24)) x) && decide (LstP (a : Int) x))) = fun x => decide (x = leastn a b) from funext e, count_range, if_pos (by have h1' := h1; unfold LinkP at h1'; omega)]
def cA (a : Int) (i n : Nat) : Nat := (List.range' i n).countP (fun x : Nat => decide (LinkP a (x : Int)))
def cS (a : Int) (i n : Nat) : Nat := (List.range' i n).countP (fun x : Nat => decide (LinkP a (x : Int) ∧ x * x % a.toNat = 1))
theorem count_links : ((List.range 61).all fun a => decide ((linksv (a : Int)).length ≠ 0 ∧ (a < 2 → (linksv (a : Int)).length = 1) ∧ (2 ≤ a → 2 * (linksv (a : Int)).length = cA (a : Int) 1 (a - 1) + cS (a : Int) 1 (a - 1)))) = true := by decide +kernel
theorem count_at {a : Nat} (h : a ≤ 60) : (linksv (a : Int)).length ≠ 0 ∧ (a < 2 → (linksv (a : Int)).length = 1) ∧ (2 ≤ a → 2 * (linksv (a : Int)).length = cA (a : Int) 1 (a - 1) + cS (a : Int) 1 (a - 1)) := by
  have x := count_links
  rw [List.all_eq_true] at x
  exact of_decide_eq_true (x a (List.mem_range.2 (by omega)))
theorem drop_rdL (l : List S24) (i : Nat) (h : i < l.length) : l.drop i = rd_T24 l (i : Int) :: l.drop (i + 1) := by
  rw [List.drop_eq_getElem_cons h]; unfold rd_T24; simp [h]
theorem l2_f (L : List S24) (hL : L.length ≤ 62) (x3 ap sq lf la lb : Int) (n : Nat) : ∀ (j : Nat) (cnt : Nat) (k : Nat), j + n = L.length → cnt + n ≤ 100 → 2000 + n < k →
    ∃ k', k ≤ k' + n + 1 ∧ laws_FnLinksOf.l2 k x3 L ap sq lf (cnt : Int) (j : Int) la lb = if cnt + (L.drop j).countP (fun y => decide (SameP la lb y.f0 y.f1)) = 1 then laws_FnLinksOf.l1 k' x3 L ap sq (wrap64 (lf + 1)) else some false := by
  induction n with
  | zero =>
    intro j cnt k hj hc hk
    obtain ⟨k, rfl⟩ : ∃ m, k = m + 1 := ⟨k - 1, by omega⟩
    refine ⟨k, by omega, ?_⟩
    simp only [laws_FnLinksOf.l2]
    rw [if_neg (by omega), List.drop_of_length_le (by omega)]
    by_cases h : cnt = 1
    · rw [if_pos (by omega), if_pos (by simpa using h)]
    · rw [if_neg (by omega), if_neg (by simpa using h)]
  | succ n ih =>
    intro j cnt k hj hc hk
    obtain ⟨k, rfl⟩ : ∃ m, k = m + 1 := ⟨k - 1, by omega⟩
    simp only [laws_FnLinksOf.l2]
    rw [if_pos (by omega), if_pos (by omega), impl_SameLink_f _ _ _ _ (by omega), drop_rdL L j (by omega), List.countP_cons]; simp only [Option.bind_some, decide_eq_true_eq]
    rw [wrap64_in (n := (cnt : Int) + 1) (by omega) (by omega), wrap64_in (n := (j : Int) + 1) (by omega) (by omega), show (cnt : Int) + 1 = ((cnt + 1 : Nat) : Int) by omega, show (j : Int) + 1 = ((j + 1 : Nat) : Int) by omega]
    by_cases h : SameP la lb (rd_T24 L (j : Int)).f0 (rd_T24 L (j : Int)).f1
    · obtain ⟨k', hk', e⟩ := ih (j + 1) (cnt + 1) k (by omega) (by omega) (by omega)
      refine ⟨k', by omega, ?_⟩
      rw [if_pos h, if_pos h, e, show cnt + 1 + (L.drop (j + 1)).countP (fun y => decide (SameP la lb y.f0 y.f1)) = cnt + ((L.drop (j + 1)).countP (fun y => decide (SameP la lb y.f0 y.f1)) + 1) by omega]
    · obtain ⟨k', hk', e⟩ := ih (j + 1) cnt k (by omega) (by omega) (by omega)
      refine ⟨k', by omega, ?_⟩
      rw [if_neg h, if_neg h, e]; rfl
theorem l1_f (a : Nat) (ha : a ≤ 60) (n : Nat) : ∀ (i : Nat) (ap sq k : Nat), i + n = a ∨ (n = 0 ∧ a ≤ i) → 1 ≤ i → ap + n ≤ 100 → sq + n ≤ 100 → 3000 + 100 * n < k →
    (2 ≤ a → 2 * (linksv (a : Int)).length = (ap + cA (a : Int) i n) + (sq + cS (a : Int) i n)) → laws_FnLinksOf.l1 k (a : Int) (linksv (a : Int)) (ap : Int) (sq : Int) (i : Int) = some true := by
  have hl := linksv_length (a : Int)
  have hc := count_at ha
  induction n with
  | zero =>
    intro i ap sq k hi h1 _ _ hk he
    obtain ⟨k, rfl⟩ : ∃ m, k = m + 1 := ⟨k - 1, by omega⟩
    simp only [laws_FnLinksOf.l1]
    rw [if_neg (by omega)]
    by_cases h2 : (a : Int) < 2
    · rw [if_pos h2, if_pos (by have := hc.2.1 (by omega); omega)]
    · rw [if_neg h2, if_pos (by omega), wrap64_in (by omega) (by omega), wrap64_in (by omega) (by omega)]
      have := he (by omega)
      simp only [cA, cS, List.range'_zero, List.countP_nil, Nat.add_zero] at this
      rw [show (2 * ((linksv (a : Int)).length : Int) == (ap : Int) + (sq : Int)) = true by simp; omega]
  | succ n ih =>
    intro i ap sq k hi h1 hap hsq hk he
    obtain ⟨k, rfl⟩ : ∃ m, k = m + 1 := ⟨k - 1, by omega⟩
    have hi : i + (n + 1) = a := by omega
    have hii : i * i ≤ 60 * 60 := Nat.mul_le_mul (by omega) (by omega)
    simp only [laws_FnLinksOf.l1]
    rw [if_pos (by omega), spec_LinkOk_f _ _ (by omega), ← Int.natCast_mul, wrap64_in (n := ((i * i : Nat) : Int)) (by omega) (by omega), tmod_cast, wrap64_in (n := (i : Int) + 1) (by omega) (by omega), wrap64_in (n := (ap : Int) + 1) (by omega) (by omega), wrap64_in (n := (sq : Int) + 1) (by omega) (by omega), show (i : Int) + 1 = ((i + 1 : Nat) : Int) by omega, show (ap : Int) + 1 = ((ap + 1 : Nat) : Int) by omega, show (sq : Int) + 1 = ((sq + 1 : Nat) : Int) by omega]; simp only [Option.bind_some, decide_eq_true_eq]
    have hj : ∀ ap' sq' : Nat, ap' + n ≤ 100 → sq' + n ≤ 100 → LinkP (a : Int) (i : Int) → (2 ≤ a → 2 * (linksv (a : Int)).length = (ap' + cA (a : Int) (i + 1) n) + (sq' + cS (a : Int) (i + 1) n)) → laws_FnLinksOf.j2 k (a : Int) (linksv (a : Int)) (ap' : Int) (sq' : Int) (i : Int) (a : Int) (i : Int) = some true := by
      intro ap' sq' b1 b2 hL he'
      obtain ⟨k, rfl⟩ : ∃ m, k = m + 1 := ⟨k - 1, by omega⟩
      simp only [laws_FnLinksOf.j2]
      obtain ⟨k', hk', e⟩ := l2_f (linksv (a : Int)) hl (a : Int) (ap' : Int) (sq' : Int) (i : Int) (a : Int) (i : Int) (linksv (a : Int)).length 0 0 k (by omega) (by omega) (by omega)
      rw [show ((0 : Nat) : Int) = 0 from rfl, List.drop_zero, Nat.zero_add, if_pos (one_same hL), wrap64_in (n := (i : Int) + 1) (by omega) (by omega), show (i : Int) + 1 = ((i + 1 : Nat) : Int) by omega] at e
      rw [e]
      exact ih (i + 1) ap' sq' k' (by omega) (by omega) b1 b2 (by omega) he'
    have stepA : cA (a : Int) i (n + 1) = (if LinkP (a : Int) (i : Int) then 1 else 0) + cA (a : Int) (i + 1) n := by
      unfold cA; rw [List.range'_succ, List.countP_cons, Nat.add_comm]; simp
    have stepS : cS (a : Int) i (n + 1) = (if LinkP (a : Int) (i : Int) ∧ i * i % a = 1 then 1 else 0) + cS (a : Int) (i + 1) n := by
      unfold cS; rw [List.range'_succ, List.countP_cons, Nat.add_comm]; simp
    rw [stepA, stepS] at he
    by_cases h : LinkP (a : Int) (i : Int)
    · rw [if_pos h, if_neg (by omega)]
      rw [if_pos h] at he
      by_cases h' : i * i % a = 1
      · rw [if_pos (by omega)]
        rw [if_pos ⟨h, h'⟩] at he
        exact hj (ap + 1) (sq + 1) (by omega) (by omega) h (fun x => by have := he x; omega)
      · rw [if_neg (by omega)]
        rw [if_neg (fun x => h' x.2)] at he
        exact hj (ap + 1) sq (by omega) (by omega) h (fun x => by have := he x; omega)
    · rw [if_neg h]
      rw [if_neg h, if_neg (fun x => h x.1)] at he
      exact ih (i + 1) ap sq k (by omega) (by omega) (by omega) (by omega) (by omega) (fun x => by have := he x; omega)
theorem l0_f (a : Int) (L : List S24) (hL : L.length ≤ 62) (n : Nat) : ∀ (i k : Nat), i + n = L.length → n + 10 < k →
    ∃ k', k ≤ k' + n + 1 ∧ laws_FnLinksOf.l0 k a L L (i : Int) = (if (L.length : Int) = 0 then (if a < 0 then ((laws_alive.f k').bind fun t => (some t)) else (if a > 60 then ((laws_alive.f k').bind fun t => (some t)) else (some false))) else (laws_FnLinksOf.l1 k' a L 0 0 1)) := by
  induction n with
  | zero =>
    intro i k hi hk
    obtain ⟨k, rfl⟩ : ∃ m, k = m + 1 := ⟨k - 1, by omega⟩
    refine ⟨k, by omega, ?_⟩
    simp only [laws_FnLinksOf.l0]
    rw [if_neg (by omega)]
  | succ n ih =>
    intro i k hi hk
    obtain ⟨k, rfl⟩ : ∃ m, k = m + 1 := ⟨k - 1, by omega⟩
    obtain ⟨k', h1, h2⟩ := ih (i + 1) k (by omega) (by omega)
    refine ⟨k', by omega, ?_⟩
    simp only [laws_FnLinksOf.l0]
    rw [if_pos (by omega), if_pos (by omega), if_pos (by omega), if_neg (by simp), wrap64_in (by omega) (by omega)]
    exact h2
theorem FnLinksOf : laws_FnLinksOf.Pure := by
  intro l _ _ hw
  obtain ⟨k, hk⟩ := bigk
  refine ⟨k, ?_⟩
  unfold laws_FnLinksOf.f
  refine ite_to (fun _ => rfl) (fun _ => ?_)
  obtain ⟨a, hd, a0, a1⟩ := DrawLinksOf_f hw (show 2000000 ≤ k by omega)
  have hl := linksv_length a
  rw [hd]; simp only [Option.bind_some]
  rw [impl_LinksOf_f _ (by omega), spec_LinksOf_f _ (by omega)]; simp only [Option.bind_some]
  rw [if_pos trivial]
  obtain ⟨k', h1, h2⟩ := l0_f a (linksv a) hl (linksv a).length 0 k (by omega) (by omega)
  rw [show ((0 : Nat) : Int) = 0 from rfl] at h2
  rw [h2]
  by_cases h : 0 ≤ a ∧ a ≤ 60
  · obtain ⟨a, rfl⟩ := Int.eq_ofNat_of_zero_le h.1
    have hc := count_at (a := a) (by omega)
    rw [if_neg (by have := hc.1; omega)]
    exact l1_f a (by omega) (a - 1) 1 0 0 k' (by omega) (by omega) (by omega) (by omega) (by omega) (fun x => by have := hc.2.2 x; omega)
  · have e : linksv a = [] := by unfold linksv; rw [if_neg h]
    rw [e, alive_f (by omega)]
    simp only [Option.bind_some]
    rw [if_pos (by simp)]
    by_cases h' : a < 0
    · rw [if_pos h']
    · rw [if_neg h', if_pos (by omega)]

end Go.Proofs.Ytmcdhajepkamjaa.Pure
