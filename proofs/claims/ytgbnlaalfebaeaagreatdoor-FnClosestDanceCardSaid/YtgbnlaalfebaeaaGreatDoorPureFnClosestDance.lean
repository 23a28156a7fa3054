/- FnClosestDance: ClosestDance answers as the reference's does; where there is one, the dance leads from 0 to the fraction and has as many twists as that has crossings; at every draw (of the few small fractions each by itself). -/
import Derived.Test.YtgbnlaalfebaeaaGreatDoorPFnClosestDancex0
import Derived.Test.YtgbnlaalfebaeaaGreatDoorPFnClosestDancex1
import Derived.Test.YtgbnlaalfebaeaaGreatDoorPFnClosestDancex2
import Derived.Test.YtgbnlaalfebaeaaGreatDoorPFnClosestDancex3
import Derived.Test.YtgbnlaalfebaeaaGreatDoorPFnClosestDancex4
import Derived.Test.YtgbnlaalfebaeaaGreatDoorPFnClosestDancex5
import Derived.Test.YtgbnlaalfebaeaaGreatDoorPFnClosestDancex6
import Derived.Test.YtgbnlaalfebaeaaGreatDoorPFnClosestDancex7
import Derived.Test.YtgbnlaalfebaeaaGreatDoorPFnClosestDancex8
set_option linter.unusedVariables false
set_option linter.unusedSimpArgs false
namespace Go.Proofs.YtgbnlaalfebaeaaGreatDoor.Pure
open Go.RowKit Go.Proofs.YtgbnlaalfebaeaaGreatDoor.PFnClosestDance Go.Proofs.YtgbnlaalfebaeaaGreatDoorW.PrintWords Go.Proofs.YtgbnlaalfebaeaaGreatDoorW.PrintLast Go.Proofs.YtgbnlaalfebaeaaGreatDoorW.PrintMore Go.Proofs.YtgbnlaalfebaeaaGreatDoor.Lib

-- base
theorem wrap64_in {n : Int} (h : -9223372036854775808 ≤ n) (h' : n ≤ 9223372036854775807) : wrap64 n = n := by unfold wrap64; omega
theorem i64_of_wf {n : Int} (h : (Lit.int .i64 n).wf = true) : -9223372036854775808 ≤ n ∧ n ≤ 9223372036854775807 := by
  simpa [Lit.wf, IntKind.min, IntKind.max, IntKind.signed, IntKind.bits] using h
theorem bigk : ∃ k : Nat, 1000000000 ≤ k := ⟨1000000000, Nat.le_refl _⟩
theorem dec_true {p : Prop} [Decidable p] (h : p) : some (decide p) = some true := by simp [h]
theorem dec_false {p : Prop} [Decidable p] (h : ¬ p) : some (decide p) = some false := by simp [h]
theorem dec_iff {p q : Prop} [Decidable p] [Decidable q] (h : p ↔ q) : some (decide p) = some (decide q) := by simp [h]
theorem ite_to {c : Prop} [Decidable c] {α : Type} {x y z : α} (h1 : c → x = z) (h2 : ¬ c → y = z) : (if c then x else y) = z := by
  by_cases h : c
  · rw [if_pos h]; exact h1 h
  · rw [if_neg h]; exact h2 h

-- gcdmath
theorem natAbs_tmod_lt (a : Int) {b : Int} (h : b ≠ 0) : (Int.tmod a b).natAbs < b.natAbs := by
  rw [Int.natAbs_tmod]
  exact Nat.mod_lt _ (by omega)
theorem gcd_tmod (a b : Int) : Int.gcd b (Int.tmod a b) = Int.gcd a b := by
  unfold Int.gcd
  rw [Int.natAbs_tmod, Nat.gcd_comm a.natAbs, Nat.gcd_rec b.natAbs a.natAbs, Nat.gcd_comm]
theorem mx_abs {a : Int} (h : -9223372036854775808 < a) (h' : a ≤ 9223372036854775807) : mx a (wrap64 (-a)) = (a.natAbs : Int) := by
  rw [wrap64_in (by omega) (by omega)]; unfold mx; split <;> omega

-- draw
/-- The bytes that a draw reads. -/
def RdOk (s : List Int) : Prop := s.length ≤ 2000 ∧ ∀ x ∈ s, 0 ≤ x ∧ x ≤ 255
theorem rd_bd {s : List Int} (h : RdOk s) (i : Int) : 0 ≤ rd s i ∧ rd s i ≤ 255 := by
  unfold rd
  by_cases hi : i.toNat < s.length
  · have e : s.getD i.toNat 0 = s[i.toNat] := by simp [hi]
    rw [e]; exact h.2 _ (List.getElem_mem hi)
  · have e : s.getD i.toNat 0 = 0 := by simp; rw [List.getElem?_eq_none (by omega)]; rfl
    rw [e]; omega
theorem xor_nonneg {x y : Int} (hx : 0 ≤ x) (hx' : x < 4611686018427387904) (hy : 0 ≤ y) (hy' : y < 4611686018427387904) : 0 ≤ Go.bits .xor .i64 x y := by
  unfold Go.bits
  simp only
  obtain ⟨a, rfl⟩ := Int.eq_ofNat_of_zero_le hx
  obtain ⟨b, rfl⟩ := Int.eq_ofNat_of_zero_le hy
  have h64 : IntKind.i64.bits = 64 := rfl
  rw [BitVec.toNat_xor]
  have ea : (BitVec.ofInt IntKind.i64.bits (a : Int)).toNat = a := by
    rw [BitVec.toNat_ofInt, h64]; omega
  have eb : (BitVec.ofInt IntKind.i64.bits (b : Int)).toNat = b := by
    rw [BitVec.toNat_ofInt, h64]; omega
  rw [ea, eb]
  have hl : a ^^^ b < 2 ^ 62 := Nat.xor_lt_two_pow (by omega) (by omega)
  generalize a ^^^ b = c at *
  have : IntKind.i64.wrap (c : Int) = wrap64 (c : Int) := by
    simp [IntKind.wrap, wrap64, IntKind.signed, IntKind.bits]
    try omega
  rw [this, wrap64_in (by omega) (by omega)]
  omega
theorem tmod_range {x n : Int} (hx : 0 ≤ x) (hn : 1 ≤ n) : 0 ≤ Int.tmod x n ∧ Int.tmod x n < n := by
  rw [Int.tmod_eq_emod_of_nonneg hx]
  exact ⟨Int.emod_nonneg _ (by omega), Int.emod_lt_of_pos _ (by omega)⟩
theorem pick_f {s : List Int} {p : Int} (n : Int) {k : Nat} (hs : RdOk s) (hp : 0 ≤ p) (hp' : p ≤ 1000000) (hk : 1 ≤ k) :
    ∃ v, spec_l20Rd_pick.f k s p n = some (v, p + 1) ∧ 0 ≤ v ∧ (1 ≤ n → v < n) ∧ (n < 1 → v = 0) := by
  obtain ⟨k, rfl⟩ : ∃ m, k = m + 1 := ⟨k - 1, by omega⟩
  unfold spec_l20Rd_pick.f
  rw [wrap64_in (n := p + 1) (by omega) (by omega)]
  by_cases hn : n < 1
  · rw [if_pos hn]; simp only [spec_l20Rd_pick.j0]; rw [if_pos trivial]
    exact ⟨0, rfl, by omega, by omega, fun _ => rfl⟩
  · rw [if_neg hn]
    by_cases hl : (s.length : Int) = 0
    · rw [show ((s.length : Int) == 0) = true by simpa using hl]; simp only [spec_l20Rd_pick.j0]; rw [if_pos trivial]
      exact ⟨0, rfl, by omega, by omega, fun _ => rfl⟩
    · rw [show ((s.length : Int) == 0) = false by simpa using hl]; simp only [spec_l20Rd_pick.j0]; rw [if_neg (by decide)]
      have hlen := hs.1
      rw [show p + 1 - 1 = p by omega, wrap64_in (n := p) (by omega) (by omega)]
      by_cases h1 : p < (s.length : Int)
      · have hb := rd_bd hs p
        rw [if_pos h1, if_pos hp, if_neg (by omega), wrap64_in (by omega) (by omega)]
        have ht := tmod_range (n := n) hb.1 (by omega)
        exact ⟨_, rfl, ht.1, fun _ => ht.2, fun x => absurd x hn⟩
      · have t1 := tmod_range (x := p) (n := (s.length : Int)) hp (by omega)
        have t2 := tmod_range (x := p * 7 + 3) (n := (s.length : Int)) (by omega) (by omega)
        rw [if_neg h1, if_neg hl, if_pos t1.1, if_pos t1.2, wrap64_in (n := p * 7) (by omega) (by omega), wrap64_in (n := p * 7 + 3) (by omega) (by omega), if_pos t2.1, if_pos t2.2, if_neg (by omega)]
        have b1 := rd_bd hs (Int.tmod p (s.length : Int))
        have b2 := rd_bd hs (Int.tmod (p * 7 + 3) (s.length : Int))
        generalize rd s (Int.tmod p (s.length : Int)) = r1 at *
        generalize rd s (Int.tmod (p * 7 + 3) (s.length : Int)) = r2 at *
        have q1 : 0 ≤ Int.tdiv p (s.length : Int) ∧ Int.tdiv p (s.length : Int) ≤ p := by
          obtain ⟨a, rfl⟩ := Int.eq_ofNat_of_zero_le hp
          rw [Int.tdiv_eq_ediv_of_nonneg (by omega), ← Int.natCast_ediv]
          have := Nat.div_le_self a s.length
          exact ⟨Int.natCast_nonneg _, by exact_mod_cast this⟩
        generalize Int.tdiv p (s.length : Int) = q at *
        rw [wrap64_in (n := r1) (by omega) (by omega), wrap64_in (n := r1 * 131) (by omega) (by omega), wrap64_in (n := r2) (by omega) (by omega), wrap64_in (n := r2 * 1117) (by omega) (by omega), wrap64_in (n := r1 * 131 + r2 * 1117) (by omega) (by omega), wrap64_in (n := p * 29) (by omega) (by omega), wrap64_in (n := q) (by omega) (by omega), wrap64_in (n := q * 53) (by omega) (by omega), wrap64_in (n := r1 * 131 + r2 * 1117 + p * 29) (by omega) (by omega), wrap64_in (n := r1 * 131 + r2 * 1117 + p * 29 + q * 53) (by omega) (by omega)]
        generalize hX : r1 * 131 + r2 * 1117 + p * 29 + q * 53 = X
        have hX0 : 0 ≤ X := by omega
        have hX1 : X ≤ 1000000000 := by omega
        have d1 : 0 ≤ Int.tdiv X 64 ∧ Int.tdiv X 64 ≤ X := by
          rw [Int.tdiv_eq_ediv_of_nonneg hX0]; omega
        rw [wrap64_in (n := Int.tdiv X 64) (by omega) (by omega)]
        have hx := xor_nonneg (x := X) (y := Int.tdiv X 64) hX0 (by omega) d1.1 (by omega)
        have ht := tmod_range (n := n) hx (by omega)
        exact ⟨_, rfl, ht.1, fun _ => ht.2, fun x => absurd x hn⟩

-- open
theorem u8_of_wf {n : Int} (h : (Lit.int .u8 n).wf = true) : 0 ≤ n ∧ n ≤ 255 := by
  simpa [Lit.wf, IntKind.min, IntKind.max, IntKind.signed, IntKind.bits] using h
theorem open_f {l : List Int} (h : ∀ x ∈ l, (Lit.int .u8 x).wf = true) : ∃ s, spec_l20Open.f l = some (s, 0) ∧ RdOk s := by
  unfold spec_l20Open.f
  by_cases hl : (l.length : Int) > 2000
  · rw [if_pos hl, if_pos (by omega)]
    exact ⟨_, rfl, by rw [List.length_take]; omega, fun x hx => u8_of_wf (h x (List.mem_of_mem_take hx))⟩
  · rw [if_neg hl]
    exact ⟨_, rfl, by omega, fun x hx => u8_of_wf (h x hx)⟩

-- odd
theorem odd_f {s : List Int} {p : Int} (n : Int) {k : Nat} (hs : RdOk s) (hp : 0 ≤ p) (hp' : p ≤ 1000000) (hk : 1 ≤ k) :
    ∃ v q, spec_l20Rd_odd.f k s p n = some (v, q) ∧ p ≤ q ∧ q ≤ p + 1 := by
  unfold spec_l20Rd_odd.f
  by_cases h : n > 0
  · rw [if_pos h]
    obtain ⟨v, hv, _⟩ := pick_f n hs hp hp' hk
    rw [hv]; simp only [Option.bind_some]
    exact ⟨_, _, rfl, by omega, by omega⟩
  · rw [if_neg h]; exact ⟨_, _, rfl, by omega, by omega⟩

-- frac
/-- A fraction in lowest terms, as FractionOk tells it. -/
def Frac (a b : Int) : Prop := (-1000000 ≤ a ∧ a ≤ 1000000) ∧ (0 ≤ b ∧ b ≤ 1000000) ∧ Int.gcd a b = 1 ∧ (b = 0 → a = 1)
instance (a b : Int) : Decidable (Frac a b) := by unfold Frac; infer_instance

-- lowmath
/-- Two numbers in lowest terms. -/
def lowv (a b : Int) : Int × Int := if b < 0 ∨ (b = 0 ∧ a < 0) then (Int.tdiv a (-(Int.gcd a b : Int)), Int.tdiv b (-(Int.gcd a b : Int))) else (Int.tdiv a (Int.gcd a b : Int), Int.tdiv b (Int.gcd a b : Int))
theorem gcd_ne {a b : Int} (h : ¬ (a = 0 ∧ b = 0)) : Int.gcd a b ≠ 0 := by
  intro x; rw [Int.gcd_eq_zero_iff] at x; exact h x
theorem tdiv_wrap {a g : Int} (h : a.natAbs ≤ 9223372036854775807) : wrap64 (Int.tdiv a g) = Int.tdiv a g := by
  have := Nat.div_le_self a.natAbs g.natAbs
  have e : (Int.tdiv a g).natAbs = a.natAbs / g.natAbs := Int.natAbs_tdiv a g
  rw [← e] at this
  exact wrap64_in (by omega) (by omega)
theorem gcd_le_abs {a b : Int} (h : ¬ (a = 0 ∧ b = 0)) : (Int.gcd a b) ≤ a.natAbs + b.natAbs := by
  by_cases ha : a = 0
  · subst ha; rw [Int.gcd_zero_left]; omega
  · have := Int.gcd_le_natAbs_left (b := b) ha; omega

-- lowestof
/-- What LowestOf answers. -/
def LowOk (a b : Int) : Prop := (-1000000 ≤ a ∧ a ≤ 1000000) ∧ (-1000000 ≤ b ∧ b ≤ 1000000) ∧ ¬ (a = 0 ∧ b = 0)
instance (a b : Int) : Decidable (LowOk a b) := by unfold LowOk; infer_instance
def lowofv (a b : Int) : Int × Int × Bool := if LowOk a b then ((lowv a b).1, (lowv a b).2, true) else (0, 0, false)

-- spec_l1Common
theorem spec_l1Common_l0 (n : Nat) : ∀ (a b : Int), b.natAbs ≤ n → 0 ≤ a → 0 ≤ b → ∀ k, n < k → spec_l1Common.l0 k a b = some (Int.gcd a b : Int) := by
  induction n with
  | zero =>
    intro a b hb ha _ k hk
    obtain ⟨k, rfl⟩ : ∃ m, k = m + 1 := ⟨k - 1, by omega⟩
    obtain rfl : b = 0 := by omega
    simp only [spec_l1Common.l0]
    rw [if_neg (by omega), Int.gcd_zero_right]
    congr 1; omega
  | succ n ih =>
    intro a b hb ha hb' k hk
    obtain ⟨k, rfl⟩ : ∃ m, k = m + 1 := ⟨k - 1, by omega⟩
    simp only [spec_l1Common.l0]
    by_cases h : b = 0
    · subst h; rw [if_neg (by omega), Int.gcd_zero_right]; congr 1; omega
    · have := natAbs_tmod_lt a h
      rw [if_pos (by omega), if_neg h, ih b (Int.tmod a b) (by omega) hb' (Int.tmod_nonneg _ ha) k (by omega), gcd_tmod]
theorem spec_l1Common_f {a b : Int} {k : Nat} (ha : a.natAbs ≤ 9223372036854775807) (hb : b.natAbs ≤ 9223372036854775807) (hk : b.natAbs < k) : spec_l1Common.f k a b = some (Int.gcd a b : Int) := by
  unfold spec_l1Common.f
  rw [mx_abs (by omega) (by omega), mx_abs (by omega) (by omega), spec_l1Common_l0 b.natAbs _ _ (by omega) (by omega) (by omega) k hk]
  rfl

-- spec_l1In
theorem spec_l1In_f (a b c : Int) : spec_l1In.f a b c = some (decide (b ≤ a ∧ a ≤ c)) := by
  unfold spec_l1In.f
  by_cases h : b ≤ a
  · rw [if_pos h]; exact dec_iff ⟨fun x => ⟨h, x⟩, fun x => x.2⟩
  · rw [if_neg h]; exact (dec_false (fun x => h x.1)).symm

-- spec_LowestOf
theorem spec_LowestOf_f (a b : Int) {k : Nat} (hk : 1000002 ≤ k) : spec_LowestOf.f k a b = some (lowofv a b) := by
  obtain ⟨k, rfl⟩ : ∃ m, k = m + 1 := ⟨k - 1, by omega⟩
  unfold spec_LowestOf.f
  simp only [spec_l1In_f, Option.bind_some, decide_eq_true_eq]
  unfold lowofv
  by_cases h : LowOk a b
  · rw [if_pos h.1, if_pos h.2.1, if_pos h]
    have e : (if a = 0 then spec_LowestOf.j0 (k + 1) a b (b == 0) else spec_LowestOf.j0 (k + 1) a b false) = spec_LowestOf.j0 (k + 1) a b false := by
      by_cases h3 : a = 0
      · rw [if_pos h3, show (b == 0) = false from by simp; exact fun x => h.2.2 ⟨h3, x⟩]
      · rw [if_neg h3]
    rw [e]
    have h1 := h.1
    have h2 := h.2.1
    simp only [spec_LowestOf.j0]
    rw [if_neg (by decide), spec_l1Common_f (by omega) (by omega) (by omega)]; simp only [Option.bind_some]
    have hg := gcd_ne h.2.2
    have hl := gcd_le_abs h.2.2
    rw [wrap64_in (n := -((Int.gcd a b : Nat) : Int)) (by omega) (by omega)]
    unfold lowv
    by_cases h1 : b < 0
    · rw [if_pos h1, if_neg (by omega), if_pos (.inl h1), tdiv_wrap (by omega), tdiv_wrap (by omega)]
    · rw [if_neg h1]
      by_cases h2 : b = 0
      · rw [if_pos h2]
        by_cases h3 : a < 0
        · rw [if_pos h3, if_neg (by omega), if_pos (.inr ⟨h2, h3⟩), tdiv_wrap (by omega), tdiv_wrap (by omega)]
        · rw [if_neg h3, if_neg (by omega), if_neg (by omega), tdiv_wrap (by omega), tdiv_wrap (by omega)]
      · rw [if_neg h2, if_neg (by omega), if_neg (by omega), tdiv_wrap (by omega), tdiv_wrap (by omega)]
  · rw [if_neg h]
    have e : spec_LowestOf.j0 (k + 1) a b true = some (0, 0, false) := by simp only [spec_LowestOf.j0]; rw [if_pos trivial]
    by_cases h1 : -1000000 ≤ a ∧ a ≤ 1000000
    · rw [if_pos h1]
      by_cases h2 : -1000000 ≤ b ∧ b ≤ 1000000
      · rw [if_pos h2]
        have h3 : a = 0 ∧ b = 0 := by
          by_cases x : a = 0 ∧ b = 0
          · exact x
          · exact absurd ⟨h1, h2, x⟩ h
        rw [if_pos h3.1, h3.2]
        rw [h3.2] at e
        exact e
      · rw [if_neg h2, e]
    · rw [if_neg h1, e]

-- lowbd
theorem lowofv_bd (a b : Int) : (lowofv a b).1.natAbs ≤ 1000000 ∧ (lowofv a b).2.1.natAbs ≤ 1000000 := by
  unfold lowofv
  by_cases h : LowOk a b
  · rw [if_pos h]
    have h1 := h.1
    have h2 := h.2.1
    have key : ∀ (x g : Int), x.natAbs ≤ 1000000 → (Int.tdiv x g).natAbs ≤ 1000000 := by
      intro x g hx
      have := Nat.div_le_self x.natAbs g.natAbs
      have e : (Int.tdiv x g).natAbs = x.natAbs / g.natAbs := Int.natAbs_tdiv x g
      omega
    unfold lowv
    split
    · exact ⟨key _ _ (by omega), key _ _ (by omega)⟩
    · exact ⟨key _ _ (by omega), key _ _ (by omega)⟩
  · rw [if_neg h]; simp

-- drawfrac
/-- Numbers of a drawn fraction. -/
def Drawn2 (a b : Int) : Prop := a.natAbs ≤ 1000001 ∧ b.natAbs ≤ 1000001
theorem l20Fraction_f {s : List Int} {p : Int} (n : Int) {k : Nat} (hs : RdOk s) (hp : 0 ≤ p) (hp' : p ≤ 900000) (hk : 1000003 ≤ k) :
    ∃ a b q, spec_l20Fraction.f k s p n = some (a, b, q) ∧ Drawn2 a b ∧ p ≤ q ∧ q ≤ p + 6 := by
  obtain ⟨k, rfl⟩ : ∃ m, k = m + 1 := ⟨k - 1, by omega⟩
  unfold spec_l20Fraction.f
  simp only [Option.bind_some]
  obtain ⟨v, hv, v0, v1, _⟩ := pick_f (k := k + 1) 4 hs hp (by omega) (by omega)
  have v1 := v1 (by omega)
  rw [hv]; simp only [Option.bind_some]
  rw [if_pos v0, if_pos (by simpa using v1)]
  have hm : 4 ≤ rd ([4, 10, 50, 1000] : List Int) v ∧ rd ([4, 10, 50, 1000] : List Int) v ≤ 1000 := by
    obtain ⟨m, rfl⟩ := Int.eq_ofNat_of_zero_le v0
    have : m = 0 ∨ m = 1 ∨ m = 2 ∨ m = 3 := by omega
    rcases this with rfl | rfl | rfl | rfl <;> decide
  generalize rd ([4, 10, 50, 1000] : List Int) v = m at *
  obtain ⟨x, hx, x0, x1, _⟩ := pick_f (k := k + 1) (p := p + 1) m hs (by omega) (by omega) (by omega)
  rw [hx]; simp only [Option.bind_some]
  obtain ⟨y, hy, y0, y1, _⟩ := pick_f (k := k + 1) (p := p + 1 + 1) m hs (by omega) (by omega) (by omega)
  rw [hy]; simp only [Option.bind_some]
  obtain ⟨z, hz, z0, z1, _⟩ := pick_f (k := k + 1) (p := p + 1 + 1 + 1) m hs (by omega) (by omega) (by omega)
  rw [hz]; simp only [Option.bind_some]
  rw [spec_LowestOf_f _ _ (by omega)]; simp only [Option.bind_some]
  have hj : ∀ a b, Drawn2 a b → ∃ a' b' q, spec_l20Fraction.j0 (k + 1) n s (p + 1 + 1 + 1 + 1) a b = some (a', b', q) ∧ Drawn2 a' b' ∧ p ≤ q ∧ q ≤ p + 6 := by
    intro a b hab
    simp only [spec_l20Fraction.j0]
    obtain ⟨o, q, ho, q0, q1⟩ := odd_f (k := k) (p := p + 1 + 1 + 1 + 1) n hs (by omega) (by omega) (by omega)
    rw [ho]; simp only [Option.bind_some]
    by_cases hc : o = true
    · rw [if_pos hc]
      obtain ⟨w, hw, w0, w1, _⟩ := pick_f (k := k) (p := q) 5 hs (by omega) (by omega) (by omega)
      have w1 := w1 (by omega)
      rw [hw]; simp only [Option.bind_some]
      rw [if_pos w0, if_pos (by simpa using w1)]
      refine ⟨_, _, _, rfl, ?_, by omega, by omega⟩
      obtain ⟨m, rfl⟩ := Int.eq_ofNat_of_zero_le w0
      have : m = 0 ∨ m = 1 ∨ m = 2 ∨ m = 3 ∨ m = 4 := by omega
      rcases this with rfl | rfl | rfl | rfl | rfl <;> (unfold Drawn2; decide)
    · rw [if_neg hc]; exact ⟨_, _, _, rfl, hab, by omega, by omega⟩
  have hb := lowofv_bd (wrap64 (x - y)) z
  split
  · exact hj _ _ ⟨by omega, by omega⟩
  · exact hj _ _ ⟨by omega, by omega⟩

-- drawtied
theorem l20Tied_f {s : List Int} {p : Int} {k : Nat} (hs : RdOk s) (hp : 0 ≤ p) (hp' : p ≤ 800000) (hk : 2000000 ≤ k) :
    ∃ a b q, spec_l20Tied.f k s p = some (a, b, q) ∧ p ≤ q ∧ q ≤ p + 100 := by
  unfold spec_l20Tied.f
  obtain ⟨o, q, ho, r0, r1⟩ := odd_f (k := k) (p := p) 9 hs (by omega) (by omega) (by omega)
  rw [ho]; simp only [Option.bind_some]
  split
  · obtain ⟨a, b, q', hf, hd, q0, q1⟩ := l20Fraction_f (k := k) (p := q) 3 hs (by omega) (by omega) (by omega)
    rw [hf]; simp only [Option.bind_some]
    exact ⟨a, b, q', rfl, by omega, by omega⟩
  · obtain ⟨w1, f1, _⟩ := pick_f (k := k) (p := q) 13 hs (by omega) (by omega) (by omega)
    rw [f1]; simp only [Option.bind_some]
    obtain ⟨w2, f2, _⟩ := pick_f (k := k) (p := q + 1) 13 hs (by omega) (by omega) (by omega)
    rw [f2]; simp only [Option.bind_some]
    obtain ⟨w3, f3, _⟩ := pick_f (k := k) (p := q + 1 + 1) 13 hs (by omega) (by omega) (by omega)
    rw [f3]; simp only [Option.bind_some]
    rw [spec_LowestOf_f _ _ (by omega)]; simp only [Option.bind_some]
    split
    · exact ⟨_, _, _, rfl, by omega, by omega⟩
    · exact ⟨_, _, _, rfl, by omega, by omega⟩

-- impl_isPart
theorem impl_isPart_f (a : Int) : impl_isPart.f a = some (decide (-1000000 ≤ a ∧ a ≤ 1000000)) := by
  unfold impl_isPart.f
  by_cases h : -1000000 ≤ a
  · rw [if_pos h]; exact dec_iff ⟨fun x => ⟨h, x⟩, fun x => x.2⟩
  · rw [if_neg h]; exact (dec_false (fun x => h x.1)).symm

-- impl_gcd
theorem impl_gcd_l0 (n : Nat) : ∀ (a b : Int), b.natAbs ≤ n → a.natAbs ≤ 9223372036854775807 → b.natAbs ≤ 9223372036854775807 → ∀ k, n < k → impl_gcd.l0 k a b = some (Int.gcd a b : Int) := by
  induction n with
  | zero =>
    intro a b hb ha _ k hk
    obtain ⟨k, rfl⟩ : ∃ m, k = m + 1 := ⟨k - 1, by omega⟩
    obtain rfl : b = 0 := by omega
    simp only [impl_gcd.l0]
    rw [if_pos trivial, mx_abs (by omega) (by omega), Int.gcd_zero_right]
  | succ n ih =>
    intro a b hb ha hb' k hk
    obtain ⟨k, rfl⟩ : ∃ m, k = m + 1 := ⟨k - 1, by omega⟩
    simp only [impl_gcd.l0]
    by_cases h : b = 0
    · subst h; rw [if_pos rfl, mx_abs (by omega) (by omega), Int.gcd_zero_right]
    · have := natAbs_tmod_lt a h
      rw [if_neg h, ih b (Int.tmod a b) (by omega) hb' (by omega) k (by omega), gcd_tmod]
theorem impl_gcd_f {a b : Int} {k : Nat} (ha : a.natAbs ≤ 9223372036854775807) (hb : b.natAbs ≤ 9223372036854775807) (hk : b.natAbs < k) : impl_gcd.f k a b = some (Int.gcd a b : Int) :=
  impl_gcd_l0 b.natAbs a b (Nat.le_refl _) ha hb k hk

-- impl_isFraction
theorem impl_isFraction_f (a b : Int) {k : Nat} (hk : 1000001 ≤ k) : impl_isFraction.f k a b = some (decide (Frac a b)) := by
  unfold impl_isFraction.f
  rw [impl_isPart_f]; simp only [Option.bind_some, decide_eq_true_eq]
  by_cases h1 : -1000000 ≤ a ∧ a ≤ 1000000
  · rw [if_pos h1]
    by_cases h2 : b < 0
    · rw [if_pos h2]; exact (dec_false (fun x => by have := x.2.1; omega)).symm
    · rw [if_neg h2]
      by_cases h2' : b > 1000000
      · rw [if_pos h2']; exact (dec_false (fun x => by have := x.2.1; omega)).symm
      · rw [if_neg h2', impl_gcd_f (by omega) (by omega) (by omega)]; simp only [Option.bind_some]
        have hb : (((Int.gcd a b : Nat) : Int) == 1) = decide (Int.gcd a b = 1) := by
          rw [Bool.eq_iff_iff]; simp; omega
        rw [hb]
        by_cases h4 : b = 0
        · rw [if_pos h4]
          by_cases h5 : a = 1
          · rw [if_pos h5]; exact dec_iff ⟨fun h => ⟨h1, by omega, h, fun _ => h5⟩, fun h => h.2.2.1⟩
          · rw [if_neg h5]; exact (dec_false (fun x => h5 (x.2.2.2 h4))).symm
        · rw [if_neg h4]; exact dec_iff ⟨fun h => ⟨h1, by omega, h, fun h' => absurd h' h4⟩, fun h => h.2.2.1⟩
  · rw [if_neg h1]; exact (dec_false (fun x => h1 x.1)).symm

-- small
def Small (a b m : Int) : Prop := Frac a b ∧ (-m ≤ a ∧ a ≤ m) ∧ b ≤ m
instance (a b m : Int) : Decidable (Small a b m) := by unfold Small; infer_instance

-- impl_isSmall
theorem impl_isSmall_f (a b m : Int) {k : Nat} (hk : 1000001 ≤ k) (hm : 0 ≤ m) (hm' : m ≤ 1000000) : impl_isSmall.f k a b m = some (decide (Small a b m)) := by
  unfold impl_isSmall.f
  rw [impl_isFraction_f a b hk]; simp only [Option.bind_some, decide_eq_true_eq]
  by_cases h : Frac a b
  · rw [if_pos h, wrap64_in (by omega) (by omega)]
    by_cases h1 : a ≥ -m
    · rw [if_pos h1]
      by_cases h2 : a ≤ m
      · rw [if_pos h2]; exact dec_iff ⟨fun x => ⟨h, ⟨h1, h2⟩, x⟩, fun x => x.2.2⟩
      · rw [if_neg h2]; exact (dec_false (fun x => h2 x.2.1.2)).symm
    · rw [if_neg h1]; exact (dec_false (fun x => h1 x.2.1.1)).symm
  · rw [if_neg h]; exact (dec_false (fun x => h x.1)).symm

-- spec_FractionOk
theorem spec_FractionOk_f (a b : Int) {k : Nat} (hk : 1000001 ≤ k) : spec_FractionOk.f k a b = some (decide (Frac a b)) := by
  unfold spec_FractionOk.f
  rw [spec_l1In_f]; simp only [Option.bind_some, decide_eq_true_eq]
  by_cases h1 : -1000000 ≤ a ∧ a ≤ 1000000
  · rw [if_pos h1, spec_l1In_f]; simp only [Option.bind_some, decide_eq_true_eq]
    by_cases h2 : 0 ≤ b ∧ b ≤ 1000000
    · rw [if_pos h2, spec_l1Common_f (by omega) (by omega) (by omega)]; simp only [Option.bind_some]
      by_cases h3 : Int.gcd a b = 1
      · rw [if_pos (by omega)]
        by_cases h4 : b > 0
        · rw [if_pos h4]; exact (dec_true ⟨h1, h2, h3, by omega⟩).symm
        · rw [if_neg h4]
          by_cases h5 : a = 1
          · rw [(dec_true ⟨h1, h2, h3, fun _ => h5⟩ : some (decide (Frac a b)) = _)]; simp [h5]
          · rw [(dec_false (fun x => h5 (x.2.2.2 (by omega))) : some (decide (Frac a b)) = _)]; simp [h5]
      · rw [if_neg (by omega)]; exact (dec_false (fun x => h3 x.2.2.1)).symm
    · rw [if_neg h2]; exact (dec_false (fun x => h2 x.2.1)).symm
  · rw [if_neg h1]; exact (dec_false (fun x => h1 x.1)).symm

-- bytes
theorem bt_drop {s : ByteArray} {i : Nat} (h : i < s.size) : ∃ c : UInt8, s.data.toList.drop i = c :: s.data.toList.drop (i + 1) ∧ bt s (i : Int) = ((c.toNat : Nat) : Int) := by
  have hl : i < s.data.toList.length := by simpa using h
  refine ⟨s.data.toList[i], List.drop_eq_getElem_cons hl, ?_⟩
  unfold bt
  rw [dif_pos (by simpa using h)]
  simp
  rfl
theorem drop_end {s : ByteArray} {i : Nat} (h : s.size ≤ i) : s.data.toList.drop i = [] := List.drop_of_length_le (by simpa using h)
theorem toList_length (s : ByteArray) : s.data.toList.length = s.size := by simp
theorem u8_eq {c : UInt8} {n : Nat} (hn : n < 256) : ((c.toNat : Nat) : Int) = (n : Int) ↔ c = UInt8.ofNat n := by
  constructor
  · intro h
    apply UInt8.toNat_inj.1
    rw [UInt8.toNat_ofNat']
    omega
  · intro h
    subst h
    rw [UInt8.toNat_ofNat']
    omega

-- dancemath
def MoveP (c : UInt8) : Prop := c = 84 ∨ c = 116 ∨ c = 82
instance (c : UInt8) : Decidable (MoveP c) := by unfold MoveP; infer_instance
def AllM (l : List UInt8) : Prop := ∀ c ∈ l, MoveP c
instance (l : List UInt8) : Decidable (AllM l) := by unfold AllM; infer_instance
theorem allM_nil : AllM [] := by intro c h; simp at h
theorem allM_cons (c : UInt8) (l : List UInt8) : AllM (c :: l) ↔ MoveP c ∧ AllM l := by unfold AllM; simp
/-- A dance: of at most 40 moves. -/
def DanceL (l : List UInt8) : Prop := l.length ≤ 40 ∧ AllM l
instance (l : List UInt8) : Decidable (DanceL l) := by unfold DanceL; infer_instance
def DanceP (s : ByteArray) : Prop := DanceL s.data.toList
instance (s : ByteArray) : Decidable (DanceP s) := by unfold DanceP; infer_instance

-- trimmath
theorem all_of_dropWhile {α : Type} (p : α → Bool) : ∀ l : List α, (∀ x ∈ l.dropWhile p, p x = true) → ∀ x ∈ l, p x = true
  | [], _ => fun x hx => by simp at hx
  | a :: l, h => by
    intro x hx
    by_cases ha : p a = true
    · rw [List.dropWhile_cons_of_pos ha] at h
      rcases List.mem_cons.1 hx with rfl | hx
      · exact ha
      · exact all_of_dropWhile p l h x hx
    · rw [List.dropWhile_cons_of_neg ha] at h
      exact h x hx
theorem dropWhile_nil_of_all {α : Type} (p : α → Bool) : ∀ l : List α, (∀ x ∈ l, p x = true) → l.dropWhile p = []
  | [], _ => rfl
  | a :: l, h => by
    rw [List.dropWhile_cons_of_pos (h a (by simp))]
    exact dropWhile_nil_of_all p l fun x hx => h x (by simp [hx])
theorem all_of_dropWhile_nil {α : Type} (p : α → Bool) : ∀ l : List α, l.dropWhile p = [] → ∀ x ∈ l, p x = true :=
  fun l h => all_of_dropWhile p l (by rw [h]; simp)
theorem trimS_nil (l cs : List UInt8) : Go.Lib.trimS l cs = [] ↔ ∀ c ∈ l, c ∈ cs := by
  unfold Go.Lib.trimS Go.Lib.trimLeftS Go.Lib.trimRightS
  constructor
  · intro h
    have h1 := all_of_dropWhile_nil _ _ h
    have h2 := all_of_dropWhile (cs.contains ·) l.reverse (fun x hx => h1 x (by simpa using hx))
    intro c hc
    simpa using h2 c (by simpa using hc)
  · intro h
    rw [dropWhile_nil_of_all (cs.contains ·) l.reverse (fun x hx => by simpa using h x (by simpa using hx))]
    rfl
theorem strings_Trim_f {s : ByteArray} {cs : List UInt8} (hs : s.size ≤ 100000000) (hl : cs.length < 4294967281) (ha : cs.all (fun b => decide (b.toNat < 128)) = true) :
    strings_Trim.f s ⟨⟨cs⟩⟩ = some ⟨⟨Go.Lib.trimS s.data.toList cs⟩⟩ := by
  unfold strings_Trim.f
  rw [if_pos ⟨by omega, by simpa [ByteArray.size] using hl, ha⟩]

-- impl_areMoves
theorem impl_areMoves_f (s : ByteArray) (hs : s.size ≤ 100000000) : impl_areMoves.f s = some (decide (AllM s.data.toList)) := by
  unfold impl_areMoves.f
  rw [strings_Trim_f hs (by decide) (by decide)]; simp only [Option.bind_some]
  have e : AllM s.data.toList ↔ Go.Lib.trimS s.data.toList [84, 116, 82] = [] := by
    rw [trimS_nil]; unfold AllM MoveP; simp
  by_cases h : AllM s.data.toList
  · rw [decide_eq_true h, e.1 h, ByteArray.toList_eq]; rfl
  · rw [decide_eq_false h]
    have h' : Go.Lib.trimS s.data.toList [84, 116, 82] ≠ [] := fun x => h (e.2 x)
    cases h2 : Go.Lib.trimS s.data.toList [84, 116, 82] with
    | nil => exact absurd h2 h'
    | cons a l => rw [ByteArray.toList_eq]; rfl

-- mirmath
theorem gcd_neg_left (a b : Int) : Int.gcd (-a) b = Int.gcd a b := by simp
theorem lowv_coprime {a b : Int} (h : Int.gcd a b = 1) : lowv a b = if b < 0 ∨ (b = 0 ∧ a < 0) then (-a, -b) else (a, b) := by
  unfold lowv; rw [h]; split <;> simp
/-- The fraction with the other sign. -/
def mirv (a b : Int) : Int × Int := if b > 0 then (-a, b) else (a, b)
theorem mir_frac {a b : Int} (h : Frac a b) : Frac (mirv a b).1 (mirv a b).2 := by
  unfold mirv; split
  · refine ⟨by have := h.1; simp; omega, h.2.1, by simpa using h.2.2.1, fun x => by omega⟩
  · exact h
theorem mir_low {a b : Int} (h : Frac a b) : lowofv (-a) b = ((mirv a b).1, (mirv a b).2, true) := by
  have h1 := h.1
  have h2 := h.2.1
  have hg := h.2.2.1
  have hz := h.2.2.2
  unfold lowofv
  rw [if_pos ⟨by omega, by omega, by omega⟩, lowv_coprime (by rw [gcd_neg_left]; exact hg)]
  unfold mirv
  by_cases hb : b > 0
  · rw [if_neg (by omega), if_pos hb]
  · have : b = 0 := by omega
    have := hz this
    rw [if_pos (by omega), if_neg hb]
    subst this; subst b; rfl

-- overmath
/-- A fraction turned over, with the other sign. -/
def overv (a b : Int) : Int × Int := if a ≤ 0 then (b, -a) else (-b, a)
theorem frac_zero {b : Int} (h : Frac 0 b) : b = 1 := by
  have h2 := h.2.1
  have h3 := h.2.2.1
  rw [Int.gcd_zero_left] at h3
  omega
theorem over_frac {a b : Int} (h : Frac a b) : Frac (overv a b).1 (overv a b).2 := by
  have h1 := h.1
  have h2 := h.2.1
  have h3 := h.2.2.1
  have h4 := h.2.2.2
  unfold overv
  split
  · refine ⟨by simp only; omega, by simp only; omega, by simp only; rw [Int.gcd_comm]; simpa using h3, ?_⟩
    simp only
    intro x
    obtain rfl : a = 0 := by omega
    exact frac_zero h
  · refine ⟨by simp only; omega, by simp only; omega, by simp only; rw [Int.gcd_comm]; simpa using h3, ?_⟩
    simp only
    intro x
    omega
theorem over_low {a b : Int} (h : Frac a b) : lowv (-b) a = overv a b := by
  have h2 := h.2.1
  have h3 := h.2.2.1
  have h4 := h.2.2.2
  rw [lowv_coprime (by rw [gcd_neg_left, Int.gcd_comm]; exact h3)]
  unfold overv
  by_cases h0 : a = 0
  · subst h0
    have := frac_zero h
    subst this
    decide
  · by_cases hn : a ≤ 0
    · rw [if_pos (by omega), if_pos hn]; simp
    · rw [if_neg (by omega), if_neg hn]
theorem over_lowof {a b : Int} (h : Frac a b) : lowofv (-b) a = ((overv a b).1, (overv a b).2, true) := by
  have h1 := h.1
  have h2 := h.2.1
  have h4 := h.2.2.2
  unfold lowofv
  rw [if_pos ⟨by omega, by omega, by omega⟩, over_low h]
theorem over_over {a b : Int} (h : Frac a b) : overv (overv a b).1 (overv a b).2 = (a, b) := by
  have h2 := h.2.1
  have h4 := h.2.2.2
  unfold overv
  by_cases hn : a ≤ 0
  · rw [if_pos hn]; simp only
    by_cases hb : b ≤ 0
    · exfalso; have := h4 (by omega); omega
    · rw [if_neg hb]; simp
  · rw [if_neg hn]; simp only; rw [if_pos (by omega)]; simp

-- nummath
theorem mul_bd {a b : Int} {m n : Nat} (h : a.natAbs ≤ m) (h' : b.natAbs ≤ n) : (a * b).natAbs ≤ m * n := by
  rw [Int.natAbs_mul]; exact Nat.mul_le_mul h h'
/-- NumberOf of two fractions. -/
def numv (a b c d : Int) : Int := if Small a b 1000 ∧ Small c d 1000 then (((a * d + c * b).natAbs : Nat) : Int) else -1
theorem num_value {a b c d : Int} (h : Small a b 1000) (h' : Small c d 1000) :
    mx (wrap64 ((wrap64 (a * d)) + (wrap64 (c * b)))) (wrap64 (-(wrap64 ((wrap64 (a * d)) + (wrap64 (c * b)))))) = (((a * d + c * b).natAbs : Nat) : Int) := by
  have h1 := mul_bd (a := a) (b := d) (m := 1000) (n := 1000) (by have := h.2.1; omega) (by have := h'.1.2.1; have := h'.2.2; omega)
  have h2 := mul_bd (a := c) (b := b) (m := 1000) (n := 1000) (by have := h'.2.1; omega) (by have := h.1.2.1; have := h.2.2; omega)
  rw [wrap64_in (n := a * d) (by omega) (by omega), wrap64_in (n := c * b) (by omega) (by omega), wrap64_in (n := a * d + c * b) (by omega) (by omega), mx_abs (by omega) (by omega)]

-- plusmath
def plusv (a b n : Int) : Int × Int × Bool := if Frac (a + n * b) b then (a + n * b, b, true) else (0, 0, false)
theorem plus_wrap {a b n : Int} (h : Frac a b) (hn : -1000000 ≤ n ∧ n ≤ 1000000) : wrap64 (a + wrap64 (n * b)) = a + n * b := by
  have h1 := mul_bd (a := n) (b := b) (m := 1000000) (n := 1000000) (by omega) (by have := h.2.1; omega)
  have h2 := h.1
  rw [wrap64_in (n := n * b) (by omega) (by omega), wrap64_in (by omega) (by omega)]

-- dancedmath
/-- A fraction after a move, and after moves, if each one on the way is one. -/
def dmove (f : Int × Int) (m : UInt8) : Option (Int × Int) :=
  if m = 84 then (if Frac (f.1 + f.2) f.2 then some (f.1 + f.2, f.2) else none) else if m = 116 then (if Frac (f.1 - f.2) f.2 then some (f.1 - f.2, f.2) else none) else some (overv f.1 f.2)
def dafter : List UInt8 → Int × Int → Option (Int × Int)
  | [], f => some f
  | m :: l, f => (dmove f m).bind (dafter l)
theorem dmove_frac {f g : Int × Int} {m : UInt8} (hf : Frac f.1 f.2) (h : dmove f m = some g) : Frac g.1 g.2 := by
  unfold dmove at h
  split at h
  · split at h
    · next hh => cases h; exact hh
    · cases h
  · split at h
    · split at h
      · next hh => cases h; exact hh
      · cases h
    · cases h; exact over_frac hf
theorem dafter_frac : ∀ {l : List UInt8} {f g : Int × Int}, Frac f.1 f.2 → dafter l f = some g → Frac g.1 g.2
  | [], f, g, hf, h => by cases h; exact hf
  | m :: l, f, g, hf, h => by
    simp only [dafter] at h
    cases hm : dmove f m with
    | none => rw [hm] at h; cases h
    | some x => rw [hm] at h; exact dafter_frac (dmove_frac hf hm) h
def dansw : Option (Int × Int) → Int × Int × Bool
  | some g => (g.1, g.2, true)
  | none => (0, 0, false)
/-- What DancedOf answers. -/
def dancedofv (s : ByteArray) : Int × Int × Bool := if DanceP s then dansw (dafter s.data.toList (0, 1)) else (0, 0, false)
/-- A pair of whole numbers after moves, with no limit and no sign turned. -/
def dim (u : Int × Int) (m : UInt8) : Int × Int := if m = 84 then (u.1 + u.2, u.2) else if m = 116 then (u.1 - u.2, u.2) else (u.2, -u.1)
def dint (l : List UInt8) (u : Int × Int) : Int × Int := l.foldl dim u
theorem dim_mul (s : Int) (u : Int × Int) (m : UInt8) : dim (s * u.1, s * u.2) m = (s * (dim u m).1, s * (dim u m).2) := by
  unfold dim
  split
  · simp only [Int.mul_add]
  · split
    · simp only [Int.mul_sub]
    · simp only [Int.mul_neg]
theorem dint_mul (s : Int) : ∀ (l : List UInt8) (u : Int × Int), dint l (s * u.1, s * u.2) = (s * (dint l u).1, s * (dint l u).2)
  | [], _ => rfl
  | m :: l, u => by
    show dint l (dim (s * u.1, s * u.2) m) = (s * (dint l (dim u m)).1, s * (dint l (dim u m)).2)
    rw [dim_mul, dint_mul s l (dim u m)]
theorem dafter_dint : ∀ (l : List UInt8) (f g : Int × Int), dafter l f = some g → ∀ e : Int, (e = 1 ∨ e = -1) → ∃ e' : Int, (e' = 1 ∨ e' = -1) ∧ dint l (e * f.1, e * f.2) = (e' * g.1, e' * g.2)
  | [], f, g, h, e, he => by cases h; exact ⟨e, he, rfl⟩
  | m :: l, f, g, h, e, he => by
    simp only [dafter] at h
    show ∃ e' : Int, (e' = 1 ∨ e' = -1) ∧ dint l (dim (e * f.1, e * f.2) m) = (e' * g.1, e' * g.2)
    rw [dim_mul]
    unfold dmove at h
    unfold dim
    split at h
    · next h1 =>
      rw [if_pos h1]
      split at h
      · exact dafter_dint l _ g h e he
      · cases h
    · next h1 =>
      rw [if_neg h1]
      split at h
      · next h2 =>
        rw [if_pos h2]
        split at h
        · exact dafter_dint l _ g h e he
        · cases h
      · next h2 =>
        rw [if_neg h2]
        simp only [Option.bind_some] at h
        unfold overv at h
        split at h
        · exact dafter_dint l _ g h e he
        · have := dafter_dint l _ g h (-e) (by omega)
          simp only [Int.neg_mul, Int.mul_neg, Int.neg_neg] at this ⊢
          exact this
/-- What a dance makes of the pair 0, 1, and of its fraction. -/
theorem danced_int {l : List UInt8} {g : Int × Int} (h : dafter l (0, 1) = some g) : ∃ e : Int, (e = 1 ∨ e = -1) ∧ dint l (0, 1) = (e * g.1, e * g.2) := by
  obtain ⟨e, he, h2⟩ := dafter_dint l (0, 1) g h 1 (.inl rfl)
  exact ⟨e, he, h2⟩

-- impl_plus
theorem impl_plus_f {a b n : Int} {k : Nat} (hk : 1000001 ≤ k) (h : Frac a b) (hn : -1000000 ≤ n ∧ n ≤ 1000000) : impl_plus.f k a b n = some (plusv a b n) := by
  unfold impl_plus.f
  rw [plus_wrap h hn, impl_isFraction_f _ _ hk]; simp only [Option.bind_some, decide_eq_true_eq]
  unfold plusv; split <;> rfl

-- impl_lowest
theorem impl_lowest_f {a b : Int} {k : Nat} (h : ¬ (a = 0 ∧ b = 0)) (ha : a.natAbs ≤ 1000000) (hb : b.natAbs ≤ 1000000) (hk : 1000001 ≤ k) : impl_lowest.f k a b = some (lowv a b) := by
  unfold impl_lowest.f
  rw [impl_gcd_f (by omega) (by omega) (by omega)]; simp only [Option.bind_some]
  have hg := gcd_ne h
  have hl := gcd_le_abs h
  rw [wrap64_in (n := -((Int.gcd a b : Nat) : Int)) (by omega) (by omega)]
  unfold lowv
  by_cases h1 : b < 0
  · rw [if_pos h1, if_neg (by omega), if_pos (.inl h1), tdiv_wrap (by omega), tdiv_wrap (by omega)]
  · rw [if_neg h1]
    by_cases h2 : b = 0
    · rw [if_pos h2]
      by_cases h3 : a < 0
      · rw [if_pos h3, if_neg (by omega), if_pos (.inr ⟨h2, h3⟩), tdiv_wrap (by omega), tdiv_wrap (by omega)]
      · rw [if_neg h3, if_neg (by omega), if_neg (by omega), tdiv_wrap (by omega), tdiv_wrap (by omega)]
    · rw [if_neg h2, if_neg (by omega), if_neg (by omega), tdiv_wrap (by omega), tdiv_wrap (by omega)]

-- impl_danced
theorem plus_one {a b : Int} : plusv a b 1 = dansw (if Frac (a + b) b then some (a + b, b) else none) := by
  unfold plusv; rw [Int.one_mul]; split <;> rfl
theorem plus_less {a b : Int} : plusv a b (-1) = dansw (if Frac (a - b) b then some (a - b, b) else none) := by
  unfold plusv; rw [show a + -1 * b = a - b by omega]; split <;> rfl
theorem impl_danced_l0 (s : ByteArray) (hs : s.size ≤ 40) (n : Nat) : ∀ (i : Nat) (f : Int × Int), i + n = s.size → Frac f.1 f.2 → ∀ k, n + 1000002 ≤ k →
    impl_danced.l0 k s (s.size : Int) (i : Int) f.1 f.2 = some (dansw (dafter (s.data.toList.drop i) f)) := by
  induction n with
  | zero =>
    intro i f hi hf k hk
    obtain ⟨k, rfl⟩ : ∃ m, k = m + 1 := ⟨k - 1, by omega⟩
    simp only [impl_danced.l0]
    rw [if_neg (by omega), drop_end (by omega)]; rfl
  | succ n ih =>
    intro i f hi hf k hk
    obtain ⟨k, rfl⟩ : ∃ m, k = m + 1 := ⟨k - 1, by omega⟩
    obtain ⟨m, hd, hb⟩ := bt_drop (s := s) (i := i) (by omega)
    have e1 : (((m.toNat : Nat) : Int) = 84) ↔ m = 84 := u8_eq (n := 84) (by omega)
    have e2 : (((m.toNat : Nat) : Int) = 116) ↔ m = 116 := u8_eq (n := 116) (by omega)
    obtain ⟨a, b⟩ := f
    have IH := fun g hg => ih (i + 1) g (by omega) hg k (by omega)
    simp only at hf
    simp only [impl_danced.l0]
    rw [if_pos (by omega), if_pos (by omega), if_pos (by omega), hb, hd, wrap64_in (n := (i : Int) + 1) (by omega) (by omega), show ((i : Int) + 1) = ((i + 1 : Nat) : Int) by omega]
    simp only [dafter]
    unfold dmove
    simp only
    by_cases h1 : m = 84
    · rw [if_pos (e1.2 h1), if_pos h1, impl_plus_f (by omega) hf (by omega), plus_one]; simp only [Option.bind_some]
      by_cases hp : Frac (a + b) b
      · rw [if_pos hp]; simp only [dansw, Option.bind_some]
        exact IH (a + b, b) hp
      · rw [if_neg hp]; rfl
    · rw [if_neg (fun x => h1 (e1.1 x)), if_neg h1]
      by_cases h2 : m = 116
      · rw [if_pos (e2.2 h2), if_pos h2, impl_plus_f (by omega) hf (by omega), plus_less]; simp only [Option.bind_some]
        by_cases hp : Frac (a - b) b
        · rw [if_pos hp]; simp only [dansw, Option.bind_some]
          exact IH (a - b, b) hp
        · rw [if_neg hp]; rfl
      · have g1 := hf.1
        have g2 := hf.2.1
        have g4 := hf.2.2.2
        rw [if_neg (fun x => h2 (e2.1 x)), if_neg h2, wrap64_in (n := -b) (by omega) (by omega), impl_lowest_f (by omega) (by omega) (by omega) (by omega), over_low hf]; simp only [Option.bind_some]
        exact IH (overv a b) (over_frac hf)
theorem impl_danced_f (s : ByteArray) (hs : s.size ≤ 40) {a b : Int} (hf : Frac a b) {k : Nat} (hk : 1000100 ≤ k) : impl_danced.f k a b s = some (dansw (dafter s.data.toList (a, b))) := by
  unfold impl_danced.f
  have := impl_danced_l0 s hs s.size 0 (a, b) (by omega) hf k (by omega)
  rw [List.drop_zero] at this
  exact this

-- twistsmath
/-- The twists of a dance: its moves other than turns. -/
def twistsL : List UInt8 → Nat
  | [] => 0
  | c :: l => (if c = 82 then 0 else 1) + twistsL l
theorem twistsL_le (l : List UInt8) : twistsL l ≤ l.length := by
  induction l with
  | nil => simp [twistsL]
  | cons c l ih => simp only [twistsL, List.length_cons]; split <;> omega
theorem twistsL_count (l : List UInt8) : twistsL l + l.count 82 = l.length := by
  induction l with
  | nil => rfl
  | cons c l ih =>
    simp only [twistsL, List.length_cons, List.count_cons]
    by_cases h : c = 82
    · subst h; simp; omega
    · rw [if_neg h, if_neg (by simpa using h)]; omega
/-- What TwistsIn answers. -/
def twistsv (s : ByteArray) : Int := if DanceP s then (twistsL s.data.toList : Int) else -1

-- alive
theorem alive_f {k : Nat} (hk : 1000001 ≤ k) : laws_alive.f k = some true := by
  unfold laws_alive.f impl_FractionOk.f
  simp only [impl_isFraction_f _ _ hk, Option.bind_some]
  rw [if_pos (by decide)]
  congr 1

def cdB (a b : Int) : Bool :=
  match impl_ClosestDance.f 300 a b, spec_ClosestDance.f 300 a b with
  | some (r, t), some (r', t') => decide (r = r') && decide (t = t') && (if t then decide (r.size ≤ 40) && r.data.toList.all (fun c => c == 84 || c == 116 || c == 82) && impl_danced.f 300 0 1 r == some (a, b, true) && impl_CrossingsOf.f 300 a b == some ((twistsL r.data.toList : Nat) : Int) else decide (r = ⟨#[]⟩))
  | _, _ => false
theorem cdB_all : ∀ a ∈ List.range 25, ∀ b ∈ List.range 13, cdB ((a : Int) - 12) (b : Int) = true := by
  decide +kernel
theorem lift_ {α : Type} {f : Nat → Option α} (h : ∀ k, LeO (f k) (f (k + 1))) {r : α} {n : Nat} (e : f n = some r) : ∀ k, n ≤ k → f k = some r := by
  intro k hk
  induction hk with
  | refl => exact e
  | step _ ih => exact h _ _ ih
theorem cd_spec {a b : Int} (h : ¬ ((-12 ≤ a ∧ a ≤ 12) ∧ (0 ≤ b ∧ b ≤ 12))) {k : Nat} (hk : 2000000 ≤ k) : spec_ClosestDance.f k a b = some ((⟨#[]⟩ : ByteArray), false) := by
  have j : ∀ x : Bool, x = true → spec_ClosestDance.j0 k x a b = some ((⟨#[]⟩ : ByteArray), false) := by
    intro x hx
    obtain ⟨k, rfl⟩ : ∃ m, k = m + 1 := ⟨k - 1, by omega⟩
    rw [hx]
    simp only [spec_ClosestDance.j0]
    rw [if_pos trivial]
  unfold spec_ClosestDance.f
  rw [spec_FractionOk_f a b (by omega)]; simp only [Option.bind_some, decide_eq_true_eq]
  by_cases hF : Frac a b
  · have h2 := hF.2.1
    rw [if_pos hF, spec_l1In_f]; simp only [Option.bind_some, decide_eq_true_eq]
    by_cases h1 : -12 ≤ a ∧ a ≤ 12
    · rw [if_pos h1]; exact j _ (decide_eq_true (by omega))
    · rw [if_neg h1]; exact j _ rfl
  · rw [if_neg hF]; exact j _ rfl
theorem cd_impl {a b : Int} (h : ¬ ((-12 ≤ a ∧ a ≤ 12) ∧ (0 ≤ b ∧ b ≤ 12))) {k : Nat} (hk : 2000000 ≤ k) : impl_ClosestDance.f k a b = some ((⟨#[]⟩ : ByteArray), false) := by
  unfold impl_ClosestDance.f
  rw [impl_isSmall_f a b 12 (by omega) (by omega) (by omega)]; simp only [Option.bind_some, decide_eq_true_eq]
  rw [if_neg (fun x => h ⟨x.2.1, x.1.2.1.1, x.2.2⟩)]
theorem long_f {a b : Int} {r : ByteArray} {k : Nat} (hk : 2000000 ≤ k) (hs : r.size ≤ 40) (hm : AllM r.data.toList) (hd : impl_danced.f k 0 1 r = some (a, b, true)) : impl_LongFrom.f k 0 1 r = some (a, b, true) := by
  unfold impl_LongFrom.f
  rw [impl_isSmall_f 0 1 1000 (by omega) (by omega) (by omega)]; simp only [Option.bind_some, decide_eq_true_eq]
  rw [if_pos (by decide), if_neg (by omega), impl_areMoves_f r (by omega)]; simp only [Option.bind_some, decide_eq_true_eq]
  rw [if_pos hm, hd]; rfl
theorem cl_l0 {a b : Int} {r : ByteArray} (hs : r.size ≤ 40) (hL : ∀ k, 2000000 ≤ k → impl_LongFrom.f k 0 1 r = some (a, b, true)) (hC : ∀ k, 2000000 ≤ k → impl_CrossingsOf.f k a b = some ((twistsL r.data.toList : Nat) : Int)) (n : Nat) :
    ∀ (i c : Nat), i + n = r.size → c ≤ i → c + twistsL (r.data.toList.drop i) = twistsL r.data.toList → ∀ k, 2000000 + n < k → laws_FnClosestDance.l0 k r (c : Int) (i : Int) a b = some true := by
  induction n with
  | zero =>
    intro i c hi hc he k hk
    obtain ⟨k, rfl⟩ : ∃ m, k = m + 1 := ⟨k - 1, by omega⟩
    rw [drop_end (by omega)] at he
    simp only [laws_FnClosestDance.l0]
    rw [if_neg (by omega), hL k (by omega)]; simp only [Option.bind_some]
    rw [if_pos trivial, if_pos (by simp), hC k (by omega)]; simp only [Option.bind_some]
    simp only [twistsL] at he
    rw [show c = twistsL r.data.toList by omega]; simp
  | succ n ih =>
    intro i c hi hc he k hk
    obtain ⟨k, rfl⟩ : ∃ m, k = m + 1 := ⟨k - 1, by omega⟩
    obtain ⟨x, hd, hb⟩ := bt_drop (s := r) (i := i) (by omega)
    have e1 : (((x.toNat : Nat) : Int) = 82) ↔ x = 82 := u8_eq (n := 82) (by omega)
    rw [hd] at he
    simp only [twistsL] at he
    simp only [laws_FnClosestDance.l0]
    rw [if_pos (by omega), if_pos (by omega), hb, wrap64_in (n := (i : Int) + 1) (by omega) (by omega), wrap64_in (n := (c : Int) + 1) (by omega) (by omega), show ((i : Int) + 1) = ((i + 1 : Nat) : Int) by omega, show ((c : Int) + 1) = ((c + 1 : Nat) : Int) by omega]
    by_cases h : x = 82
    · rw [if_pos (e1.2 h)]
      rw [if_pos h] at he
      exact ih (i + 1) c (by omega) (by omega) (by omega) k (by omega)
    · rw [if_neg (fun y => h (e1.1 y))]
      rw [if_neg h] at he
      exact ih (i + 1) (c + 1) (by omega) (by omega) (by omega) k (by omega)
theorem cd_none {r : ByteArray} (hr : r = ⟨#[]⟩) (a b : Int) {k : Nat} (hk : 2000001 ≤ k) : laws_FnClosestDance.j0 k r false false a b = some true := by
  obtain ⟨k, rfl⟩ : ∃ m, k = m + 1 := ⟨k - 1, by omega⟩
  subst hr
  simp only [laws_FnClosestDance.j0]
  rw [if_neg (by decide), if_neg (by decide), if_pos (by rw [ByteArray.toList_eq]), alive_f (by omega)]; rfl
theorem FnClosestDance : laws_FnClosestDance.Pure := by
  intro l _ _ hw
  refine ⟨3000000, ?_⟩
  unfold laws_FnClosestDance.f
  refine ite_to (fun _ => rfl) (fun _ => ?_)
  have hd : ∃ a b, spec_DrawClosestDance.f 3000000 l = some (a, b) := by
    unfold spec_DrawClosestDance.f
    obtain ⟨s, hs, hr⟩ := open_f hw
    rw [hs]; simp only [Option.bind_some]
    obtain ⟨a, b, q, hf, _, _⟩ := l20Tied_f (k := 3000000) (p := 0) hr (by omega) (by omega) (by omega)
    rw [hf]; exact ⟨a, b, rfl⟩
  obtain ⟨a, b, hd⟩ := hd
  rw [hd]; simp only [Option.bind_some]
  by_cases hs : (-12 ≤ a ∧ a ≤ 12) ∧ (0 ≤ b ∧ b ≤ 12)
  · have h := cdB_all (a + 12).toNat (List.mem_range.2 (by omega)) b.toNat (List.mem_range.2 (by omega))
    rw [show (((a + 12).toNat : Nat) : Int) - 12 = a by omega, show ((b.toNat : Nat) : Int) = b by omega] at h
    unfold cdB at h
    cases hi : impl_ClosestDance.f 300 a b with
    | none => rw [hi] at h; cases h
    | some x =>
      obtain ⟨r, t⟩ := x
      cases hp : spec_ClosestDance.f 300 a b with
      | none => rw [hi, hp] at h; cases h
      | some y =>
        obtain ⟨r', t'⟩ := y
        rw [hi, hp] at h
        simp only [Bool.and_eq_true, decide_eq_true_eq] at h
        obtain ⟨⟨rfl, rfl⟩, h⟩ := h
        rw [lift_ (impl_ClosestDance.mono a b) hi 3000000 (by omega), lift_ (spec_ClosestDance.mono a b) hp 3000000 (by omega)]; simp only [Option.bind_some]
        rw [if_pos trivial]
        cases t with
        | false =>
          rw [if_neg (by decide)] at h
          exact cd_none (by simpa using h) a b (by omega)
        | true =>
          rw [if_pos rfl] at h
          simp only [Bool.and_eq_true, beq_iff_eq, decide_eq_true_eq] at h
          obtain ⟨⟨⟨h1, h2⟩, h3⟩, h4⟩ := h
          have hm : AllM r.data.toList := by
            intro c hc
            have := List.all_eq_true.1 h2 c hc
            simp only [Bool.or_eq_true, beq_iff_eq] at this
            rcases this with (h | h) | h
            · exact .inl h
            · exact .inr (.inl h)
            · exact .inr (.inr h)
          have e : (3000000 : Nat) = 2999999 + 1 := rfl
          rw [e]
          simp only [laws_FnClosestDance.j0]
          rw [if_neg (by decide), if_pos trivial]
          exact cl_l0 h1 (fun k hk => long_f hk h1 hm (lift_ (impl_danced.mono 0 1 r) h3 k (by omega))) (fun k hk => lift_ (impl_CrossingsOf.mono a b) h4 k (by omega)) r.size 0 0 (by omega) (by omega) (by simp) 2999999 (by omega)
  · rw [cd_impl hs (by omega), cd_spec hs (by omega)]; simp only [Option.bind_some]
    rw [if_pos trivial]
    exact cd_none rfl a b (by omega)

end Go.Proofs.YtgbnlaalfebaeaaGreatDoor.Pure
