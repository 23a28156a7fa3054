/- FnDeskLine: DeskLine answers as the reference's does; the desk after a line to a desk is one; unless the answer is ok it is the desk before; an empty line is answered by what; at every draw. -/
import Derived.Lib.AtoiAll
import Derived.Lib.AtoiTie
import Derived.Lib.IndexMore
import Derived.Lib.ItoaNum
import Derived.Lib.Join
import Derived.Test.YtofmlbgfcohhoaaGreatDoorPFnDeskLinex0
import Derived.Test.YtofmlbgfcohhoaaGreatDoorPFnDeskLinex4
import Derived.Test.YtofmlbgfcohhoaaGreatDoorPFnDeskLinex6
import Derived.Test.YtofmlbgfcohhoaaGreatDoorPFnDeskLinex8
import Derived.Test.YtofmlbgfcohhoaaGreatDoorPFnDeskLinex9
import Derived.Test.YtofmlbgfcohhoaaGreatDoorPFnDeskLinex11
import Derived.Test.YtofmlbgfcohhoaaGreatDoorPFnDeskLinex13
import Derived.Test.YtofmlbgfcohhoaaGreatDoorPFnDeskLinex16
import Derived.Test.YtofmlbgfcohhoaaGreatDoorPFnDeskLinex18
import Derived.Test.YtofmlbgfcohhoaaGreatDoorPFnDeskLinex20
import Derived.Test.YtofmlbgfcohhoaaGreatDoorPFnDeskLinex21
import Derived.Test.YtofmlbgfcohhoaaGreatDoorPFnDeskLinex22
import Derived.Test.YtofmlbgfcohhoaaGreatDoorPFnDeskLinex23
import Derived.Test.YtofmlbgfcohhoaaGreatDoorPFnDeskLinex25
import Derived.Test.YtofmlbgfcohhoaaGreatDoorPFnDeskLinex26
import Derived.Test.YtofmlbgfcohhoaaGreatDoorPFnDeskLinex28
import Derived.Test.YtofmlbgfcohhoaaGreatDoorCFnDeskLine
set_option linter.unusedVariables false
set_option linter.unusedSimpArgs false
namespace Go.Proofs.YtofmlbgfcohhoaaGreatDoor.Pure
open Go.RowKit Go.Proofs.YtofmlbgfcohhoaaGreatDoor.PFnDeskLine Go.Proofs.YtofmlbgfcohhoaaGreatDoorW.PrintWords Go.Proofs.YtofmlbgfcohhoaaGreatDoorW.PrintLast Go.Proofs.YtofmlbgfcohhoaaGreatDoorW.PrintMore Go.Proofs.YtofmlbgfcohhoaaGreatDoor.Lib

theorem wrap64_in {n : Int} (h : -9223372036854775808 ≤ n) (h' : n ≤ 9223372036854775807) : wrap64 n = n := by unfold wrap64; omega
theorem dec_true {p : Prop} [Decidable p] (h : p) : some (decide p) = some true := by simp [h]
theorem dec_false {p : Prop} [Decidable p] (h : ¬ p) : some (decide p) = some false := by simp [h]
theorem dec_iff {p q : Prop} [Decidable p] [Decidable q] (h : p ↔ q) : some (decide p) = some (decide q) := by simp [h]
theorem ite_to {c : Prop} [Decidable c] {α : Type} {x y z : α} (h1 : c → x = z) (h2 : ¬ c → y = z) : (if c then x else y) = z := by
 by_cases h : c
 ·rw [if_pos h]; exact h1 h
 ·rw [if_neg h]; exact h2 h
theorem natAbs_tmod_lt (a : Int) {b : Int} (h : b ≠ 0) : (Int.tmod a b).natAbs < b.natAbs := by
 rw [Int.natAbs_tmod]
 exact Nat.mod_lt _ (by omega)
theorem gcd_tmod (a b : Int) : Int.gcd b (Int.tmod a b) = Int.gcd a b := by
 unfold Int.gcd
 rw [Int.natAbs_tmod, Nat.gcd_comm a.natAbs, Nat.gcd_rec b.natAbs a.natAbs, Nat.gcd_comm]
theorem mx_abs {a : Int} (h : -9223372036854775808 < a) (h' : a ≤ 9223372036854775807) : mx a (wrap64 (-a)) = (a.natAbs : Int) := by
 rw [wrap64_in (by omega) (by omega)]; unfold mx; split <;> omega
def RdOk (s : List Int) : Prop := s.length ≤ 2000 ∧ ∀ x ∈ s, 0 ≤ x ∧ x ≤ 255
theorem rd_bd {s : List Int} (h : RdOk s) (i : Int) : 0 ≤ rd s i ∧ rd s i ≤ 255 := by
 unfold rd
 by_cases hi : i.toNat < s.length
 ·have e : s.getD i.toNat 0 = s[i.toNat] := by simp [hi]
  rw [e]; exact h.2 _ (List.getElem_mem hi)
 ·have e : s.getD i.toNat 0 = 0 := by simp; rw [List.getElem?_eq_none (by omega)]; rfl
  rw [e]; omega
theorem xor_nonneg {x y : Int} (hx : 0 ≤ x) (hx' : x < 4611686018427387904) (hy : 0 ≤ y) (hy' : y < 4611686018427387904) : 0 ≤ Go.bits .xor .i64 x y := by
 unfold Go.bits
 simp only
 obtain ⟨a, rfl⟩ := Int.eq_ofNat_of_zero_le hx
 obtain ⟨b, rfl⟩ := Int.eq_ofNat_of_zero_le hy
 have h64 : IntKind.i64.bits = 64 := rfl
 rw [BitVec.toNat_xor]
 have ea : (BitVec.ofInt IntKind.i64.bits (a : Int)).toNat = a := by
  rw [BitVec.toNat_ofInt, h64]; omega
 have eb : (BitVec.ofInt IntKind.i64.bits (b : Int)).toNat = b := by
  rw [BitVec.toNat_ofInt, h64]; omega
 rw [ea, eb]
 have hl : a ^^^ b < 2 ^ 62 := Nat.xor_lt_two_pow (by omega) (by omega)
 generalize a ^^^ b = c at *
 have : IntKind.i64.wrap (c : Int) = wrap64 (c : Int) := by
  simp [IntKind.wrap, wrap64, IntKind.signed, IntKind.bits]
  try omega
 rw [this, wrap64_in (by omega) (by omega)]
 omega
theorem tmod_range {x n : Int} (hx : 0 ≤ x) (hn : 1 ≤ n) : 0 ≤ Int.tmod x n ∧ Int.tmod x n < n := by
 rw [Int.tmod_eq_emod_of_nonneg hx]
 exact ⟨Int.emod_nonneg _ (by omega), Int.emod_lt_of_pos _ (by omega)⟩
theorem pick_f {s : List Int} {p : Int} (n : Int) {k : Nat} (hs : RdOk s) (hp : 0 ≤ p) (hp' : p ≤ 1000000) (hk : 1 ≤ k) :
  ∃ v, spec_l20Rd_pick.f k s p n = some (v, p + 1) ∧ 0 ≤ v ∧ (1 ≤ n → v < n) ∧ (n < 1 → v = 0) := by
 obtain ⟨k, rfl⟩ : ∃ m, k = m + 1 := ⟨k - 1, by omega⟩
 unfold spec_l20Rd_pick.f
 rw [wrap64_in (n := p + 1) (by omega) (by omega)]
 by_cases hn : n < 1
 ·rw [if_pos hn]; simp only [spec_l20Rd_pick.j0]; rw [if_pos trivial]
  exact ⟨0, rfl, by omega, by omega, fun _ => rfl⟩
 ·rw [if_neg hn]
  by_cases hl : (s.length : Int) = 0
  ·rw [show ((s.length : Int) == 0) = true by simpa using hl]; simp only [spec_l20Rd_pick.j0]; rw [if_pos trivial]
   exact ⟨0, rfl, by omega, by omega, fun _ => rfl⟩
  ·rw [show ((s.length : Int) == 0) = false by simpa using hl]; simp only [spec_l20Rd_pick.j0]; rw [if_neg (by decide)]
   have hlen := hs.1
   rw [show p + 1 - 1 = p by omega, wrap64_in (n := p) (by omega) (by omega)]
   by_cases h1 : p < (s.length : Int)
   ·have hb := rd_bd hs p
    rw [if_pos h1, if_pos hp, if_neg (by omega), wrap64_in (by omega) (by omega)]
    have ht := tmod_range (n := n) hb.1 (by omega)
    exact ⟨_, rfl, ht.1, fun _ => ht.2, fun x => absurd x hn⟩
   ·have t1 := tmod_range (x := p) (n := (s.length : Int)) hp (by omega)
    have t2 := tmod_range (x := p * 7 + 3) (n := (s.length : Int)) (by omega) (by omega)
    rw [if_neg h1, if_neg hl, if_pos t1.1, if_pos t1.2, wrap64_in (n := p * 7) (by omega) (by omega), wrap64_in (n := p * 7 + 3) (by omega) (by omega), if_pos t2.1, if_pos t2.2, if_neg (by omega)]
    have b1 := rd_bd hs (Int.tmod p (s.length : Int))
    have b2 := rd_bd hs (Int.tmod (p * 7 + 3) (s.length : Int))
    generalize rd s (Int.tmod p (s.length : Int)) = r1 at *
    generalize rd s (Int.tmod (p * 7 + 3) (s.length : Int)) = r2 at *
    have q1 : 0 ≤ Int.tdiv p (s.length : Int) ∧ Int.tdiv p (s.length : Int) ≤ p := by
     obtain ⟨a, rfl⟩ := Int.eq_ofNat_of_zero_le hp
     rw [Int.tdiv_eq_ediv_of_nonneg (by omega), ← Int.natCast_ediv]
     have := Nat.div_le_self a s.length
     exact ⟨Int.natCast_nonneg _, by exact_mod_cast this⟩
    generalize Int.tdiv p (s.length : Int) = q at *
    rw [wrap64_in (n := r1) (by omega) (by omega), wrap64_in (n := r1 * 131) (by omega) (by omega), wrap64_in (n := r2) (by omega) (by omega), wrap64_in (n := r2 * 1117) (by omega) (by omega), wrap64_in (n := r1 * 131 + r2 * 1117) (by omega) (by omega), wrap64_in (n := p * 29) (by omega) (by omega), wrap64_in (n := q) (by omega) (by omega), wrap64_in (n := q * 53) (by omega) (by omega), wrap64_in (n := r1 * 131 + r2 * 1117 + p * 29) (by omega) (by omega), wrap64_in (n := r1 * 131 + r2 * 1117 + p * 29 + q * 53) (by omega) (by omega)]
    generalize hX : r1 * 131 + r2 * 1117 + p * 29 + q * 53 = X
    have hX0 : 0 ≤ X := by omega
    have hX1 : X ≤ 1000000000 := by omega
    have d1 : 0 ≤ Int.tdiv X 64 ∧ Int.tdiv X 64 ≤ X := by
     rw [Int.tdiv_eq_ediv_of_nonneg hX0]; omega
    rw [wrap64_in (n := Int.tdiv X 64) (by omega) (by omega)]
    have hx := xor_nonneg (x := X) (y := Int.tdiv X 64) hX0 (by omega) d1.1 (by omega)
    have ht := tmod_range (n := n) hx (by omega)
    exact ⟨_, rfl, ht.1, fun _ => ht.2, fun x => absurd x hn⟩
theorem u8_of_wf {n : Int} (h : (Lit.int .u8 n).wf = true) : 0 ≤ n ∧ n ≤ 255 := by
 simpa [Lit.wf, IntKind.min, IntKind.max, IntKind.signed, IntKind.bits] using h
theorem open_f {l : List Int} (h : ∀ x ∈ l, (Lit.int .u8 x).wf = true) : ∃ s, spec_l20Open.f l = some (s, 0) ∧ RdOk s := by
 unfold spec_l20Open.f
 by_cases hl : (l.length : Int) > 2000
 ·rw [if_pos hl, if_pos (by omega)]
  exact ⟨_, rfl, by rw [List.length_take]; omega, fun x hx => u8_of_wf (h x (List.mem_of_mem_take hx))⟩
 ·rw [if_neg hl]
  exact ⟨_, rfl, by omega, fun x hx => u8_of_wf (h x hx)⟩
theorem odd_f {s : List Int} {p : Int} (n : Int) {k : Nat} (hs : RdOk s) (hp : 0 ≤ p) (hp' : p ≤ 1000000) (hk : 1 ≤ k) :
  ∃ v q, spec_l20Rd_odd.f k s p n = some (v, q) ∧ p ≤ q ∧ q ≤ p + 1 := by
 unfold spec_l20Rd_odd.f
 by_cases h : n > 0
 ·rw [if_pos h]
  obtain ⟨v, hv, _⟩ := pick_f n hs hp hp' hk
  rw [hv]; simp only [Option.bind_some]
  exact ⟨_, _, rfl, by omega, by omega⟩
 ·rw [if_neg h]; exact ⟨_, _, rfl, by omega, by omega⟩
def Frac (a b : Int) : Prop := (-1000000 ≤ a ∧ a ≤ 1000000) ∧ (0 ≤ b ∧ b ≤ 1000000) ∧ Int.gcd a b = 1 ∧ (b = 0 → a = 1)
instance (a b : Int) : Decidable (Frac a b) := by unfold Frac; infer_instance
def lowv (a b : Int) : Int × Int := if b < 0 ∨ (b = 0 ∧ a < 0) then (Int.tdiv a (-(Int.gcd a b : Int)), Int.tdiv b (-(Int.gcd a b : Int))) else (Int.tdiv a (Int.gcd a b : Int), Int.tdiv b (Int.gcd a b : Int))
theorem gcd_ne {a b : Int} (h : ¬ (a = 0 ∧ b = 0)) : Int.gcd a b ≠ 0 := by
 intro x; rw [Int.gcd_eq_zero_iff] at x; exact h x
theorem tdiv_wrap {a g : Int} (h : a.natAbs ≤ 9223372036854775807) : wrap64 (Int.tdiv a g) = Int.tdiv a g := by
 have := Nat.div_le_self a.natAbs g.natAbs
 have e : (Int.tdiv a g).natAbs = a.natAbs / g.natAbs := Int.natAbs_tdiv a g
 rw [← e] at this
 exact wrap64_in (by omega) (by omega)
theorem gcd_le_abs {a b : Int} (h : ¬ (a = 0 ∧ b = 0)) : (Int.gcd a b) ≤ a.natAbs + b.natAbs := by
 by_cases ha : a = 0
 ·subst ha; rw [Int.gcd_zero_left]; omega
 ·have := Int.gcd_le_natAbs_left (b := b) ha; omega
def LowOk (a b : Int) : Prop := (-1000000 ≤ a ∧ a ≤ 1000000) ∧ (-1000000 ≤ b ∧ b ≤ 1000000) ∧ ¬ (a = 0 ∧ b = 0)
instance (a b : Int) : Decidable (LowOk a b) := by unfold LowOk; infer_instance
def lowofv (a b : Int) : Int × Int × Bool := if LowOk a b then ((lowv a b).1, (lowv a b).2, true) else (0, 0, false)
theorem spec_l1Common_l0 (n : Nat) : ∀ (a b : Int), b.natAbs ≤ n → 0 ≤ a → 0 ≤ b → ∀ k, n < k → spec_l1Common.l0 k a b = some (Int.gcd a b : Int) := by
 induction n with
 | zero =>
  intro a b hb ha _ k hk
  obtain ⟨k, rfl⟩ : ∃ m, k = m + 1 := ⟨k - 1, by omega⟩
  obtain rfl : b = 0 := by omega
  simp only [spec_l1Common.l0]
  rw [if_neg (by omega), Int.gcd_zero_right]
  congr 1; omega
 | succ n ih =>
  intro a b hb ha hb' k hk
  obtain ⟨k, rfl⟩ : ∃ m, k = m + 1 := ⟨k - 1, by omega⟩
  simp only [spec_l1Common.l0]
  by_cases h : b = 0
  ·subst h; rw [if_neg (by omega), Int.gcd_zero_right]; congr 1; omega
  ·have := natAbs_tmod_lt a h
   rw [if_pos (by omega), if_neg h, ih b (Int.tmod a b) (by omega) hb' (Int.tmod_nonneg _ ha) k (by omega), gcd_tmod]
theorem spec_l1Common_f {a b : Int} {k : Nat} (ha : a.natAbs ≤ 9223372036854775807) (hb : b.natAbs ≤ 9223372036854775807) (hk : b.natAbs < k) : spec_l1Common.f k a b = some (Int.gcd a b : Int) := by
 unfold spec_l1Common.f
 rw [mx_abs (by omega) (by omega), mx_abs (by omega) (by omega), spec_l1Common_l0 b.natAbs _ _ (by omega) (by omega) (by omega) k hk]
 rfl
theorem spec_l1In_f (a b c : Int) : spec_l1In.f a b c = some (decide (b ≤ a ∧ a ≤ c)) := by
 unfold spec_l1In.f
 by_cases h : b ≤ a
 ·rw [if_pos h]; exact dec_iff ⟨fun x => ⟨h, x⟩, fun x => x.2⟩
 ·rw [if_neg h]; exact (dec_false (fun x => h x.1)).symm
theorem spec_LowestOf_f (a b : Int) {k : Nat} (hk : 1000002 ≤ k) : spec_LowestOf.f k a b = some (lowofv a b) := by
 obtain ⟨k, rfl⟩ : ∃ m, k = m + 1 := ⟨k - 1, by omega⟩
 unfold spec_LowestOf.f
 simp only [spec_l1In_f, Option.bind_some, decide_eq_true_eq]
 unfold lowofv
 by_cases h : LowOk a b
 ·rw [if_pos h.1, if_pos h.2.1, if_pos h]
  have e : (if a = 0 then spec_LowestOf.j0 (k + 1) a b (b == 0) else spec_LowestOf.j0 (k + 1) a b false) = spec_LowestOf.j0 (k + 1) a b false := by
   by_cases h3 : a = 0
   ·rw [if_pos h3, show (b == 0) = false from by simp; exact fun x => h.2.2 ⟨h3, x⟩]
   ·rw [if_neg h3]
  rw [e]
  have h1 := h.1
  have h2 := h.2.1
  simp only [spec_LowestOf.j0]
  rw [if_neg (by decide), spec_l1Common_f (by omega) (by omega) (by omega)]; simp only [Option.bind_some]
  have hg := gcd_ne h.2.2
  have hl := gcd_le_abs h.2.2
  rw [wrap64_in (n := -((Int.gcd a b : Nat) : Int)) (by omega) (by omega)]
  unfold lowv
  by_cases h1 : b < 0
  ·rw [if_pos h1, if_neg (by omega), if_pos (.inl h1), tdiv_wrap (by omega), tdiv_wrap (by omega)]
  ·rw [if_neg h1]
   by_cases h2 : b = 0
   ·rw [if_pos h2]
    by_cases h3 : a < 0
    ·rw [if_pos h3, if_neg (by omega), if_pos (.inr ⟨h2, h3⟩), tdiv_wrap (by omega), tdiv_wrap (by omega)]
    ·rw [if_neg h3, if_neg (by omega), if_neg (by omega), tdiv_wrap (by omega), tdiv_wrap (by omega)]
   ·rw [if_neg h2, if_neg (by omega), if_neg (by omega), tdiv_wrap (by omega), tdiv_wrap (by omega)]
 ·rw [if_neg h]
  have e : spec_LowestOf.j0 (k + 1) a b true = some (0, 0, false) := by simp only [spec_LowestOf.j0]; rw [if_pos trivial]
  by_cases h1 : -1000000 ≤ a ∧ a ≤ 1000000
  ·rw [if_pos h1]
   by_cases h2 : -1000000 ≤ b ∧ b ≤ 1000000
   ·rw [if_pos h2]
    have h3 : a = 0 ∧ b = 0 := by
     by_cases x : a = 0 ∧ b = 0
     ·exact x
     ·exact absurd ⟨h1, h2, x⟩ h
    rw [if_pos h3.1, h3.2]
    rw [h3.2] at e
    exact e
   ·rw [if_neg h2, e]
  ·rw [if_neg h1, e]
theorem lowofv_bd (a b : Int) : (lowofv a b).1.natAbs ≤ 1000000 ∧ (lowofv a b).2.1.natAbs ≤ 1000000 := by
 unfold lowofv
 by_cases h : LowOk a b
 ·rw [if_pos h]
  have h1 := h.1
  have h2 := h.2.1
  have key : ∀ (x g : Int), x.natAbs ≤ 1000000 → (Int.tdiv x g).natAbs ≤ 1000000 := by
   intro x g hx
   have := Nat.div_le_self x.natAbs g.natAbs
   have e : (Int.tdiv x g).natAbs = x.natAbs / g.natAbs := Int.natAbs_tdiv x g
   omega
  unfold lowv
  split
  ·exact ⟨key _ _ (by omega), key _ _ (by omega)⟩
  ·exact ⟨key _ _ (by omega), key _ _ (by omega)⟩
 ·rw [if_neg h]; simp
def Drawn2 (a b : Int) : Prop := a.natAbs ≤ 1000001 ∧ b.natAbs ≤ 1000001
theorem l20Fraction_f {s : List Int} {p : Int} (n : Int) {k : Nat} (hs : RdOk s) (hp : 0 ≤ p) (hp' : p ≤ 900000) (hk : 1000003 ≤ k) :
  ∃ a b q, spec_l20Fraction.f k s p n = some (a, b, q) ∧ Drawn2 a b ∧ p ≤ q ∧ q ≤ p + 6 := by
 obtain ⟨k, rfl⟩ : ∃ m, k = m + 1 := ⟨k - 1, by omega⟩
 unfold spec_l20Fraction.f
 simp only [Option.bind_some]
 obtain ⟨v, hv, v0, v1, _⟩ := pick_f (k := k + 1) 4 hs hp (by omega) (by omega)
 have v1 := v1 (by omega)
 rw [hv]; simp only [Option.bind_some]
 rw [if_pos v0, if_pos (by simpa using v1)]
 have hm : 4 ≤ rd ([4, 10, 50, 1000] : List Int) v ∧ rd ([4, 10, 50, 1000] : List Int) v ≤ 1000 := by
  obtain ⟨m, rfl⟩ := Int.eq_ofNat_of_zero_le v0
  have : m = 0 ∨ m = 1 ∨ m = 2 ∨ m = 3 := by omega
  rcases this with rfl | rfl | rfl | rfl <;> decide
 generalize rd ([4, 10, 50, 1000] : List Int) v = m at *
 obtain ⟨x, hx, x0, x1, _⟩ := pick_f (k := k + 1) (p := p + 1) m hs (by omega) (by omega) (by omega)
 rw [hx]; simp only [Option.bind_some]
 obtain ⟨y, hy, y0, y1, _⟩ := pick_f (k := k + 1) (p := p + 1 + 1) m hs (by omega) (by omega) (by omega)
 rw [hy]; simp only [Option.bind_some]
 obtain ⟨z, hz, z0, z1, _⟩ := pick_f (k := k + 1) (p := p + 1 + 1 + 1) m hs (by omega) (by omega) (by omega)
 rw [hz]; simp only [Option.bind_some]
 rw [spec_LowestOf_f _ _ (by omega)]; simp only [Option.bind_some]
 have hj : ∀ a b, Drawn2 a b → ∃ a' b' q, spec_l20Fraction.j0 (k + 1) n s (p + 1 + 1 + 1 + 1) a b = some (a', b', q) ∧ Drawn2 a' b' ∧ p ≤ q ∧ q ≤ p + 6 := by
  intro a b hab
  simp only [spec_l20Fraction.j0]
  obtain ⟨o, q, ho, q0, q1⟩ := odd_f (k := k) (p := p + 1 + 1 + 1 + 1) n hs (by omega) (by omega) (by omega)
  rw [ho]; simp only [Option.bind_some]
  by_cases hc : o = true
  ·rw [if_pos hc]
   obtain ⟨w, hw, w0, w1, _⟩ := pick_f (k := k) (p := q) 5 hs (by omega) (by omega) (by omega)
   have w1 := w1 (by omega)
   rw [hw]; simp only [Option.bind_some]
   rw [if_pos w0, if_pos (by simpa using w1)]
   refine ⟨_, _, _, rfl, ?_, by omega, by omega⟩
   obtain ⟨m, rfl⟩ := Int.eq_ofNat_of_zero_le w0
   have : m = 0 ∨ m = 1 ∨ m = 2 ∨ m = 3 ∨ m = 4 := by omega
   rcases this with rfl | rfl | rfl | rfl | rfl <;> (unfold Drawn2; decide)
  ·rw [if_neg hc]; exact ⟨_, _, _, rfl, hab, by omega, by omega⟩
 have hb := lowofv_bd (wrap64 (x - y)) z
 split
 ·exact hj _ _ ⟨by omega, by omega⟩
 ·exact hj _ _ ⟨by omega, by omega⟩
theorem l20Tied_f {s : List Int} {p : Int} {k : Nat} (hs : RdOk s) (hp : 0 ≤ p) (hp' : p ≤ 800000) (hk : 2000000 ≤ k) :
  ∃ a b q, spec_l20Tied.f k s p = some (a, b, q) ∧ p ≤ q ∧ q ≤ p + 100 := by
 unfold spec_l20Tied.f
 obtain ⟨o, q, ho, r0, r1⟩ := odd_f (k := k) (p := p) 9 hs (by omega) (by omega) (by omega)
 rw [ho]; simp only [Option.bind_some]
 split
 ·obtain ⟨a, b, q', hf, hd, q0, q1⟩ := l20Fraction_f (k := k) (p := q) 3 hs (by omega) (by omega) (by omega)
  rw [hf]; simp only [Option.bind_some]
  exact ⟨a, b, q', rfl, by omega, by omega⟩
 ·obtain ⟨w1, f1, _⟩ := pick_f (k := k) (p := q) 13 hs (by omega) (by omega) (by omega)
  rw [f1]; simp only [Option.bind_some]
  obtain ⟨w2, f2, _⟩ := pick_f (k := k) (p := q + 1) 13 hs (by omega) (by omega) (by omega)
  rw [f2]; simp only [Option.bind_some]
  obtain ⟨w3, f3, _⟩ := pick_f (k := k) (p := q + 1 + 1) 13 hs (by omega) (by omega) (by omega)
  rw [f3]; simp only [Option.bind_some]
  rw [spec_LowestOf_f _ _ (by omega)]; simp only [Option.bind_some]
  split
  ·exact ⟨_, _, _, rfl, by omega, by omega⟩
  ·exact ⟨_, _, _, rfl, by omega, by omega⟩
theorem mem_small {L : List ByteArray} {B : Nat} (h : ∀ b ∈ L, b.size ≤ B) (i : Int) : (rdOf ByteArray.empty L i).size ≤ B := by
 unfold rdOf
 by_cases hi : i.toNat < L.length
 ·have e : L.getD i.toNat ByteArray.empty = L[i.toNat] := by simp [hi]
  rw [e]; exact h _ (List.getElem_mem hi)
 ·have e : L.getD i.toNat ByteArray.empty = ByteArray.empty := by simp; rw [List.getElem?_eq_none (by omega)]; rfl
  rw [e]; exact Nat.zero_le _
theorem l20Dance_l0 {s : List Int} (hs : RdOk s) (x2 : Int) (n : Nat) : ∀ (out : ByteArray) (p : Int) (k : Nat), 0 ≤ p → p + 3 * n ≤ 900000 → out.size + 3 * n ≤ 1000000 → n + 10 < k →
  ∃ d q, spec_l20Dance.l0 k x2 out (n : Int) s p = some (d, q) ∧ d.size ≤ out.size + n + 41 ∧ p ≤ q ∧ q ≤ p + n + 2 := by
 induction n with
 | zero =>
  intro out p k hp hp' ho hk
  obtain ⟨k, rfl⟩ : ∃ m, k = m + 1 := ⟨k - 1, by omega⟩
  simp only [spec_l20Dance.l0]
  rw [if_neg (by omega)]
  obtain ⟨o, q, h1, q0, q1⟩ := odd_f (k := k) (p := p) x2 hs (by omega) (by omega) (by omega)
  rw [h1]; simp only [Option.bind_some]
  split
  ·obtain ⟨w, hw, w0, w1, _⟩ := pick_f (k := k) (p := q) 3 hs (by omega) (by omega) (by omega)
   have w1 := w1 (by omega)
   rw [hw]; simp only [Option.bind_some]
   have key : ∀ L : List ByteArray, w < (L.length : Int) → (∀ b ∈ L, b.size ≤ 41) → ∃ d q', (if 0 ≤ w then (if w < (L.length : Int) then (if out.size + (rdOf ByteArray.empty L w).size ≤ 9223372036854775807 then (some (out ++ (rdOf ByteArray.empty L w), q + 1)) else (none)) else (none)) else (none)) = some (d, q') ∧ d.size ≤ out.size + 0 + 41 ∧ p ≤ q' ∧ q' ≤ p + (0 : Nat) + 2 := by
    intro L h1 h2
    have hm := mem_small h2 w
    rw [if_pos w0, if_pos h1, if_pos (by omega)]
    exact ⟨_, _, rfl, by rw [ByteArray.size_append]; omega, by omega, by omega⟩
   exact key _ (by simpa using w1) (by decide)
  ·exact ⟨_, _, rfl, by omega, by omega, by omega⟩
 | succ n ih =>
  intro out p k hp hp' ho hk
  obtain ⟨k, rfl⟩ : ∃ m, k = m + 1 := ⟨k - 1, by omega⟩
  simp only [spec_l20Dance.l0, Option.bind_some]
  rw [if_pos (by omega)]
  obtain ⟨w, hw, w0, w1, _⟩ := pick_f (k := k) (p := p) 6 hs (by omega) (by omega) (by omega)
  have w1 := w1 (by omega)
  rw [hw]; simp only [Option.bind_some]
  rw [if_pos w0, if_pos (by simpa using w1)]
  have hm := mem_small (B := 1) (L := [(⟨#[84]⟩ : ByteArray), (⟨#[84]⟩ : ByteArray), (⟨#[82]⟩ : ByteArray), (⟨#[116]⟩ : ByteArray), (⟨#[82]⟩ : ByteArray), (⟨#[84]⟩ : ByteArray)]) (by decide) w
  rw [if_pos (by omega), wrap64_in (by omega) (by omega), show ((n + 1 : Nat) : Int) - 1 = (n : Int) by omega]
  obtain ⟨d, q, e, d1, q0, q1⟩ := ih (out ++ rdOf ByteArray.empty [(⟨#[84]⟩ : ByteArray), (⟨#[84]⟩ : ByteArray), (⟨#[82]⟩ : ByteArray), (⟨#[116]⟩ : ByteArray), (⟨#[82]⟩ : ByteArray), (⟨#[84]⟩ : ByteArray)] w) (p + 1) k (by omega) (by omega) (by rw [ByteArray.size_append]; omega) (by omega)
  rw [ByteArray.size_append] at d1
  exact ⟨d, q, e, by omega, by omega, by omega⟩
theorem l20Dance_f {s : List Int} {p : Int} (most n : Int) {k : Nat} (hs : RdOk s) (hp : 0 ≤ p) (hp' : p ≤ 800000) (hm : 0 ≤ most) (hm' : most ≤ 100) (hk : 1000 ≤ k) :
  ∃ d q, spec_l20Dance.f k s p most n = some (d, q) ∧ d.size ≤ 200 ∧ p ≤ q ∧ q ≤ p + 120 := by
 unfold spec_l20Dance.f
 rw [wrap64_in (n := most + 1) (by omega) (by omega)]
 obtain ⟨w, hw, w0, w1, _⟩ := pick_f (k := k) (p := p) (most + 1) hs (by omega) (by omega) (by omega)
 have w1 := w1 (by omega)
 rw [hw]; simp only [Option.bind_some]
 obtain ⟨w, rfl⟩ := Int.eq_ofNat_of_zero_le w0
 obtain ⟨d, q, e, d1, q0, q1⟩ := l20Dance_l0 hs n w (⟨#[]⟩ : ByteArray) (p + 1) k (by omega) (by omega) (by show 0 + 3 * w ≤ 1000000; omega) (by omega)
 have : (⟨#[]⟩ : ByteArray).size = 0 := rfl
 exact ⟨d, q, e, by omega, by omega, by omega⟩
theorem bt_drop {s : ByteArray} {i : Nat} (h : i < s.size) : ∃ c : UInt8, s.data.toList.drop i = c :: s.data.toList.drop (i + 1) ∧ bt s (i : Int) = ((c.toNat : Nat) : Int) := by
 have hl : i < s.data.toList.length := by simpa using h
 refine ⟨s.data.toList[i], List.drop_eq_getElem_cons hl, ?_⟩
 unfold bt
 rw [dif_pos (by simpa using h)]
 simp
 rfl
theorem drop_end {s : ByteArray} {i : Nat} (h : s.size ≤ i) : s.data.toList.drop i = [] := List.drop_of_length_le (by simpa using h)
theorem u8_eq {c : UInt8} {n : Nat} (hn : n < 256) : ((c.toNat : Nat) : Int) = (n : Int) ↔ c = UInt8.ofNat n := by
 constructor
 ·intro h
  apply UInt8.toNat_inj.1
  rw [UInt8.toNat_ofNat']
  omega
 ·intro h
  subst h
  rw [UInt8.toNat_ofNat']
  omega
def DigP (c : UInt8) : Prop := 48 ≤ c.toNat ∧ c.toNat ≤ 57
instance (c : UInt8) : Decidable (DigP c) := by unfold DigP; infer_instance
theorem dig_of {n : Nat} (h : n < 10) : DigP (UInt8.ofNat (48 + n)) ∧ (UInt8.ofNat (48 + n)).toNat = 48 + n := by
 have : (UInt8.ofNat (48 + n)).toNat = 48 + n := by rw [UInt8.toNat_ofNat']; omega
 exact ⟨by unfold DigP; omega, this⟩
theorem dd_small {u : Nat} (h : u < 10) : Go.Lib.decDigits u = [UInt8.ofNat (48 + u)] := by rw [Go.Lib.decDigits, dif_pos h]
theorem dd_big {u : Nat} (h : ¬ u < 10) : Go.Lib.decDigits u = Go.Lib.decDigits (u / 10) ++ [UInt8.ofNat (48 + u % 10)] := by rw [Go.Lib.decDigits, dif_neg h]
theorem dd_all (n : Nat) : ∀ u, u < n → ∀ c ∈ Go.Lib.decDigits u, DigP c := by
 induction n with
 | zero => intro u hu; omega
 | succ n ih =>
  intro u hu c hc
  by_cases h : u < 10
  ·rw [dd_small h] at hc
   simp only [List.mem_singleton] at hc
   subst hc; exact (dig_of h).1
  ·rw [dd_big h] at hc
   rcases List.mem_append.1 hc with h1 | h1
   ·exact ih (u / 10) (by omega) c h1
   ·simp only [List.mem_singleton] at h1
    subst h1; exact (dig_of (Nat.mod_lt _ (by omega))).1
theorem dd_digits (u : Nat) : ∀ c ∈ Go.Lib.decDigits u, DigP c := dd_all (u + 1) u (by omega)
theorem dd_length (n : Nat) : ∀ u, u < 10 ^ (n + 1) → (Go.Lib.decDigits u).length ≤ n + 1 := by
 induction n with
 | zero => intro u hu; rw [dd_small (by omega)]; simp
 | succ n ih =>
  intro u hu
  by_cases h : u < 10
  ·rw [dd_small h]; simp
  ·rw [dd_big h]
   have := ih (u / 10) (by rw [Nat.pow_succ] at hu; omega)
   simp; omega
theorem dd_pos (u : Nat) : 1 ≤ (Go.Lib.decDigits u).length := by
 by_cases h : u < 10
 ·rw [dd_small h]; simp
 ·rw [dd_big h]; simp
def digF (a : Nat) (l : List UInt8) : Nat := l.foldl (fun a c => 10 * a + (c.toNat - 48)) a
theorem digF_append (a : Nat) (l m : List UInt8) : digF a (l ++ m) = digF (digF a l) m := by unfold digF; rw [List.foldl_append]
theorem dd_value (n : Nat) : ∀ u, u < n → digF 0 (Go.Lib.decDigits u) = u := by
 induction n with
 | zero => intro u hu; omega
 | succ n ih =>
  intro u hu
  by_cases h : u < 10
  ·rw [dd_small h]; show 10 * 0 + ((UInt8.ofNat (48 + u)).toNat - 48) = u; rw [(dig_of h).2]; omega
  ·rw [dd_big h, digF_append, ih (u / 10) (by omega)]
   show 10 * (u / 10) + ((UInt8.ofNat (48 + u % 10)).toNat - 48) = u
   rw [(dig_of (Nat.mod_lt _ (by omega))).2]; omega
theorem dd_val (u : Nat) : digF 0 (Go.Lib.decDigits u) = u := dd_value (u + 1) u (by omega)
theorem dd_head (n : Nat) : ∀ u, u < n → 1 ≤ u → ∃ c r, Go.Lib.decDigits u = c :: r ∧ c.toNat ≠ 48 := by
 induction n with
 | zero => intro u hu; omega
 | succ n ih =>
  intro u hu h1
  by_cases h : u < 10
  ·rw [dd_small h]; exact ⟨_, [], rfl, by rw [(dig_of h).2]; omega⟩
  ·obtain ⟨c, r, e, hc⟩ := ih (u / 10) (by omega) (by omega)
   rw [dd_big h, e]; exact ⟨c, _, rfl, hc⟩
theorem dd_first (u : Nat) : ∃ c r, Go.Lib.decDigits u = c :: r ∧ DigP c ∧ (1 ≤ u → c.toNat ≠ 48) ∧ (u < 10 → r = []) := by
 by_cases h : u < 10
 ·rw [dd_small h]; exact ⟨_, [], rfl, (dig_of h).1, fun h1 => by rw [(dig_of h).2]; omega, fun _ => rfl⟩
 ·obtain ⟨c, r, e, hc⟩ := dd_head (u + 1) u (by omega) (by omega)
  exact ⟨c, r, e, dd_digits u c (by rw [e]; simp), fun _ => hc, fun x => absurd x h⟩
def digL : Int → List UInt8 → Int × Bool
 | a, [] => (a, true)
 | a, c :: r => if DigP c then digL (10 * a + ((c.toNat : Int) - 48)) r else (0, false)
theorem digL_all (l : List UInt8) (h : ∀ c ∈ l, DigP c) : ∀ a : Nat, digL (a : Int) l = (((digF a l : Nat) : Int), true) := by
 induction l with
 | nil => intro a; rfl
 | cons c r ih =>
  intro a
  have hc := h c (by simp)
  simp only [digL]
  rw [if_pos hc]
  have hc' := hc
  unfold DigP at hc'
  rw [show 10 * (a : Int) + ((c.toNat : Int) - 48) = ((10 * a + (c.toNat - 48) : Nat) : Int) by omega, ih (fun c hc => h c (by simp [hc]))]
  rfl
def digs0 (l : List UInt8) : Int × Bool := if (1 ≤ l.length ∧ l.length ≤ 7) ∧ ¬ (1 < l.length ∧ l.head? = some 48) then digL 0 l else (0, false)
def digsv : List UInt8 → Int × Bool
 | [] => digs0 []
 | [c] => digs0 [c]
 | c :: d :: r => if c = 45 then (-(digsv (d :: r)).1, (digsv (d :: r)).2 && decide ((digsv (d :: r)).1 > 0)) else digs0 (c :: d :: r)
theorem digs0_dd {u : Nat} (h : u < 10000000) : digs0 (Go.Lib.decDigits u) = ((u : Int), true) := by
 unfold digs0
 have h1 := dd_pos u
 have h2 := dd_length 6 u (by omega)
 obtain ⟨c, r, e, hc, hz, hr⟩ := dd_first u
 have no : ¬ (1 < (Go.Lib.decDigits u).length ∧ (Go.Lib.decDigits u).head? = some 48) := by
  rintro ⟨hl, hh⟩
  rw [e] at hl hh
  simp only [List.head?_cons, Option.some.injEq] at hh
  by_cases hu : u < 10
  ·rw [hr hu] at hl; simp at hl
  ·exact hz (by omega) (by rw [hh]; rfl)
 rw [if_pos ⟨⟨h1, by omega⟩, no⟩]
 have := digL_all _ (dd_digits u) 0
 rw [dd_val] at this
 exact this
theorem digsv_plain {l : List UInt8} (h : ∀ c ∈ l, DigP c) : digsv l = digs0 l := by
 match l, h with
 | [], _ => rfl
 | [c], _ => rfl
 | c :: d :: r, h =>
  simp only [digsv]
  rw [if_neg]
  intro x
  have := (h c (by simp)).1
  rw [x] at this
  exact absurd this (by decide)
theorem digsv_itoa {n : Int} (h : n.natAbs < 10000000) : digsv (Go.Lib.itoa n) = (n, true) := by
 unfold Go.Lib.itoa
 by_cases hn : n < 0
 ·rw [if_pos hn]
  obtain ⟨c, r, e, _⟩ := dd_first n.natAbs
  have h1 := digsv_plain (dd_digits n.natAbs)
  rw [digs0_dd h] at h1
  rw [e] at h1 ⊢
  simp only [digsv]
  rw [if_pos trivial, h1]
  simp only [Prod.mk.injEq, Bool.true_and, decide_eq_true_eq]
  omega
 ·rw [if_neg hn, digsv_plain (dd_digits _), digs0_dd (by omega)]
  simp only [Prod.mk.injEq, and_true]
  omega
theorem itoa_mem {n : Int} {c : UInt8} (h : c ∈ Go.Lib.itoa n) : c = 45 ∨ DigP c := by
 unfold Go.Lib.itoa at h
 split at h
 ·rcases List.mem_cons.1 h with h1 | h1
  ·exact .inl h1
  ·exact .inr (dd_digits _ c h1)
 ·exact .inr (dd_digits _ c h)
theorem itoa_length {n : Int} (h : n.natAbs < 10000000) : (Go.Lib.itoa n).length ≤ 8 := by
 unfold Go.Lib.itoa
 have h2 := dd_length 6 n.natAbs (by omega)
 split
 ·simp; omega
 ·rw [show n.toNat = n.natAbs by omega]; omega
def Small (a b m : Int) : Prop := Frac a b ∧ (-m ≤ a ∧ a ≤ m) ∧ b ≤ m
instance (a b m : Int) : Decidable (Small a b m) := by unfold Small; infer_instance
theorem mul_bd {a b : Int} {m n : Nat} (h : a.natAbs ≤ m) (h' : b.natAbs ≤ n) : (a * b).natAbs ≤ m * n := by
 rw [Int.natAbs_mul]; exact Nat.mul_le_mul h h'
def ba (l : List UInt8) : ByteArray := ⟨⟨l⟩⟩
theorem ba_list (l : List UInt8) : (ba l).data.toList = l := rfl
theorem ba_toList (l : List UInt8) : (ba l).toList = l := by rw [ByteArray.toList_eq]; rfl
theorem ba_size (l : List UInt8) : (ba l).size = l.length := rfl
theorem ba_append (l m : List UInt8) : ba l ++ ba m = ba (l ++ m) := by
 apply ByteArray.ext
 rw [ByteArray.data_append]
 simp [ba]
theorem ba_extract (s : ByteArray) (a e : Nat) : s.extract a e = ba ((s.data.toList.drop a).take (e - a)) := by
 apply ByteArray.ext
 apply Array.toList_inj.1
 simp [ba, List.drop_take]
def fracT (a b : Int) : List UInt8 := if b = 1 then Go.Lib.itoa a else Go.Lib.itoa a ++ 47 :: Go.Lib.itoa b
def splitL (c : UInt8) : List UInt8 → List UInt8 → List (List UInt8)
 | cur, [] => [cur]
 | cur, x :: r => if x = c then cur :: splitL c [] r else splitL c (cur ++ [x]) r
theorem splitL_none {c : UInt8} : ∀ (l cur : List UInt8), (∀ x ∈ l, x ≠ c) → splitL c cur l = [cur ++ l]
 | [], cur, _ => by simp [splitL]
 | x :: r, cur, h => by
  simp only [splitL]
  rw [if_neg (h x (by simp)), splitL_none r (cur ++ [x]) (fun y hy => h y (by simp [hy]))]
  simp
theorem splitL_one {c : UInt8} : ∀ (l cur m : List UInt8), (∀ x ∈ l, x ≠ c) → splitL c cur (l ++ c :: m) = (cur ++ l) :: splitL c [] m
 | [], cur, m, _ => by simp [splitL]
 | x :: r, cur, m, h => by
  simp only [List.cons_append, splitL]
  rw [if_neg (h x (by simp)), splitL_one r (cur ++ [x]) m (fun y hy => h y (by simp [hy]))]
  simp
theorem splitL_cons (c : UInt8) : ∀ (l cur : List UInt8), ∃ x r, splitL c cur l = x :: r
 | [], cur => ⟨_, _, rfl⟩
 | y :: r, cur => by
  simp only [splitL]
  split
  ·exact ⟨_, _, rfl⟩
  ·exact splitL_cons c r _
theorem itoa_no47 (n : Int) : ∀ x ∈ Go.Lib.itoa n, x ≠ 47 := by
 intro x hx h
 rcases itoa_mem hx with h1 | h1
 ·rw [h] at h1; exact absurd h1 (by decide)
 ·rw [h] at h1; exact absurd h1 (by decide)
def readW : List (List UInt8) → Int × Int × Bool
 | [x] => ((digsv x).1, 1, (digsv x).2)
 | [x, y] => ((digsv x).1, (digsv y).1, (digsv x).2 && (digsv y).2)
 | _ => (0, 0, false)
def readL (l : List UInt8) : Int × Int × Bool :=
 if (readW (splitL 47 [] l)).2.2 = true ∧ Frac (readW (splitL 47 [] l)).1 (readW (splitL 47 [] l)).2.1 ∧ fracT (readW (splitL 47 [] l)).1 (readW (splitL 47 [] l)).2.1 = l then
  ((readW (splitL 47 [] l)).1, (readW (splitL 47 [] l)).2.1, true) else (0, 0, false)
theorem frac_bd {a b : Int} (h : Frac a b) : a.natAbs < 10000000 ∧ b.natAbs < 10000000 := by
 have h1 := h.1
 have h2 := h.2.1
 omega
theorem readW_fracT {a b : Int} (h : Frac a b) : readW (splitL 47 [] (fracT a b)) = (a, b, true) := by
 have hb := frac_bd h
 unfold fracT
 split
 ·next hb1 =>
  rw [splitL_none _ _ (itoa_no47 a), List.nil_append]
  simp only [readW]
  rw [digsv_itoa hb.1, hb1]
 ·rw [splitL_one _ _ _ (itoa_no47 a), splitL_none _ _ (itoa_no47 b)]
  simp only [List.nil_append, readW]
  rw [digsv_itoa hb.1, digsv_itoa hb.2]; rfl
theorem readL_iff (l : List UInt8) : (∃ a b, Frac a b ∧ fracT a b = l ∧ readL l = (a, b, true)) ∨ ((∀ a b, Frac a b → fracT a b ≠ l) ∧ readL l = (0, 0, false)) := by
 by_cases h : (readW (splitL 47 [] l)).2.2 = true ∧ Frac (readW (splitL 47 [] l)).1 (readW (splitL 47 [] l)).2.1 ∧ fracT (readW (splitL 47 [] l)).1 (readW (splitL 47 [] l)).2.1 = l
 ·left
  exact ⟨_, _, h.2.1, h.2.2, by unfold readL; rw [if_pos h]⟩
 ·right
  refine ⟨?_, by unfold readL; rw [if_neg h]⟩
  intro a b hf he
  subst he
  rw [readW_fracT hf] at h
  exact h ⟨rfl, hf, rfl⟩
theorem fracT_length {a b : Int} (h : Frac a b) : (fracT a b).length ≤ 17 := by
 have hb := frac_bd h
 have h1 := itoa_length hb.1
 have h2 := itoa_length hb.2
 unfold fracT
 split
 ·omega
 ·simp; omega
theorem bits_dig {n : Nat} (h : n < 10) : strOfNums [(48 + (n : Int)) % 256] = ba [UInt8.ofNat (48 + n)] := by
 have : n = 0 ∨ n = 1 ∨ n = 2 ∨ n = 3 ∨ n = 4 ∨ n = 5 ∨ n = 6 ∨ n = 7 ∨ n = 8 ∨ n = 9 := by omega
 rcases this with rfl | rfl | rfl | rfl | rfl | rfl | rfl | rfl | rfl | rfl <;> rfl
theorem spec_l1Number_nat (n : Nat) : ∀ u k : Nat, u < 10 ^ (n + 1) → n ≤ 10 → 2 * n + 2 ≤ k → spec_l1Number.f k (u : Int) = some (ba (Go.Lib.decDigits u)) := by
 induction n with
 | zero =>
  intro u k hu _ hk
  obtain ⟨k, rfl⟩ : ∃ q, k = q + 2 := ⟨k - 2, by omega⟩
  simp only [spec_l1Number.f, spec_l1Number.j0]
  rw [if_neg (by omega), if_neg (by decide), if_neg (by omega), if_pos (by omega), wrap64_in (by omega) (by omega), bits_dig (by omega), dd_small (by omega)]
 | succ n ih =>
  intro u k hu hn hk
  obtain ⟨k, rfl⟩ : ∃ q, k = q + 2 := ⟨k - 2, by omega⟩
  have hp : 10 ^ (n + 1 + 1) ≤ 10 ^ 11 := Nat.pow_le_pow_right (by omega) (by omega)
  simp only [spec_l1Number.f, spec_l1Number.j0]
  rw [if_neg (by omega), if_neg (by decide), if_neg (by omega)]
  by_cases h : u < 10
  ·rw [if_pos (by omega), wrap64_in (by omega) (by omega), bits_dig h, dd_small h]
  ·have e1 : Int.tdiv (u : Int) 10 = ((u / 10 : Nat) : Int) := rfl
   have e2 : Int.tmod (u : Int) 10 = ((u % 10 : Nat) : Int) := rfl
   have hm : u % 10 < 10 := Nat.mod_lt _ (by omega)
   rw [if_neg (by omega), e1, e2, wrap64_in (n := ((u / 10 : Nat) : Int)) (by omega) (by omega), ih (u / 10) k (by rw [Nat.pow_succ] at hu; omega) (by omega) (by omega)]
   simp only [Option.bind_some]
   rw [wrap64_in (by omega) (by omega), bits_dig hm]
   have hl := dd_length n (u / 10) (by rw [Nat.pow_succ] at hu; omega)
   rw [ba_size, ba_size, if_pos (by simp; omega), ba_append, dd_big h]
theorem spec_l1Number_f {n : Int} {k : Nat} (h : n.natAbs < 10000000000) (hk : 40 ≤ k) : spec_l1Number.f k n = some (ba (Go.Lib.itoa n)) := by
 unfold Go.Lib.itoa
 by_cases hn : n < 0
 ·obtain ⟨k, rfl⟩ : ∃ q, k = q + 2 := ⟨k - 2, by omega⟩
  have hl := dd_length 9 n.natAbs (by omega)
  rw [if_pos hn]
  simp only [spec_l1Number.f, spec_l1Number.j0]
  rw [if_pos hn, wrap64_in (n := -n) (by omega) (by omega)]
  have e : (n == -n) = false := by simpa using (show n ≠ -n by omega)
  rw [e, if_neg (by decide), if_pos hn]
  have := spec_l1Number_nat 9 n.natAbs k (by omega) (by omega) (by omega)
  rw [show ((n.natAbs : Nat) : Int) = -n by omega] at this
  rw [this]; simp only [Option.bind_some]
  rw [ba_size, if_pos (by omega)]
  exact congrArg some (ba_append [45] _)
 ·rw [if_neg hn]
  have := spec_l1Number_nat 9 n.natAbs k (by omega) (by omega) (by omega)
  rw [show ((n.natAbs : Nat) : Int) = n by omega] at this
  rw [this, show n.toNat = n.natAbs by omega]
theorem spec_FractionOk_f (a b : Int) {k : Nat} (hk : 1000001 ≤ k) : spec_FractionOk.f k a b = some (decide (Frac a b)) := by
 unfold spec_FractionOk.f
 rw [spec_l1In_f]; simp only [Option.bind_some, decide_eq_true_eq]
 by_cases h1 : -1000000 ≤ a ∧ a ≤ 1000000
 ·rw [if_pos h1, spec_l1In_f]; simp only [Option.bind_some, decide_eq_true_eq]
  by_cases h2 : 0 ≤ b ∧ b ≤ 1000000
  ·rw [if_pos h2, spec_l1Common_f (by omega) (by omega) (by omega)]; simp only [Option.bind_some]
   by_cases h3 : Int.gcd a b = 1
   ·rw [if_pos (by omega)]
    by_cases h4 : b > 0
    ·rw [if_pos h4]; exact (dec_true ⟨h1, h2, h3, by omega⟩).symm
    ·rw [if_neg h4]
     by_cases h5 : a = 1
     ·rw [(dec_true ⟨h1, h2, h3, fun _ => h5⟩ : some (decide (Frac a b)) = _)]; simp [h5]
     ·rw [(dec_false (fun x => h5 (x.2.2.2 (by omega))) : some (decide (Frac a b)) = _)]; simp [h5]
   ·rw [if_neg (by omega)]; exact (dec_false (fun x => h3 x.2.2.1)).symm
  ·rw [if_neg h2]; exact (dec_false (fun x => h2 x.2.1)).symm
 ·rw [if_neg h1]; exact (dec_false (fun x => h1 x.1)).symm
def fracTv (a b : Int) : List UInt8 := if Frac a b then fracT a b else []
theorem spec_FractionText_f (a b : Int) {k : Nat} (hk : 1000001 ≤ k) : spec_FractionText.f k a b = some (ba (fracTv a b)) := by
 unfold spec_FractionText.f fracTv
 rw [spec_FractionOk_f _ _ hk]; simp only [Option.bind_some, decide_eq_true_eq]
 by_cases h : Frac a b
 ·have hb := frac_bd h
  have h1 := itoa_length hb.1
  have h2 := itoa_length hb.2
  rw [if_pos h, if_pos h, spec_l1Number_f (by omega) (by omega)]
  unfold fracT
  by_cases h3 : b = 1
  ·rw [if_pos h3, if_pos h3]; rfl
  ·rw [if_neg h3, if_neg h3]; simp only [Option.bind_some]
   rw [ba_size, if_pos (by omega), spec_l1Number_f (by omega) (by omega)]; simp only [Option.bind_some]
   have e : ba (Go.Lib.itoa a) ++ (⟨#[47]⟩ : ByteArray) = ba (Go.Lib.itoa a ++ [47]) := ba_append _ [47]
   rw [e, ba_size, ba_size, if_pos (by simp; omega), ba_append]
   simp
 ·rw [if_neg h, if_neg h]; rfl
theorem fracTv_length (a b : Int) : (fracTv a b).length ≤ 17 := by
 unfold fracTv
 split
 ·next h => exact fracT_length h
 ·simp
theorem l20Deed_f {s : List Int} {p : Int} {k : Nat} (hs : RdOk s) (hp : 0 ≤ p) (hp' : p ≤ 700000) (hk : 2000003 ≤ k) :
  ∃ d t q, spec_l20Deed.f k s p = some (d, t, q) ∧ t.size ≤ 300 ∧ p ≤ q ∧ q ≤ p + 300 := by
 unfold spec_l20Deed.f
 simp only [Option.bind_some]
 obtain ⟨w1, f1, w0, w2, _⟩ := pick_f (k := k) (p := p) 8 hs (by omega) (by omega) (by omega)
 have w2 := w2 (by omega)
 rw [f1]; simp only [Option.bind_some]
 rw [if_pos w0, if_pos (by simpa using w2)]
 obtain ⟨w3, f3, _⟩ := pick_f (k := k) (p := p + 1) 60 hs (by omega) (by omega) (by omega)
 rw [f3]; simp only [Option.bind_some]
 have fin : ∀ (q : Int) (d : Int) (t : ByteArray), p ≤ q → q ≤ p + 250 → t.size ≤ 200 → ∃ d' t' q', spec_l20Deed.j0 k s q d t = some (d', t', q') ∧ t'.size ≤ 300 ∧ p ≤ q' ∧ q' ≤ p + 300 := by
  intro q d t h1 h2 h3
  obtain ⟨k, rfl⟩ : ∃ m, k = m + 1 := ⟨k - 1, by omega⟩
  simp only [spec_l20Deed.j0]
  obtain ⟨o, q', ho, r0, r1⟩ := odd_f (k := k) (p := q) 40 hs (by omega) (by omega) (by omega)
  rw [ho]; simp only [Option.bind_some]
  split
  ·rw [if_pos (by omega)]
   exact ⟨_, _, _, rfl, by rw [ByteArray.size_append]; show t.size + 1 ≤ 300; omega, by omega, by omega⟩
  ·exact ⟨_, _, _, rfl, by omega, by omega, by omega⟩
 split
 ·obtain ⟨d, q, hf, hd, q0, q1⟩ := l20Dance_f (k := k) (p := p + 1 + 1) 6 20 hs (by omega) (by omega) (by omega) (by omega) (by omega)
  rw [hf]; simp only [Option.bind_some]
  exact fin _ _ _ (by omega) (by omega) (by omega)
 ·split
  ·obtain ⟨a, b, q, hf, q0, q1⟩ := l20Tied_f (k := k) (p := p + 1 + 1) hs (by omega) (by omega) (by omega)
   rw [hf]; simp only [Option.bind_some]
   rw [spec_FractionText_f _ _ (by omega)]; simp only [Option.bind_some]
   have := fracTv_length a b
   exact fin _ _ _ (by omega) (by omega) (by rw [ba_size]; omega)
  ·exact fin _ _ _ (by omega) (by omega) (by decide)
def AllF (l : List S31) : Prop := ∀ x ∈ l, Frac x.f0 x.f1
instance (l : List S31) : Decidable (AllF l) := by unfold AllF; infer_instance
theorem allF_cons (x : S31) (l : List S31) : AllF (x :: l) ↔ Frac x.f0 x.f1 ∧ AllF l := by unfold AllF; simp
def DeskP (a b : Int) (l : List S31) : Prop := Frac a b ∧ l.length ≤ 8 ∧ AllF l
instance (a b : Int) (l : List S31) : Decidable (DeskP a b l) := by unfold DeskP; infer_instance
theorem rdF_drop (l : List S31) (i : Nat) (h : i < l.length) : l.drop i = rd_T31 l (i : Int) :: l.drop (i + 1) := by
 rw [List.drop_eq_getElem_cons h]
 unfold rd_T31
 simp [h]
theorem gcd_neg_left (a b : Int) : Int.gcd (-a) b = Int.gcd a b := by simp
theorem lowv_coprime {a b : Int} (h : Int.gcd a b = 1) : lowv a b = if b < 0 ∨ (b = 0 ∧ a < 0) then (-a, -b) else (a, b) := by
 unfold lowv; rw [h]; split <;> simp
def mirv (a b : Int) : Int × Int := if b > 0 then (-a, b) else (a, b)
theorem mir_frac {a b : Int} (h : Frac a b) : Frac (mirv a b).1 (mirv a b).2 := by
 unfold mirv; split
 ·refine ⟨by have := h.1; simp; omega, h.2.1, by simpa using h.2.2.1, fun x => by omega⟩
 ·exact h
theorem mir_low {a b : Int} (h : Frac a b) : lowofv (-a) b = ((mirv a b).1, (mirv a b).2, true) := by
 have h1 := h.1
 have h2 := h.2.1
 have hg := h.2.2.1
 have hz := h.2.2.2
 unfold lowofv
 rw [if_pos ⟨by omega, by omega, by omega⟩, lowv_coprime (by rw [gcd_neg_left]; exact hg)]
 unfold mirv
 by_cases hb : b > 0
 ·rw [if_neg (by omega), if_pos hb]
 ·have : b = 0 := by omega
  have := hz this
  rw [if_pos (by omega), if_neg hb]
  subst this; subst b; rfl
def overv (a b : Int) : Int × Int := if a ≤ 0 then (b, -a) else (-b, a)
theorem frac_zero {b : Int} (h : Frac 0 b) : b = 1 := by
 have h2 := h.2.1
 have h3 := h.2.2.1
 rw [Int.gcd_zero_left] at h3
 omega
theorem over_frac {a b : Int} (h : Frac a b) : Frac (overv a b).1 (overv a b).2 := by
 have h1 := h.1
 have h2 := h.2.1
 have h3 := h.2.2.1
 have h4 := h.2.2.2
 unfold overv
 split
 ·refine ⟨by simp only; omega, by simp only; omega, by simp only; rw [Int.gcd_comm]; simpa using h3, ?_⟩
  simp only
  intro x
  obtain rfl : a = 0 := by omega
  exact frac_zero h
 ·refine ⟨by simp only; omega, by simp only; omega, by simp only; rw [Int.gcd_comm]; simpa using h3, ?_⟩
  simp only
  intro x
  omega
theorem over_low {a b : Int} (h : Frac a b) : lowv (-b) a = overv a b := by
 have h2 := h.2.1
 have h3 := h.2.2.1
 have h4 := h.2.2.2
 rw [lowv_coprime (by rw [gcd_neg_left, Int.gcd_comm]; exact h3)]
 unfold overv
 by_cases h0 : a = 0
 ·subst h0
  have := frac_zero h
  subst this
  decide
 ·by_cases hn : a ≤ 0
  ·rw [if_pos (by omega), if_pos hn]; simp
  ·rw [if_neg (by omega), if_neg hn]
theorem over_lowof {a b : Int} (h : Frac a b) : lowofv (-b) a = ((overv a b).1, (overv a b).2, true) := by
 have h1 := h.1
 have h2 := h.2.1
 have h4 := h.2.2.2
 unfold lowofv
 rw [if_pos ⟨by omega, by omega, by omega⟩, over_low h]
def plusv (a b n : Int) : Int × Int × Bool := if Frac (a + n * b) b then (a + n * b, b, true) else (0, 0, false)
theorem plus_wrap {a b n : Int} (h : Frac a b) (hn : -1000000 ≤ n ∧ n ≤ 1000000) : wrap64 (a + wrap64 (n * b)) = a + n * b := by
 have h1 := mul_bd (a := n) (b := b) (m := 1000000) (n := 1000000) (by omega) (by have := h.2.1; omega)
 have h2 := h.1
 rw [wrap64_in (n := n * b) (by omega) (by omega), wrap64_in (by omega) (by omega)]
def unt : Nat → List UInt8 → Int → Int → Option (List UInt8)
 | 0, _, _, _ => none
 | n + 1, t, a, b => if a = 0 then some t else if a < 0 then unt n (t ++ [84]) (a + b) b else unt n (t ++ [82]) (overv a b).1 (overv a b).2
def SmallU (a b : Int) : Prop := Frac a b ∧ (-12 ≤ a ∧ a ≤ 12) ∧ b ≤ 12
instance (a b : Int) : Decidable (SmallU a b) := by unfold SmallU; infer_instance
theorem smallU_over {a b : Int} (h : SmallU a b) : SmallU (overv a b).1 (overv a b).2 := by
 have h1 := h.1
 have h2 := h.2
 have h3 := h1.2.1
 refine ⟨over_frac h1, ?_⟩
 unfold overv
 split <;> (simp only; omega)
theorem smallU_plus {a b : Int} (h : SmallU a b) (ha : a < 0) : SmallU (a + b) b := by
 obtain ⟨h1, h2⟩ := h
 have h3 := h1.2.1
 have h4 := h1.2.2.2
 refine ⟨⟨by omega, by omega, ?_, ?_⟩, by omega, by omega⟩
 ·have := h1.2.2.1
  rw [Int.gcd_comm] at this ⊢
  rw [Int.add_comm, show b + a = b * 1 + a by omega, Int.gcd_mul_left_add_right]; exact this
 ·intro hb; have := h4 hb; omega
theorem unt_length : ∀ (n : Nat) (t : List UInt8) (a b : Int) (r : List UInt8), unt n t a b = some r → r.length ≤ t.length + n
 | 0, _, _, _, _, h => by simp [unt] at h
 | n + 1, t, a, b, r, h => by
  simp only [unt] at h
  split at h
  ·cases h; omega
  ·split at h
   ·have := unt_length n _ _ _ _ h; simp at this; omega
   ·have := unt_length n _ _ _ _ h; simp at this; omega
theorem unt_all : (List.range 25).all (fun i => (List.range 13).all fun j => !decide (Frac ((i : Int) - 12) (j : Int)) || (unt 100 [] ((i : Int) - 12) (j : Int)).isSome) = true := by decide +kernel
theorem unt_some {a b : Int} (h : SmallU a b) : ∃ r, unt 100 [] a b = some r := by
 have h1 := h.2
 have h2 := h.1.2.1
 have z := List.all_eq_true.1 (List.all_eq_true.1 unt_all (a + 12).toNat (List.mem_range.2 (by omega))) b.toNat (List.mem_range.2 (by omega))
 rw [show (((a + 12).toNat : Nat) : Int) - 12 = a by omega, show ((b.toNat : Nat) : Int) = b by omega, decide_eq_true h.1] at z
 exact Option.isSome_iff_exists.1 (by simpa using z)
def untv (a b : Int) : List UInt8 × Bool := if SmallU a b then ((unt 100 [] a b).getD [], true) else ([], false)
def MoveP (c : UInt8) : Prop := c = 84 ∨ c = 116 ∨ c = 82
instance (c : UInt8) : Decidable (MoveP c) := by unfold MoveP; infer_instance
def AllM (l : List UInt8) : Prop := ∀ c ∈ l, MoveP c
instance (l : List UInt8) : Decidable (AllM l) := by unfold AllM; infer_instance
theorem allM_nil : AllM [] := by intro c h; simp at h
theorem allM_cons (c : UInt8) (l : List UInt8) : AllM (c :: l) ↔ MoveP c ∧ AllM l := by unfold AllM; simp
def DanceL (l : List UInt8) : Prop := l.length ≤ 40 ∧ AllM l
instance (l : List UInt8) : Decidable (DanceL l) := by unfold DanceL; infer_instance
def DanceP (s : ByteArray) : Prop := DanceL s.data.toList
instance (s : ByteArray) : Decidable (DanceP s) := by unfold DanceP; infer_instance
def dmove (f : Int × Int) (m : UInt8) : Option (Int × Int) :=
 if m = 84 then (if Frac (f.1 + f.2) f.2 then some (f.1 + f.2, f.2) else none) else if m = 116 then (if Frac (f.1 - f.2) f.2 then some (f.1 - f.2, f.2) else none) else some (overv f.1 f.2)
def dafter : List UInt8 → Int × Int → Option (Int × Int)
 | [], f => some f
 | m :: l, f => (dmove f m).bind (dafter l)
theorem dmove_frac {f g : Int × Int} {m : UInt8} (hf : Frac f.1 f.2) (h : dmove f m = some g) : Frac g.1 g.2 := by
 unfold dmove at h
 split at h
 ·split at h
  ·next hh => cases h; exact hh
  ·cases h
 ·split at h
  ·split at h
   ·next hh => cases h; exact hh
   ·cases h
  ·cases h; exact over_frac hf
theorem dafter_frac : ∀ {l : List UInt8} {f g : Int × Int}, Frac f.1 f.2 → dafter l f = some g → Frac g.1 g.2
 | [], f, g, hf, h => by cases h; exact hf
 | m :: l, f, g, hf, h => by
  simp only [dafter] at h
  cases hm : dmove f m with
  | none => rw [hm] at h; cases h
  | some x => rw [hm] at h; exact dafter_frac (dmove_frac hf hm) h
def dansw : Option (Int × Int) → Int × Int × Bool
 | some g => (g.1, g.2, true)
 | none => (0, 0, false)
def dancedfv (a b : Int) (l : List UInt8) : Int × Int × Bool := if DanceL l ∧ Frac a b then dansw (dafter l (a, b)) else (0, 0, false)
theorem dancedf_frac {a b : Int} {l : List UInt8} {x y : Int} (h : dancedfv a b l = (x, y, true)) : Frac x y := by
 unfold dancedfv at h
 split at h
 ·next hc =>
  cases hd : dafter l (a, b) with
  | none => rw [hd] at h; simp [dansw] at h
  | some g =>
   rw [hd] at h
   simp only [dansw, Prod.mk.injEq, and_true] at h
   rw [← h.1, ← h.2]
   exact dafter_frac hc.2 hd
 ·simp at h
def madev (a b kind : Int) (t : List UInt8) : Int × Int × Bool :=
 if kind = 0 then dancedfv a b t else if kind = 1 then readL t else if kind = 2 ∧ t = [] then ((mirv a b).1, (mirv a b).2, true) else if kind = 3 ∧ t = [] then (0, 1, (untv a b).2) else (a, b, false)
theorem made_frac {a b kind : Int} {t : List UInt8} {x y : Int} (hf : Frac a b) (h : madev a b kind t = (x, y, true)) : Frac x y := by
 unfold madev at h
 split at h
 ·exact dancedf_frac h
 ·split at h
  ·rcases readL_iff t with ⟨p, q, h1, h2, h3⟩ | ⟨_, h3⟩
   ·rw [h3] at h
    simp only [Prod.mk.injEq, and_true] at h
    rw [← h.1, ← h.2]; exact h1
   ·rw [h3] at h; simp at h
  ·split at h
   ·simp only [Prod.mk.injEq, and_true] at h
    rw [← h.1, ← h.2]; exact mir_frac hf
   ·split at h
    ·simp only [Prod.mk.injEq] at h
     rw [← h.1, ← h.2.1]; decide
    ·simp at h
def pastv (l : List S31) (a b : Int) : List S31 := if l.length + 1 > 8 then (l ++ [(⟨a, b⟩ : S31)]).drop 1 else l ++ [(⟨a, b⟩ : S31)]
def dov (a b : Int) (l : List S31) (kind : Int) (t : List UInt8) : Int × Int × List S31 × Bool :=
 if kind = 4 ∧ t = [] ∧ l ≠ [] then ((rd_T31 l ((l.length - 1 : Nat) : Int)).f0, (rd_T31 l ((l.length - 1 : Nat) : Int)).f1, l.take (l.length - 1), true)
 else if (madev a b kind t).2.2 = true ∧ ¬ ((madev a b kind t).1 = a ∧ (madev a b kind t).2.1 = b) then ((madev a b kind t).1, (madev a b kind t).2.1, pastv l a b, true)
 else (a, b, l, false)
def deskdov (a b : Int) (l : List S31) (kind : Int) (t : List UInt8) : Int × Int × List S31 × Bool := if DeskP a b l then dov a b l kind t else (0, 0, [], false)
theorem allF_rd {l : List S31} (h : AllF l) {i : Nat} (hi : i < l.length) : Frac (rd_T31 l (i : Int)).f0 (rd_T31 l (i : Int)).f1 := by
 have := rdF_drop l i hi
 exact h _ (List.mem_of_mem_drop (i := i) (by rw [this]; simp))
theorem pastv_ok {l : List S31} {a b : Int} (h : DeskP a b l) : (pastv l a b).length ≤ 8 ∧ AllF (pastv l a b) := by
 have h2 := h.2.1
 have h3 : AllF (l ++ [(⟨a, b⟩ : S31)]) := by
  intro x hx
  rcases List.mem_append.1 hx with h1 | h1
  ·exact h.2.2 x h1
  ·simp only [List.mem_singleton] at h1; subst h1; exact h.1
 unfold pastv
 split
 ·exact ⟨by simp; omega, fun x hx => h3 x (List.mem_of_mem_drop hx)⟩
 ·exact ⟨by simp; omega, h3⟩
theorem dov_ok {a b : Int} {l : List S31} {kind : Int} {t : List UInt8} (h : DeskP a b l) : DeskP (dov a b l kind t).1 (dov a b l kind t).2.1 (dov a b l kind t).2.2.1 := by
 have h2 := h.2.1
 unfold dov
 split
 ·next hc =>
  have hl : 0 < l.length := List.length_pos_iff.2 hc.2.2
  exact ⟨allF_rd h.2.2 (by omega), by simp; omega, fun x hx => h.2.2 x (List.mem_of_mem_take hx)⟩
 ·split
  ·next hc =>
   refine ⟨made_frac (x := (madev a b kind t).1) (y := (madev a b kind t).2.1) (kind := kind) (t := t) h.1 ?_, (pastv_ok h).1, (pastv_ok h).2⟩
   rw [← hc.1]
  ·exact h
theorem spec_DanceOk_l0 (s : ByteArray) (hs : s.size ≤ 1000000000) (n : Nat) : ∀ i : Nat, i + n = s.size → ∀ k, n < k → spec_DanceOk.l0 k s (i : Int) = some (decide (s.size ≤ 40 ∧ AllM (s.data.toList.drop i))) := by
 induction n with
 | zero =>
  intro i hi k hk
  obtain ⟨k, rfl⟩ : ∃ m, k = m + 1 := ⟨k - 1, by omega⟩
  simp only [spec_DanceOk.l0]
  rw [if_neg (by omega), drop_end (by omega)]
  exact dec_iff ⟨fun x => ⟨by omega, allM_nil⟩, fun x => by omega⟩
 | succ n ih =>
  intro i hi k hk
  obtain ⟨k, rfl⟩ : ∃ m, k = m + 1 := ⟨k - 1, by omega⟩
  obtain ⟨c, hd, hb⟩ := bt_drop (s := s) (i := i) (by omega)
  simp only [spec_DanceOk.l0]
  rw [if_pos (by omega), if_pos (by omega), hb, hd, wrap64_in (by omega) (by omega), show ((i : Int) + 1) = ((i + 1 : Nat) : Int) by omega, ih (i + 1) (by omega) k (by omega)]
  have e1 : (((c.toNat : Nat) : Int) = 84) ↔ c = 84 := u8_eq (n := 84) (by omega)
  have e2 : (((c.toNat : Nat) : Int) = 116) ↔ c = 116 := u8_eq (n := 116) (by omega)
  have e3 : (((c.toNat : Nat) : Int) = 82) ↔ c = 82 := u8_eq (n := 82) (by omega)
  have yes : MoveP c → some (decide (s.size ≤ 40 ∧ AllM (s.data.toList.drop (i + 1)))) = some (decide (s.size ≤ 40 ∧ AllM (c :: s.data.toList.drop (i + 1)))) := by
   intro h; exact dec_iff ⟨fun x => ⟨x.1, (allM_cons _ _).2 ⟨h, x.2⟩⟩, fun x => ⟨x.1, ((allM_cons _ _).1 x.2).2⟩⟩
  by_cases h1 : c = 84
  ·rw [if_pos (e1.2 h1)]; exact yes (.inl h1)
  ·rw [if_neg (fun x => h1 (e1.1 x))]
   by_cases h2 : c = 116
   ·rw [if_pos (e2.2 h2)]; exact yes (.inr (.inl h2))
   ·rw [if_neg (fun x => h2 (e2.1 x))]
    by_cases h3 : c = 82
    ·rw [if_pos (e3.2 h3)]; exact yes (.inr (.inr h3))
    ·rw [if_neg (fun x => h3 (e3.1 x))]
     exact (dec_false (fun x => by rcases ((allM_cons _ _).1 x.2).1 with y | y | y <;> contradiction)).symm
theorem spec_DanceOk_f (s : ByteArray) {k : Nat} (hs : s.size ≤ 100000000) (hk : 100000001 ≤ k) : spec_DanceOk.f k s = some (decide (DanceP s)) := by
 unfold spec_DanceOk.f
 have := spec_DanceOk_l0 s (by omega) s.size 0 (by omega) k (by omega)
 rw [show ((0 : Nat) : Int) = 0 from rfl] at this
 rw [this]
 exact dec_iff (by unfold DanceP DanceL; simp)
theorem spec_PlusOf_f (a b n : Int) {k : Nat} (hk : 1000001 ≤ k) : spec_PlusOf.f k a b n = some (if Frac a b ∧ (-1000000 ≤ n ∧ n ≤ 1000000) then plusv a b n else (0, 0, false)) := by
 unfold spec_PlusOf.f
 simp only [spec_FractionOk_f _ _ hk, spec_l1In_f, Option.bind_some, decide_eq_true_eq]
 by_cases h : Frac a b
 ·rw [if_pos h]
  by_cases hn : -1000000 ≤ n ∧ n ≤ 1000000
  ·rw [if_pos hn, plus_wrap h hn, if_pos (show Frac a b ∧ (-1000000 ≤ n ∧ n ≤ 1000000) from ⟨h, hn⟩)]; unfold plusv; split <;> rfl
  ·rw [if_neg hn, if_neg (fun x => hn x.2)]
 ·rw [if_neg h, if_neg (fun x => h x.1)]
theorem spec_OverOf_f (a b : Int) {k : Nat} (hk : 1000002 ≤ k) : spec_OverOf.f k a b = some (if Frac a b then overv a b else (0, 0)) := by
 unfold spec_OverOf.f
 rw [spec_FractionOk_f _ _ (by omega)]; simp only [Option.bind_some, decide_eq_true_eq]
 by_cases h : Frac a b
 ·have h2 := h.2.1
  rw [if_pos h, if_pos h, wrap64_in (by omega) (by omega), spec_LowestOf_f _ _ hk, over_lowof h]; rfl
 ·rw [if_neg h, if_neg h]
theorem spec_l2Move_f {f : Int × Int} (hf : Frac f.1 f.2) (m : UInt8) {k : Nat} (hk : 1000002 ≤ k) : spec_l2Move.f k f.1 f.2 ((m.toNat : Nat) : Int) = some (dansw (dmove f m)) := by
 obtain ⟨a, b⟩ := f
 simp only at hf
 have e1 : (((m.toNat : Nat) : Int) = 84) ↔ m = 84 := u8_eq (n := 84) (by omega)
 have e2 : (((m.toNat : Nat) : Int) = 116) ↔ m = 116 := u8_eq (n := 116) (by omega)
 unfold spec_l2Move.f dmove
 simp only
 have p1 : plusv a b 1 = dansw (if Frac (a + b) b then some (a + b, b) else none) := by unfold plusv; rw [Int.one_mul]; split <;> rfl
 have p2 : plusv a b (-1) = dansw (if Frac (a - b) b then some (a - b, b) else none) := by unfold plusv; rw [show a + -1 * b = a - b by omega]; split <;> rfl
 by_cases h1 : m = 84
 ·rw [if_pos (e1.2 h1), if_pos h1, spec_PlusOf_f _ _ _ (by omega), if_pos (show Frac a b ∧ (-1000000 ≤ (1 : Int) ∧ (1 : Int) ≤ 1000000) from ⟨hf, by omega⟩), p1]; rfl
 ·rw [if_neg (fun x => h1 (e1.1 x)), if_neg h1]
  by_cases h2 : m = 116
  ·rw [if_pos (e2.2 h2), if_pos h2, spec_PlusOf_f _ _ _ (by omega), if_pos (show Frac a b ∧ (-1000000 ≤ (-1 : Int) ∧ (-1 : Int) ≤ 1000000) from ⟨hf, by omega⟩), p2]; rfl
  ·rw [if_neg (fun x => h2 (e2.1 x)), if_neg h2, spec_OverOf_f _ _ (by omega), spec_FractionOk_f _ _ (by omega)]; simp only [Option.bind_some]
   rw [if_pos hf, decide_eq_true hf]; rfl
theorem spec_DancedFrom_l0 (s : ByteArray) (hs : s.size ≤ 40) (n : Nat) : ∀ (i : Nat) (f : Int × Int), i + n = s.size → Frac f.1 f.2 → ∀ k, n + 1000003 ≤ k →
  spec_DancedFrom.l0 k s (i : Int) f.1 f.2 = some (dansw (dafter (s.data.toList.drop i) f)) := by
 induction n with
 | zero =>
  intro i f hi hf k hk
  obtain ⟨k, rfl⟩ : ∃ m, k = m + 1 := ⟨k - 1, by omega⟩
  simp only [spec_DancedFrom.l0]
  rw [if_neg (by omega), drop_end (by omega)]; rfl
 | succ n ih =>
  intro i f hi hf k hk
  obtain ⟨k, rfl⟩ : ∃ m, k = m + 1 := ⟨k - 1, by omega⟩
  obtain ⟨m, hd, hb⟩ := bt_drop (s := s) (i := i) (by omega)
  simp only [spec_DancedFrom.l0]
  rw [if_pos (by omega), if_pos (by omega), hb, hd, wrap64_in (n := (i : Int) + 1) (by omega) (by omega), show ((i : Int) + 1) = ((i + 1 : Nat) : Int) by omega, spec_l2Move_f hf m (by omega)]
  simp only [Option.bind_some, dafter]
  cases hm : dmove f m with
  | none => rfl
  | some g =>
   simp only [dansw, Option.bind_some]
   rw [if_pos trivial]
   exact ih (i + 1) g (by omega) (dmove_frac hf hm) k (by omega)
theorem spec_DancedFrom_f (a b : Int) (s : ByteArray) {k : Nat} (hs : s.size ≤ 100000000) (hk : 100000002 ≤ k) : spec_DancedFrom.f k a b s = some (dancedfv a b s.data.toList) := by
 obtain ⟨k, rfl⟩ : ∃ m, k = m + 1 := ⟨k - 1, by omega⟩
 unfold spec_DancedFrom.f dancedfv
 rw [spec_DanceOk_f s hs (by omega), spec_FractionOk_f _ _ (by omega)]; simp only [Option.bind_some, decide_eq_true_eq, spec_DancedFrom.j0]
 by_cases h : DanceP s
 ·rw [if_pos h]
  by_cases h1 : Frac a b
  ·have hl : s.size ≤ 40 := h.1
   rw [decide_eq_true h1, if_neg (by decide), if_pos ⟨h, h1⟩]
   have := spec_DancedFrom_l0 s hl s.size 0 (a, b) (by omega) h1 k (by omega)
   rw [List.drop_zero] at this
   exact this
  ·rw [decide_eq_false h1, if_pos (by decide), if_neg (fun x => h1 x.2)]
 ·rw [if_neg h, if_pos trivial, if_neg (fun x => h x.1)]
theorem spec_l1Cut_l0 (s : ByteArray) (hs : s.size ≤ 100000000) (c : UInt8) (n : Nat) : ∀ (i f : Nat) (out : List ByteArray), i + n = s.size → f ≤ i → out.length ≤ i → ∀ k, n < k →
  spec_l1Cut.l0 k s ((c.toNat : Nat) : Int) out (f : Int) (i : Int) = some (out ++ (splitL c ((s.data.toList.drop f).take (i - f)) (s.data.toList.drop i)).map ba) := by
 have hl : s.data.toList.length = s.size := rfl
 induction n with
 | zero =>
  intro i f out hi hf ho k hk
  obtain ⟨k, rfl⟩ : ∃ m, k = m + 1 := ⟨k - 1, by omega⟩
  simp only [spec_l1Cut.l0]
  rw [if_neg (by omega), if_pos (by omega), if_pos (by omega), if_pos (by omega), drop_end (i := i) (by omega), ba_extract]
  simp only [splitL, List.map_cons, List.map_nil, Int.toNat_natCast]
  rw [show i = s.size by omega]
 | succ n ih =>
  intro i f out hi hf ho k hk
  obtain ⟨k, rfl⟩ : ∃ m, k = m + 1 := ⟨k - 1, by omega⟩
  obtain ⟨x, hd, hb⟩ := bt_drop (s := s) (i := i) (by omega)
  simp only [spec_l1Cut.l0]
  rw [if_pos (by omega), if_pos (by omega), hb, hd, wrap64_in (n := (i : Int) + 1) (by omega) (by omega), show ((i : Int) + 1) = ((i + 1 : Nat) : Int) by omega]
  have e : (((x.toNat : Nat) : Int) = ((c.toNat : Nat) : Int)) ↔ x = c := ⟨fun h => UInt8.toNat_inj.1 (by omega), fun h => by rw [h]⟩
  simp only [splitL]
  by_cases h : x = c
  ·rw [if_pos (e.2 h), if_pos (by omega), if_pos (by omega), if_pos (by omega), if_pos (by omega), if_pos h]
   rw [ih (i + 1) (i + 1) _ (by omega) (by omega) (by simp; omega) k (by omega), ba_extract]
   simp
  ·rw [if_neg (fun y => h (e.1 y)), if_neg h, ih (i + 1) f out (by omega) (by omega) (by omega) k (by omega)]
   have e2 : (s.data.toList.drop f).take (i + 1 - f) = (s.data.toList.drop f).take (i - f) ++ [x] := by
    rw [show i + 1 - f = (i - f) + 1 by omega, List.take_add_one, List.getElem?_drop, show f + (i - f) = i by omega]
    have : s.data.toList[i]? = some x := by
     have := congrArg List.head? hd
     rw [List.head?_drop] at this
     simpa using this
    rw [this]; rfl
   rw [e2]
theorem spec_l1Cut_f (s : ByteArray) (c : UInt8) {k : Nat} (hs : s.size ≤ 100000000) (hk : s.size < k) : spec_l1Cut.f k s ((c.toNat : Nat) : Int) = some ((splitL c [] s.data.toList).map ba) := by
 unfold spec_l1Cut.f
 have := spec_l1Cut_l0 s hs c s.size 0 0 [] (by omega) (by omega) (by simp) k (by omega)
 simpa using this
theorem pow_mono {a b : Nat} (h : a ≤ b) : (10 : Int) ^ a ≤ 10 ^ b := by
 have := Nat.pow_le_pow_right (show 0 < 10 by omega) h
 have e : ∀ n : Nat, (10 : Int) ^ n = ((10 ^ n : Nat) : Int) := fun n => by rw [Int.natCast_pow]; rfl
 rw [e, e]; omega
theorem digL_bd : ∀ (l : List UInt8) (a : Int) (B : Nat), 0 ≤ a → a < 10 ^ B → 0 ≤ (digL a l).1 ∧ (digL a l).1 < 10 ^ (B + l.length)
 | [], a, B, h0, h1 => ⟨h0, by simpa [digL] using h1⟩
 | c :: r, a, B, h0, h1 => by
  simp only [digL]
  by_cases hc : DigP c
  ·rw [if_pos hc]
   unfold DigP at hc
   have e : (10 : Int) ^ (B + 1) = 10 * 10 ^ B := by rw [Int.pow_succ]; omega
   have := digL_bd r (10 * a + ((c.toNat : Int) - 48)) (B + 1) (by omega) (by rw [e]; omega)
   rw [List.length_cons, show B + (r.length + 1) = B + 1 + r.length by omega]
   exact this
  ·rw [if_neg hc]
   exact ⟨Int.le_refl _, Int.pow_pos (by omega)⟩
theorem spec_l1Digits_l0 (s : ByteArray) (hs : s.size ≤ 7) (n : Nat) : ∀ (i : Nat) (a : Int), i + n = s.size → 0 ≤ a → a < 10 ^ i → ∀ k, n < k → spec_l1Digits.l0 k s a (i : Int) = some (digL a (s.data.toList.drop i)) := by
 induction n with
 | zero =>
  intro i a hi h0 h1 k hk
  obtain ⟨k, rfl⟩ : ∃ m, k = m + 1 := ⟨k - 1, by omega⟩
  simp only [spec_l1Digits.l0]
  rw [if_neg (by omega), drop_end (by omega)]; rfl
 | succ n ih =>
  intro i a hi h0 h1 k hk
  obtain ⟨k, rfl⟩ : ∃ m, k = m + 1 := ⟨k - 1, by omega⟩
  obtain ⟨x, hd, hb⟩ := bt_drop (s := s) (i := i) (by omega)
  have hp : (10 : Int) ^ i ≤ 10 ^ 7 := pow_mono (by omega)
  have e10 : (10 : Int) ^ 7 = 10000000 := by decide
  have e : (10 : Int) ^ (i + 1) = 10 * 10 ^ i := by rw [Int.pow_succ]; omega
  simp only [spec_l1Digits.l0]
  rw [if_pos (by omega), if_pos (by omega), hb, hd]
  simp only [digL]
  by_cases hc : DigP x
  ·have hc' := hc
   unfold DigP at hc'
   rw [if_neg (by omega), if_neg (by omega), if_pos hc, wrap64_in (n := (i : Int) + 1) (by omega) (by omega), wrap64_in (n := 10 * a) (by omega) (by omega), show (((x.toNat : Nat) : Int) - 48) % 256 = ((x.toNat : Nat) : Int) - 48 by omega, wrap64_in (by omega) (by omega), show ((i : Int) + 1) = ((i + 1 : Nat) : Int) by omega]
   exact ih (i + 1) _ (by omega) (by omega) (by rw [e]; omega) k (by omega)
  ·rw [if_neg hc]
   unfold DigP at hc
   by_cases h : ((x.toNat : Nat) : Int) < 48
   ·rw [if_pos h]
   ·rw [if_neg h, if_pos (by omega)]
theorem digs0_bd (l : List UInt8) : 0 ≤ (digs0 l).1 ∧ (digs0 l).1 < 10000000 := by
 unfold digs0
 split
 ·next h =>
  have := digL_bd l 0 0 (by omega) (by decide)
  have hp : (10 : Int) ^ (0 + l.length) ≤ 10 ^ 7 := pow_mono (by omega)
  have e10 : (10 : Int) ^ 7 = 10000000 := by decide
  omega
 ·simp
theorem digsv_bd : ∀ l : List UInt8, -10000000 < (digsv l).1 ∧ (digsv l).1 < 10000000
 | [] => by have := digs0_bd []; simp only [digsv]; omega
 | [c] => by have := digs0_bd [c]; simp only [digsv]; omega
 | c :: d :: r => by
  have h1 := digs0_bd (c :: d :: r)
  have h2 := digsv_bd (d :: r)
  simp only [digsv]
  split
  ·simp only; omega
  ·omega
theorem l1Digits_head (s : ByteArray) {c : UInt8} {r : List UInt8} (h : s.data.toList = c :: r) : bt s 0 = ((c.toNat : Nat) : Int) := by
 have hl : s.data.toList.length = s.size := rfl
 obtain ⟨x, hd, hb⟩ := bt_drop (s := s) (i := 0) (by rw [h] at hl; simp at hl; omega)
 rw [List.drop_zero, h] at hd
 rw [show ((0 : Nat) : Int) = 0 from rfl] at hb
 rw [hb]
 cases hd; rfl
theorem spec_l1Digits_j0f (s : ByteArray) {k : Nat} (hk : 20 ≤ k) : spec_l1Digits.j0 k s false = some (digs0 s.data.toList) := by
 obtain ⟨k, rfl⟩ : ∃ m, k = m + 2 := ⟨k - 2, by omega⟩
 have hl : s.data.toList.length = s.size := rfl
 simp only [spec_l1Digits.j0, spec_l1In_f, Option.bind_some, decide_eq_true_eq]
 rw [if_neg (by decide)]
 unfold digs0
 have L : s.size ≤ 7 → spec_l1Digits.l0 k s 0 0 = some (digL 0 s.data.toList) := by
  intro h7
  have := spec_l1Digits_l0 s h7 s.size 0 0 (by omega) (by omega) (by decide) k (by omega)
  simpa using this
 by_cases h : 1 ≤ (s.size : Int) ∧ (s.size : Int) ≤ 7
 ·rw [if_pos h]
  by_cases h1 : (s.size : Int) > 1
  ·rw [if_pos h1, if_pos (by omega)]
   obtain ⟨c, r, e⟩ : ∃ c r, s.data.toList = c :: r := by
    cases hq : s.data.toList with
    | nil => rw [hq] at hl; simp at hl; omega
    | cons c r => exact ⟨c, r, rfl⟩
   rw [l1Digits_head s e]
   have e48 : (((c.toNat : Nat) : Int) = 48) ↔ c = 48 := u8_eq (n := 48) (by omega)
   simp only [spec_l1Digits.j1]
   by_cases hc : c = 48
   ·rw [if_pos (by simpa using e48.2 hc), if_neg (fun x => x.2 ⟨by omega, by rw [e, hc]; rfl⟩)]
   ·rw [if_neg (by simpa using fun x => hc (e48.1 x)), L (by omega), if_pos ⟨by omega, fun x => hc (by have := x.2; rw [e] at this; simpa using this)⟩]
  ·simp only [spec_l1Digits.j1]
   rw [if_neg h1, if_neg (by decide), L (by omega), if_pos ⟨by omega, fun x => by omega⟩]
 ·simp only [spec_l1Digits.j1]
  rw [if_neg h, if_pos trivial, if_neg (fun x => h (by omega))]
theorem spec_l1Digits_aux (n : Nat) : ∀ (s : ByteArray) (k : Nat), s.size = n → n ≤ 100000000 → 2 * n + 30 ≤ k → spec_l1Digits.f k s = some (digsv s.data.toList) := by
 induction n with
 | zero =>
  intro s k hn _ hk
  obtain ⟨k, rfl⟩ : ∃ m, k = m + 1 := ⟨k - 1, by omega⟩
  have hl : s.data.toList.length = s.size := rfl
  have e : s.data.toList = [] := List.length_eq_zero_iff.1 (by omega)
  simp only [spec_l1Digits.f]
  rw [if_neg (by omega), spec_l1Digits_j0f s (by omega), e]; rfl
 | succ n ih =>
  intro s k hn hb hk
  obtain ⟨k, rfl⟩ : ∃ m, k = m + 2 := ⟨k - 2, by omega⟩
  have hl : s.data.toList.length = s.size := rfl
  cases hq : s.data.toList with
  | nil => rw [hq] at hl; simp at hl; omega
  | cons c r =>
   cases r with
   | nil =>
    have h1 : s.size = 1 := by rw [hq] at hl; simp at hl; omega
    simp only [spec_l1Digits.f]
    rw [if_neg (by omega), spec_l1Digits_j0f s (by omega), hq]; rfl
   | cons d r =>
    have h1 : 2 ≤ s.size := by rw [hq] at hl; simp at hl; omega
    have e45 : (((c.toNat : Nat) : Int) = 45) ↔ c = 45 := u8_eq (n := 45) (by omega)
    simp only [spec_l1Digits.f]
    rw [if_pos (by omega), if_pos (by omega), l1Digits_head s hq]
    simp only [digsv]
    by_cases hc : c = 45
    ·have ex : s.extract 1 s.size = ba (d :: r) := by
      rw [ba_extract, hq]; simp only [List.drop_succ_cons, List.drop_zero]
      rw [List.take_of_length_le (by rw [hq] at hl; simp at hl ⊢; omega)]
     have IH := ih (ba (d :: r)) k (by rw [ba_size]; rw [hq] at hl; simp at hl ⊢; omega) (by omega) (by omega)
     rw [ba_list] at IH
     have hbd := digsv_bd (d :: r)
     simp only [spec_l1Digits.j0]
     rw [if_pos hc, if_pos (by simpa using e45.2 hc), if_pos (by omega), ex, IH]; simp only [Option.bind_some]
     rw [wrap64_in (by omega) (by omega)]
     by_cases h2 : (digsv (d :: r)).2 = true
     ·rw [if_pos h2, h2, Bool.true_and]
     ·rw [if_neg h2]
      rw [Bool.not_eq_true] at h2
      rw [h2, Bool.false_and]
    ·rw [if_neg hc]
     have : (((c.toNat : Nat) : Int) == 45) = false := by simpa using fun x => hc (e45.1 x)
     rw [this, spec_l1Digits_j0f s (by omega), hq]
theorem spec_l1Digits_f (s : ByteArray) {k : Nat} (hs : s.size ≤ 100000000) (hk : 200001000 ≤ k) : spec_l1Digits.f k s = some (digsv s.data.toList) := spec_l1Digits_aux s.size s k rfl hs (by omega)
theorem splitL_sub (c : UInt8) : ∀ (l cur : List UInt8), ∀ w ∈ splitL c cur l, w.length ≤ cur.length + l.length
 | [], cur, w, h => by simp [splitL] at h; subst h; simp
 | x :: r, cur, w, h => by
  simp only [splitL] at h
  split at h
  ·rcases List.mem_cons.1 h with h1 | h1
   ·subst h1; simp
   ·have := splitL_sub c r [] w h1
    simp at this ⊢; omega
  ·have := splitL_sub c r _ w h
   simp at this ⊢; omega
theorem spec_ReadFraction_f (s : ByteArray) {k : Nat} (hs : s.size ≤ 100000000) (hk : 300000000 ≤ k) : spec_ReadFraction.f k s = some (readL s.data.toList) := by
 have hl : s.data.toList.length = s.size := rfl
 unfold spec_ReadFraction.f readL
 have hc := spec_l1Cut_f s 47 (k := k) hs (by omega)
 rw [show (((47 : UInt8).toNat : Nat) : Int) = 47 from rfl] at hc
 rw [hc]; simp only [Option.bind_some, List.length_map]
 have hsub := splitL_sub 47 s.data.toList []
 obtain ⟨x0, r0, hw⟩ := splitL_cons 47 s.data.toList []
 have hnil : s.data.toList = [] → splitL 47 [] s.data.toList = [[]] := by intro h; rw [h]; rfl
 generalize splitL 47 [] s.data.toList = W at *
 have dig : ∀ w ∈ W, spec_l1Digits.f k (ba w) = some (digsv w) := by
  intro w h
  have := hsub w h
  have h2 := spec_l1Digits_f (ba w) (k := k) (by rw [ba_size]; simp at this; omega) (by omega)
  rw [ba_list] at h2
  exact h2
 have fin : ∀ (v w : Int), (s.data.toList = [] → ¬ Frac v w ∧ False) → ((spec_FractionText.f k v w).bind fun t => (if t.toList = s.toList then (some (v, w, true)) else (some (0, 0, false)))) = some (if True ∧ Frac v w ∧ fracT v w = s.data.toList then (v, w, true) else (0, 0, false)) := by
  intro v w h0
  rw [spec_FractionText_f _ _ (by omega)]; simp only [Option.bind_some]
  rw [ba_toList, ByteArray.toList_eq]
  unfold fracTv
  by_cases hf : Frac v w
  ·rw [if_pos hf]
   by_cases he : fracT v w = s.data.toList
   ·rw [if_pos he, if_pos ⟨trivial, hf, he⟩]
   ·rw [if_neg he, if_neg (fun x => he x.2.2)]
  ·rw [if_neg hf, if_neg (fun x => (h0 x.symm).2), if_neg (fun x => hf x.2.1)]
 subst hw
 match r0, dig, hnil with
 | [], dig, hnil =>
  have d0 := dig x0 (by simp)
  rw [if_pos (by simp), show rdOf ByteArray.empty (List.map ba [x0]) 0 = ba x0 from rfl, d0]; simp only [Option.bind_some]
  rw [if_neg (by simp)]
  simp only [readW]
  by_cases h : (digsv x0).2 = true
  ·rw [if_pos h, if_neg (by simp), fin _ _ (fun h0 => by
    have := hnil h0
    simp only [List.cons.injEq, and_true] at this
    rw [this] at h
    exact absurd h (by decide))]
   simp [h]
  ·rw [if_neg h]; exact congrArg some (if_neg (fun x => h x.1)).symm
 | [y], dig, hnil =>
  have d0 := dig x0 (by simp)
  have d1 := dig y (by simp)
  rw [if_pos (by simp), show rdOf ByteArray.empty (List.map ba [x0, y]) 0 = ba x0 from rfl, d0]; simp only [Option.bind_some]
  rw [if_pos (by simp), if_pos (by simp), show rdOf ByteArray.empty (List.map ba [x0, y]) 1 = ba y from rfl, d1]; simp only [Option.bind_some]
  simp only [readW]
  by_cases h : (digsv x0).2 = true
  ·rw [if_pos h]
   by_cases h' : (digsv y).2 = true
   ·rw [if_pos h', if_neg (by simp), fin _ _ (fun h0 => by have := hnil h0; simp at this)]
    simp [h, h']
   ·rw [if_neg h']; exact congrArg some (if_neg (fun x => h' (by have := x.1; simp at this; exact this.2))).symm
  ·rw [if_neg h]; exact congrArg some (if_neg (fun x => h (by have := x.1; simp at this; exact this.1))).symm
 | y :: z :: r, dig, hnil =>
  have d0 := dig x0 (by simp)
  rw [if_pos (by simp; omega), show rdOf ByteArray.empty (List.map ba (x0 :: y :: z :: r)) 0 = ba x0 from rfl, d0]; simp only [Option.bind_some]
  have hlen : ((x0 :: y :: z :: r).length : Int) > 2 := by simp; omega
  rw [if_neg (by simp; omega)]
  simp only [if_pos hlen]
  refine Eq.trans ?_ (congrArg some (if_neg (fun x => Bool.false_ne_true x.1)).symm)
  split <;> rfl
theorem spec_UntiedOf_l0 (n : Nat) : ∀ (t : List UInt8) (a b : Int) (r : List UInt8), SmallU a b → t.length + n ≤ 1000 → unt n t a b = some r → ∀ k, n + 1000003 ≤ k → spec_UntiedOf.l0 k (ba t) a b = some (ba r, true) := by
 induction n with
 | zero => intro t a b r _ _ h; simp [unt] at h
 | succ n ih =>
  intro t a b r hs ht h k hk
  obtain ⟨k, rfl⟩ : ∃ m, k = m + 1 := ⟨k - 1, by omega⟩
  simp only [spec_UntiedOf.l0]
  simp only [unt] at h
  by_cases h0 : a = 0
  ·rw [if_pos h0] at h ⊢; cases h; rfl
  ·rw [if_neg h0] at h ⊢
   by_cases h1 : a < 0
   ·rw [if_pos h1] at h ⊢
    have hp := smallU_plus hs h1
    rw [spec_PlusOf_f _ _ _ (by omega), if_pos (show Frac a b ∧ (-1000000 ≤ (1 : Int) ∧ (1 : Int) ≤ 1000000) from ⟨hs.1, by omega⟩)]; simp only [Option.bind_some]
    unfold plusv
    rw [Int.one_mul, if_pos hp.1, ba_size, if_pos (by omega)]
    have := ih (t ++ [84]) (a + b) b r hp (by simp; omega) h k (by omega)
    rw [← ba_append] at this
    exact this
   ·rw [if_neg h1] at h ⊢
    rw [spec_OverOf_f _ _ (by omega), if_pos hs.1]; simp only [Option.bind_some]
    rw [ba_size, if_pos (by omega)]
    have := ih (t ++ [82]) _ _ r (smallU_over hs) (by simp; omega) h k (by omega)
    rw [← ba_append] at this
    exact this
theorem spec_UntiedOf_f (a b : Int) {k : Nat} (hk : 1001000 ≤ k) : spec_UntiedOf.f k a b = some (ba (untv a b).1, (untv a b).2) := by
 obtain ⟨k, rfl⟩ : ∃ m, k = m + 1 := ⟨k - 1, by omega⟩
 unfold spec_UntiedOf.f untv
 rw [spec_FractionOk_f _ _ (by omega)]; simp only [Option.bind_some, decide_eq_true_eq, spec_l1In_f, spec_UntiedOf.j0]
 by_cases h : Frac a b
 ·rw [if_pos h]
  by_cases h1 : -12 ≤ a ∧ a ≤ 12
  ·rw [if_pos h1]
   by_cases h2 : b > 12
   ·rw [if_pos h2, if_neg (fun x : SmallU a b => by have := x.2.2; omega)]; rfl
   ·have hS : SmallU a b := ⟨h, h1, by omega⟩
    obtain ⟨r, hr⟩ := unt_some hS
    rw [if_neg h2, if_pos hS, hr]
    exact spec_UntiedOf_l0 100 [] a b r hS (by simp) hr k (by omega)
  ·rw [if_neg h1, if_pos trivial, if_neg (fun x : SmallU a b => h1 x.2.1)]; rfl
 ·rw [if_neg h, if_pos trivial, if_neg (fun x : SmallU a b => h x.1)]; rfl
theorem spec_MirrorOf_f (a b : Int) {k : Nat} (hk : 1000002 ≤ k) : spec_MirrorOf.f k a b = some (if Frac a b then mirv a b else (0, 0)) := by
 unfold spec_MirrorOf.f
 simp only [spec_FractionOk_f _ _ (show 1000001 ≤ k by omega), Option.bind_some, decide_eq_true_eq]
 by_cases h : Frac a b
 ·have h1 := h.1
  rw [if_pos h, if_pos h, wrap64_in (by omega) (by omega), spec_LowestOf_f _ _ hk, mir_low h]; rfl
 ·rw [if_neg h, if_neg h]
theorem spec_DeskOk_l0 (a b : Int) (l : List S31) (hl : l.length ≤ 1000000000) (n : Nat) : ∀ i : Nat, i + n = l.length → ∀ k, n + 1000002 ≤ k → spec_DeskOk.l0 k (i : Int) a b l = some (decide (Frac a b ∧ l.length ≤ 8 ∧ AllF (l.drop i))) := by
 induction n with
 | zero =>
  intro i hi k hk
  obtain ⟨k, rfl⟩ : ∃ m, k = m + 1 := ⟨k - 1, by omega⟩
  simp only [spec_DeskOk.l0]
  rw [if_neg (by omega), spec_FractionOk_f _ _ (by omega), List.drop_of_length_le (by omega)]; simp only [Option.bind_some, decide_eq_true_eq]
  have e : AllF [] := by intro x hx; simp at hx
  by_cases h : Frac a b
  ·rw [if_pos h]; exact dec_iff ⟨fun x => ⟨h, by omega, e⟩, fun x => by omega⟩
  ·rw [if_neg h]; exact (dec_false (fun x => h x.1)).symm
 | succ n ih =>
  intro i hi k hk
  obtain ⟨k, rfl⟩ : ∃ m, k = m + 1 := ⟨k - 1, by omega⟩
  simp only [spec_DeskOk.l0]
  rw [if_pos (by omega), if_pos (by omega), spec_FractionOk_f _ _ (by omega), rdF_drop l i (by omega)]; simp only [Option.bind_some, decide_eq_true_eq]
  by_cases h : Frac (rd_T31 l (i : Int)).f0 (rd_T31 l (i : Int)).f1
  ·rw [if_pos h, wrap64_in (by omega) (by omega), show ((i : Int) + 1) = ((i + 1 : Nat) : Int) by omega, ih (i + 1) (by omega) k (by omega)]
   exact dec_iff ⟨fun x => ⟨x.1, x.2.1, (allF_cons _ _).2 ⟨h, x.2.2⟩⟩, fun x => ⟨x.1, x.2.1, ((allF_cons _ _).1 x.2.2).2⟩⟩
  ·rw [if_neg h]; exact (dec_false (fun x => h ((allF_cons _ _).1 x.2.2).1)).symm
theorem spec_DeskOk_f (a b : Int) (l : List S31) (hl : l.length ≤ 100000000) {k : Nat} (hk : 101001000 ≤ k) : spec_DeskOk.f k a b l = some (decide (DeskP a b l)) := by
 unfold spec_DeskOk.f
 have := spec_DeskOk_l0 a b l (by omega) l.length 0 (by omega) k (by omega)
 rw [List.drop_zero] at this
 exact this
theorem toList_nil (t : ByteArray) : (t.toList == ([] : List UInt8)) = decide (t.data.toList = []) := by
 rw [ByteArray.toList_eq]
 cases t.data.toList with
 | nil => rfl
 | cons a l => rfl
theorem spec_l11Made_f (a b kind : Int) (t : ByteArray) {k : Nat} (hf : Frac a b) (ht : t.size ≤ 100000000) (hk : 300000000 ≤ k) : spec_l11Made.f k a b kind t = some (madev a b kind t.data.toList) := by
 unfold spec_l11Made.f madev
 rw [toList_nil]
 by_cases h0 : kind = 0
 ·rw [if_pos h0, if_pos h0, spec_DancedFrom_f _ _ _ ht (by omega)]; rfl
 ·rw [if_neg h0, if_neg h0]
  by_cases h1 : kind = 1
  ·rw [if_pos h1, if_pos h1, spec_ReadFraction_f _ ht hk]; rfl
  ·rw [if_neg h1, if_neg h1]
   by_cases h2 : kind = 2 ∧ t.data.toList = []
   ·rw [if_pos h2, if_pos (by simp [h2.1, h2.2]), spec_MirrorOf_f _ _ (by omega), if_pos hf]; rfl
   ·rw [if_neg h2, if_neg (by simpa using h2)]
    by_cases h3 : kind = 3 ∧ t.data.toList = []
    ·rw [if_pos h3, if_pos (by simp [h3.1, h3.2]), spec_UntiedOf_f _ _ (by omega)]; rfl
    ·rw [if_neg h3, if_neg (by simpa using h3)]
theorem past_end (l : List S31) (a b p q : Int) : (if ((l ++ [(⟨a, b⟩ : S31)]).length : Int) > 8 then (if 1 ≤ ((l ++ [(⟨a, b⟩ : S31)]).length : Int) then (some (p, q, (l ++ [(⟨a, b⟩ : S31)]).drop (1 : Int).toNat, true)) else (none)) else (some (p, q, l ++ [(⟨a, b⟩ : S31)], true))) = some (p, q, pastv l a b, true) := by
 have e : (l ++ [(⟨a, b⟩ : S31)]).length = l.length + 1 := by simp
 unfold pastv
 rw [e]
 by_cases h9 : l.length + 1 > 8
 ·rw [if_pos (show ((l.length + 1 : Nat) : Int) > 8 by omega), if_pos (show 1 ≤ ((l.length + 1 : Nat) : Int) by omega), if_pos h9]; rfl
 ·rw [if_neg (show ¬ ((l.length + 1 : Nat) : Int) > 8 by omega), if_neg h9]
theorem spec_DeskDo_f (a b : Int) (l : List S31) (kind : Int) (t : ByteArray) {k : Nat} (hl : l.length ≤ 100000000) (ht : t.size ≤ 100000000) (hk : 300000002 ≤ k) :
  spec_DeskDo.f k a b l kind t = some (deskdov a b l kind t.data.toList) := by
 obtain ⟨k, rfl⟩ : ∃ m, k = m + 2 := ⟨k - 2, by omega⟩
 unfold spec_DeskDo.f spec_l11Copy.f deskdov
 rw [spec_DeskOk_f _ _ _ hl (by omega)]; simp only [Option.bind_some, decide_eq_true_eq]
 by_cases h : DeskP a b l
 ·have h8 := h.2.1
  rw [if_pos h, if_pos h, if_pos (by simp; omega)]; simp only [Option.bind_some, List.nil_append, spec_DeskDo.j0]
  have go : ∀ n, n + 1 = k + 1 → ((spec_l11Made.f (k + 1) a b kind t).bind fun bt => (if bt.2.2 = true then (spec_DeskDo.j1 (k + 1) (bt.1 == a && (bt.2.1 == b)) a b l bt.1 bt.2.1) else (spec_DeskDo.j1 (k + 1) true a b l bt.1 bt.2.1))) =
    some (if (madev a b kind t.data.toList).2.2 = true ∧ ¬ ((madev a b kind t.data.toList).1 = a ∧ (madev a b kind t.data.toList).2.1 = b) then ((madev a b kind t.data.toList).1, (madev a b kind t.data.toList).2.1, pastv l a b, true) else (a, b, l, false)) := by
   intro n _
   rw [spec_l11Made_f _ _ _ _ h.1 ht (by omega)]; simp only [Option.bind_some, spec_DeskDo.j1]
   generalize madev a b kind t.data.toList = v
   by_cases hv : v.2.2 = true
   ·rw [if_pos hv]
    by_cases he : v.1 = a ∧ v.2.1 = b
    ·rw [if_pos (by simp [he.1, he.2]), if_neg (fun x => x.2 he)]
    ·rw [if_neg (by simpa using he), if_pos (show l.length < 8796093022208 by omega), if_pos (show v.2.2 = true ∧ ¬ (v.1 = a ∧ v.2.1 = b) from ⟨hv, he⟩)]
     exact past_end l a b v.1 v.2.1
   ·rw [if_neg hv, if_pos trivial, if_neg (fun x => hv x.1)]
  unfold dov
  rw [toList_nil]
  by_cases h4 : kind = 4 ∧ t.data.toList = []
  ·rw [if_pos (by simp [h4.1, h4.2])]
   by_cases h5 : l = []
   ·rw [if_neg (by simp [h5]), if_neg (fun x => x.2.2 h5)]
    exact go k rfl
   ·have hl0 : 0 < l.length := List.length_pos_iff.2 h5
    rw [if_pos (by simpa using hl0), wrap64_in (by omega) (by omega), if_pos (by omega), if_pos (by omega), if_pos (by omega), if_pos ⟨h4.1, h4.2, h5⟩, show (l.length : Int) - 1 = ((l.length - 1 : Nat) : Int) by omega]
    rfl
  ·rw [if_neg (by simpa using h4), if_neg (by decide), if_neg (fun x => h4 ⟨x.1, x.2.1⟩)]
   exact go k rfl
 ·rw [if_neg h, if_neg h]
theorem l20Desk_l0 {s : List Int} (hs : RdOk s) (x1 : Int) (n : Nat) : ∀ (p a b : Int) (l : List S31) (k : Nat), 0 ≤ p → p + 400 * n ≤ 600000 → l.length ≤ 8 → n + 300000010 ≤ k →
  ∃ a' b' l' q, spec_l20Desk.l0 k x1 (n : Int) s p a b l = some (a', b', l', q) ∧ l'.length ≤ 9 ∧ p ≤ q ∧ q ≤ p + 400 * n + 20 := by
 induction n with
 | zero =>
  intro p a b l k hp hp' hl hk
  obtain ⟨k, rfl⟩ : ∃ m, k = m + 1 := ⟨k - 1, by omega⟩
  simp only [spec_l20Desk.l0]
  rw [if_neg (by omega)]
  obtain ⟨o, q, ho, r0, r1⟩ := odd_f (k := k) (p := p) x1 hs (by omega) (by omega) (by omega)
  rw [ho]; simp only [Option.bind_some]
  split
  ·obtain ⟨w, hw, _⟩ := pick_f (k := k) (p := q) 3 hs (by omega) (by omega) (by omega)
   rw [hw]; simp only [Option.bind_some]
   split
   ·exact ⟨_, _, _, _, rfl, by omega, by omega, by omega⟩
   ·split
    ·rw [if_pos (by omega)]
     exact ⟨_, _, _, _, rfl, by simp; omega, by omega, by omega⟩
    ·exact ⟨_, _, _, _, rfl, by simp, by omega, by omega⟩
  ·exact ⟨_, _, _, _, rfl, by omega, by omega, by omega⟩
 | succ n ih =>
  intro p a b l k hp hp' hl hk
  obtain ⟨k, rfl⟩ : ∃ m, k = m + 1 := ⟨k - 1, by omega⟩
  simp only [spec_l20Desk.l0]
  rw [if_pos (by omega)]
  obtain ⟨d, t, q, hd, ht, q0, q1⟩ := l20Deed_f (k := k) (p := p) hs (by omega) (by omega) (by omega)
  rw [hd]; simp only [Option.bind_some]
  rw [spec_DeskDo_f _ _ _ _ _ (by omega) (by omega) (by omega), wrap64_in (by omega) (by omega), show ((n + 1 : Nat) : Int) - 1 = (n : Int) by omega]; simp only [Option.bind_some]
  have hlen : (deskdov a b l d t.data.toList).2.2.1.length ≤ 8 := by
   unfold deskdov
   split
   ·next h => exact (dov_ok h).2.1
   ·simp
  split
  ·obtain ⟨a', b', l', q', e, e1, e2, e3⟩ := ih q (deskdov a b l d t.data.toList).1 (deskdov a b l d t.data.toList).2.1 (deskdov a b l d t.data.toList).2.2.1 k (by omega) (by omega) hlen (by omega)
   exact ⟨a', b', l', q', e, e1, by omega, by omega⟩
  ·obtain ⟨a', b', l', q', e, e1, e2, e3⟩ := ih q a b l k (by omega) (by omega) hl (by omega)
   exact ⟨a', b', l', q', e, e1, by omega, by omega⟩
theorem l20Desk_f {s : List Int} {p : Int} (n : Int) {k : Nat} (hs : RdOk s) (hp : 0 ≤ p) (hp' : p ≤ 500000) (hk : 300001000 ≤ k) :
  ∃ a b l q, spec_l20Desk.f k s p n = some (a, b, l, q) ∧ l.length ≤ 9 ∧ p ≤ q ∧ q ≤ p + 4000 := by
 unfold spec_l20Desk.f spec_DeskNew.f
 obtain ⟨a, b, q, hf, hd, q0, q1⟩ := l20Fraction_f (k := k) (p := p) 0 hs (by omega) (by omega) (by omega)
 rw [hf]; simp only [Option.bind_some]
 rw [spec_FractionOk_f _ _ (by omega)]; simp only [Option.bind_some, decide_eq_true_eq]
 obtain ⟨w, hw, w0, w1, _⟩ := pick_f (k := k) (p := q) 6 hs (by omega) (by omega) (by omega)
 have w1 := w1 (by omega)
 obtain ⟨m, rfl⟩ := Int.eq_ofNat_of_zero_le w0
 split
 ·simp only [Option.bind_some]
  rw [hw]; simp only [Option.bind_some]
  obtain ⟨a', b', l', q', e, e1, e2, e3⟩ := l20Desk_l0 hs n m (q + 1) a b [] k (by omega) (by omega) (by simp) (by omega)
  exact ⟨a', b', l', q', e, e1, by omega, by omega⟩
 ·simp only [Option.bind_some]
  rw [hw]; simp only [Option.bind_some]
  obtain ⟨a', b', l', q', e, e1, e2, e3⟩ := l20Desk_l0 hs n m (q + 1) 0 0 [] k (by omega) (by omega) (by simp) (by omega)
  exact ⟨a', b', l', q', e, e1, by omega, by omega⟩
def deedT (kind : Int) (t : List UInt8) : List UInt8 :=
 if kind = 0 ∧ DanceL t then [100, 97, 110, 99, 101, 32] ++ t else if kind = 1 ∧ (readL t).2.2 = true then [116, 97, 107, 101, 32] ++ t
 else if kind = 2 ∧ t = [] then [109, 105, 114, 114, 111, 114] else if kind = 3 ∧ t = [] then [117, 110, 116, 105, 101] else if kind = 4 ∧ t = [] then [98, 97, 99, 107] else []
theorem toListE (t : ByteArray) : (t.toList == ([] : List UInt8)) = decide (t.data.toList = []) := by
 rw [ByteArray.toList_eq]
 cases t.data.toList with
 | nil => rfl
 | cons a l => rfl
theorem deedT_length (k : Int) (t : List UInt8) : (deedT k t).length ≤ t.length + 6 := by
 unfold deedT
 split
 ·simp
 ·split
  ·simp
  ·split
   ·simp
   ·split
    ·simp
    ·split
     ·simp
     ·simp
theorem spec_j1 (rd : Bool) (kind : Int) (t : ByteArray) {k : Nat} (hk : 1 ≤ k) (ht : t.size ≤ 100000000) (h0 : ¬ (kind = 0 ∧ DanceL t.data.toList)) (hr : rd = decide (kind = 1 ∧ (readL t.data.toList).2.2 = true)) : spec_DeedText.j1 k rd kind t = some (ba (deedT kind t.data.toList)) := by
 obtain ⟨k, rfl⟩ : ∃ m, k = m + 1 := ⟨k - 1, by omega⟩
 simp only [spec_DeedText.j1]
 unfold deedT
 rw [if_neg h0, toListE, hr]
 by_cases h1 : kind = 1 ∧ (readL t.data.toList).2.2 = true
 ·rw [decide_eq_true h1, if_pos rfl, if_pos h1, if_pos (by omega)]
  exact congrArg some (ba_append [116, 97, 107, 101, 32] t.data.toList)
 ·rw [decide_eq_false h1, if_neg (by decide), if_neg h1]
  by_cases h2 : kind = 2 ∧ t.data.toList = []
  ·rw [if_pos (by simp [h2.1, h2.2]), if_pos h2]; rfl
  ·rw [if_neg (by simpa using h2), if_neg h2]
   by_cases h3 : kind = 3 ∧ t.data.toList = []
   ·rw [if_pos (by simp [h3.1, h3.2]), if_pos h3]; rfl
   ·rw [if_neg (by simpa using h3), if_neg h3]
    by_cases h4 : kind = 4 ∧ t.data.toList = []
    ·rw [if_pos (by simp [h4.1, h4.2]), if_pos h4]; rfl
    ·rw [if_neg (by simpa using h4), if_neg h4]; rfl
theorem spec_DeedTextv (kind : Int) (t : ByteArray) {k : Nat} (ht : t.size ≤ 100000000) (hk : 300000010 ≤ k) : spec_DeedText.f k kind t = some (ba (deedT kind t.data.toList)) := by
 obtain ⟨k, rfl⟩ : ∃ m, k = m + 1 := ⟨k - 1, by omega⟩
 unfold spec_DeedText.f
 rw [spec_ReadFraction_f t ht (by omega)]; simp only [Option.bind_some]
 by_cases h0 : kind = 0
 ·rw [if_pos h0, spec_DanceOk_f t (by omega) (by omega)]; simp only [Option.bind_some, spec_DeedText.j0]
  by_cases hd : DanceP t
  ·rw [decide_eq_true hd, if_pos rfl, if_pos (by omega)]
   unfold deedT
   rw [if_pos ⟨h0, hd⟩]
   exact congrArg some (ba_append [100, 97, 110, 99, 101, 32] t.data.toList)
  ·rw [decide_eq_false hd, if_neg (by decide), if_neg (by omega)]
   exact spec_j1 _ _ _ (by omega) ht (fun x => hd x.2) (by rw [h0]; rfl)
 ·rw [if_neg h0]; simp only [spec_DeedText.j0]
  rw [if_neg (by decide)]
  by_cases h1 : kind = 1
  ·rw [if_pos h1]
   refine spec_j1 _ _ _ (by omega) ht (fun x => h0 x.1) ?_
   rw [h1]; simp
  ·rw [if_neg h1]
   exact spec_j1 _ _ _ (by omega) ht (fun x => h0 x.1) (by simp [h1])
theorem l20Line_f {s : List Int} {p : Int} {k : Nat} (hs : RdOk s) (hp : 0 ≤ p) (hp' : p ≤ 600000) (hk : 400000000 ≤ k) : ∃ t q, spec_l20Line.f k s p = some (t, q) ∧ t.size ≤ 1000 := by
 unfold spec_l20Line.f
 obtain ⟨v, hv, v0, v1, _⟩ := pick_f (k := k) (p := p) 6 hs (by omega) (by omega) (by omega)
 rw [hv]; simp only [Option.bind_some]
 obtain ⟨k, rfl⟩ : ∃ m, k = m + 1 := ⟨k - 1, by omega⟩
 have J : ∀ b : Bool, ∃ t q, spec_l20Line.j0 (k + 1) v b s (p + 1) = some (t, q) ∧ t.size ≤ 1000 := by
  intro b
  simp only [spec_l20Line.j0, Option.bind_some]
  by_cases hb : b = true
  ·rw [if_pos hb]
   obtain ⟨w, hw, w0, w1, _⟩ := pick_f (k := k) (p := p + 1) 7 hs (by omega) (by omega) (by omega)
   have w1 := w1 (by omega)
   rw [hw]; simp only [Option.bind_some]
   rw [if_pos w0, if_pos (by simp; omega)]
   exact ⟨_, _, rfl, Nat.le_trans (mem_small (B := 100) (by decide) w) (by decide)⟩
  ·rw [if_neg hb]
   by_cases h2 : v = 2
   ·rw [if_pos h2]
    obtain ⟨w, hw, w0, w1, _⟩ := pick_f (k := k) (p := p + 1) 12 hs (by omega) (by omega) (by omega)
    have w1 := w1 (by omega)
    rw [hw]; simp only [Option.bind_some]
    rw [if_pos w0, if_pos (by simp; omega)]
    exact ⟨_, _, rfl, Nat.le_trans (mem_small (B := 100) (by decide) w) (by decide)⟩
   ·rw [if_neg h2]
    by_cases h3 : v = 3
    ·rw [if_pos h3]
     obtain ⟨w, hw, w0, w1, _⟩ := pick_f (k := k) (p := p + 1) 12 hs (by omega) (by omega) (by omega)
     have w1 := w1 (by omega)
     rw [hw]; simp only [Option.bind_some]
     rw [wrap64_in (by omega) (by omega), spec_l1Number_f (by omega) (by omega)]; simp only [Option.bind_some]
     have hl := itoa_length (n := 1 + w) (by omega)
     rw [ba_size, if_pos (by omega)]
     refine ⟨_, _, rfl, ?_⟩
     rw [ByteArray.size_append, ba_size]
     have : (⟨#[99, 111, 108, 111, 117, 114, 115, 32]⟩ : ByteArray).size = 8 := rfl
     omega
    ·rw [if_neg h3]
     obtain ⟨d, t, q, hd, ht, _, _⟩ := l20Deed_f (k := k) (p := p + 1) hs (by omega) (by omega) (by omega)
     rw [hd]; simp only [Option.bind_some]
     rw [spec_DeedTextv d t (by omega) (by omega)]; simp only [Option.bind_some]
     refine ⟨_, _, rfl, ?_⟩
     have := deedT_length d t.data.toList
     have hsz : t.data.toList.length = t.size := rfl
     rw [ba_size]; omega
 split <;> exact J _
def cl (a b : Int) : Int := -((-a) / b)
theorem cl_bd (a : Int) {b : Int} (hb : 0 < b) : 0 ≤ cl a b * b - a ∧ cl a b * b - a < b := by
 have h1 := Int.emod_nonneg (-a) (show b ≠ 0 by omega)
 have h2 := Int.emod_lt_of_pos (-a) hb
 have h3 := Int.mul_ediv_add_emod (-a) b
 unfold cl
 rw [Int.neg_mul, Int.mul_comm]; omega
theorem div_abs (x : Int) {b : Int} (hb : 0 < b) (hx : -60 ≤ x ∧ x ≤ 60) : -60 ≤ x / b ∧ x / b ≤ 60 := by
 have := Int.natAbs_ediv_le_natAbs x b
 omega
theorem cl_range {a b : Int} (hb : 0 < b) (ha : -60 ≤ a ∧ a ≤ 60) : -60 ≤ cl a b ∧ cl a b ≤ 60 := by
 have := div_abs (-a) hb (by omega)
 unfold cl; omega
theorem tdiv_neg (x b : Int) : Int.tdiv x b = -(Int.tdiv (-x) b) := by rw [Int.neg_tdiv]; omega
theorem under_value (x : Int) {b : Int} (hb : 0 < b) : (if Int.tdiv x b * b > x then Int.tdiv x b - 1 else Int.tdiv x b) = x / b := by
 have h1 := Int.emod_nonneg x (show b ≠ 0 by omega)
 have h2 := Int.emod_lt_of_pos x hb
 have h3 := Int.mul_ediv_add_emod x b
 by_cases hx : 0 ≤ x
 ·rw [Int.tdiv_eq_ediv_of_nonneg hx, if_neg (by rw [Int.mul_comm]; omega)]
 ·have g1 := Int.emod_nonneg (-x) (show b ≠ 0 by omega)
  have g2 := Int.emod_lt_of_pos (-x) hb
  have g3 := Int.mul_ediv_add_emod (-x) b
  have e : Int.tdiv x b = -((-x) / b) := by rw [tdiv_neg, Int.tdiv_eq_ediv_of_nonneg (by omega)]
  rw [e, Int.neg_mul, Int.mul_comm]
  by_cases hz : (-x) % b = 0
  ·rw [if_neg (by omega)]
   symm
   exact Int.ediv_eq_of_eq_mul_left (by omega) (by rw [Int.neg_mul, Int.mul_comm]; omega)
  ·rw [if_pos (by omega)]
   symm
   exact ((Int.ediv_emod_unique hb (r := b - (-x) % b)).2 ⟨by rw [Int.mul_sub, Int.mul_neg]; omega, by omega, by omega⟩).1
theorem ceil_value (a : Int) {b : Int} (hb : 0 < b) : (if Int.tdiv a b * b < a then Int.tdiv a b + 1 else Int.tdiv a b) = cl a b := by
 have h := under_value (-a) hb
 rw [Int.neg_tdiv, Int.neg_mul] at h
 unfold cl
 rw [← h]
 by_cases hc : Int.tdiv a b * b < a
 ·rw [if_pos hc, if_pos (by omega)]; omega
 ·rw [if_neg hc, if_neg (by omega)]; omega
theorem tdiv_abs (x : Int) (b : Int) (hx : -60 ≤ x ∧ x ≤ 60) : -60 ≤ Int.tdiv x b ∧ Int.tdiv x b ≤ 60 := by
 have : (Int.tdiv x b).natAbs ≤ x.natAbs := by rw [Int.natAbs_tdiv]; exact Nat.div_le_self _ _
 omega
theorem tdiv_mul_abs (x : Int) (b : Int) (hx : -60 ≤ x ∧ x ≤ 60) : -60 ≤ Int.tdiv x b * b ∧ Int.tdiv x b * b ≤ 60 := by
 have : (Int.tdiv x b * b).natAbs ≤ x.natAbs := by
  rw [Int.natAbs_mul, Int.natAbs_tdiv]; exact Nat.div_mul_le_self _ _
 omega
def termsL : Nat → Int → Int → List Int
 | 0, _, _ => []
 | n + 1, a, b => if b ≤ 0 then [] else cl a b :: termsL n b (cl a b * b - a)
theorem termsL_len : ∀ (n : Nat) (a b : Int), (termsL n a b).length ≤ n
 | 0, _, _ => by simp [termsL]
 | n + 1, a, b => by
  simp only [termsL]
  split
  ·simp
  ·simp only [List.length_cons]; have := termsL_len n b (cl a b * b - a); omega
theorem termsL_bd : ∀ (n : Nat) (a b : Int), (-60 ≤ a ∧ a ≤ 60) → (0 ≤ b ∧ b ≤ 60) → ∀ x ∈ termsL n a b, -60 ≤ x ∧ x ≤ 60
 | 0, _, _, _, _, x, h => by simp [termsL] at h
 | n + 1, a, b, ha, hb, x, h => by
  simp only [termsL] at h
  split at h
  ·simp at h
  ·have hb' : 0 < b := by omega
   have h1 := cl_bd a hb'
   rcases List.mem_cons.1 h with rfl | h2
   ·exact cl_range hb' ha
   ·exact termsL_bd n b (cl a b * b - a) (by omega) (by omega) x h2
theorem termsL_zero (n : Nat) (a : Int) : termsL n a 0 = [] := by cases n <;> simp [termsL]
theorem termsL_ne {n : Nat} (a : Int) {b : Int} (hn : 1 ≤ n) (hb : 0 < b) : termsL n a b ≠ [] := by
 obtain ⟨n, rfl⟩ : ∃ m, n = m + 1 := ⟨n - 1, by omega⟩
 simp only [termsL]; rw [if_neg (by omega)]; simp
def termsv (a b : Int) : List Int × Bool := if Small a b 60 ∧ b ≠ 0 then (termsL 60 a b, true) else ([], false)
def rowT (l : List Int) : List UInt8 := Go.Lib.join (l.map Go.Lib.itoa) [44]
theorem join_snoc (x : List UInt8) (sep : List UInt8) : ∀ (y : List UInt8) (xs : List (List UInt8)), Go.Lib.join ((y :: xs) ++ [x]) sep = Go.Lib.join (y :: xs) sep ++ sep ++ x := by
 intro y xs
 rw [List.cons_append, Go.Lib.join_cons, Go.Lib.join_cons]
 simp [Go.Lib.joinTail]
theorem rowT_snoc (l : List Int) (x : Int) : rowT (l ++ [x]) = if l = [] then Go.Lib.itoa x else rowT l ++ [44] ++ Go.Lib.itoa x := by
 cases l with
 | nil => simp [rowT, Go.Lib.join_one]
 | cons y l => rw [if_neg (by simp)]; unfold rowT; rw [List.map_append, List.map_cons]; exact join_snoc _ _ _ _
theorem rowT_len : ∀ (n : Nat) (l : List Int), l.length = n → (∀ x ∈ l, -60 ≤ x ∧ x ≤ 60) → (rowT l).length ≤ 9 * n := by
 intro n
 induction n with
 | zero => intro l hl _; rw [List.eq_nil_of_length_eq_zero hl]; simp [rowT, Go.Lib.join_nil]
 | succ n ih =>
  intro l hl hb
  have e := List.dropLast_concat_getLast (l := l) (by intro x; rw [x] at hl; simp at hl)
  have hi := ih l.dropLast (by simp [hl]) (fun x hx => hb x (List.dropLast_subset _ hx))
  have hx := hb (l.getLast (by intro x; rw [x] at hl; simp at hl)) (List.getLast_mem _)
  have h1 := itoa_length (n := l.getLast (by intro x; rw [x] at hl; simp at hl)) (by omega)
  rw [← e, rowT_snoc]
  split
  ·omega
  ·simp only [List.length_append, List.length_singleton]; omega
theorem rowT_take (l : List Int) (i : Nat) (h : i < l.length) : rowT (l.take (i + 1)) = if i = 0 then Go.Lib.itoa l[i] else rowT (l.take i) ++ [44] ++ Go.Lib.itoa l[i] := by
 rw [List.take_succ_eq_append_getElem h, rowT_snoc]
 by_cases hi : i = 0
 ·subst hi; simp
 ·rw [if_neg hi, if_neg]
  intro x
  have := congrArg List.length x
  rw [List.length_take, List.length_nil] at this
  omega
def rowv (l : List Int) : List UInt8 := if l = [] then [110, 111, 110, 101] else rowT l
def endsv (a b : Int) : List Int := if Int.tmod a 2 = 0 then [1, 0, 3, 2] else if Int.tmod b 2 = 0 then [2, 3, 0, 1] else [3, 2, 1, 0]
def ringsv (a : Int) : Int := if Int.tmod a 2 = 0 then 2 else 1
theorem endsv_bd (a b : Int) : (endsv a b).length ≤ 100 ∧ (∀ x ∈ endsv a b, -60 ≤ x ∧ x ≤ 60) ∧ endsv a b ≠ [] := by
 unfold endsv
 split
 ·decide
 ·split <;> decide
def LinkP (a b : Int) : Prop := (a = 0 ∧ b = 1) ∨ (a = 1 ∧ b = 0) ∨ ((2 ≤ a ∧ a ≤ 60) ∧ (1 ≤ b ∧ b < a) ∧ Int.gcd a b = 1)
instance (a b : Int) : Decidable (LinkP a b) := by unfold LinkP; infer_instance
theorem linkP_zero (b : Int) : LinkP 0 b ↔ b = 1 := by unfold LinkP; omega
theorem linkP_one (b : Int) : LinkP 1 b ↔ b = 0 := by unfold LinkP; omega
theorem linkP_more {a b : Int} (h : a ≠ 0) (h' : a ≠ 1) : LinkP a b ↔ ((2 ≤ a ∧ a ≤ 60) ∧ (1 ≤ b ∧ b < a) ∧ Int.gcd a b = 1) := by
 unfold LinkP; constructor
 ·rintro (x | x | x)
  ·exact absurd x.1 h
  ·exact absurd x.1 h'
  ·exact x
 ·exact fun x => .inr (.inr x)
theorem linkP_range {a b : Int} (h : LinkP a b) : 0 ≤ a ∧ a ≤ 60 ∧ 0 ≤ b ∧ b ≤ 59 := by
 unfold LinkP at h; omega
theorem gcd_beq (a b : Int) : (((Int.gcd a b : Nat) : Int) == 1) = decide (Int.gcd a b = 1) := by
 rw [Bool.eq_iff_iff]; simp; omega
def scan : Nat → Nat → Nat → Nat → Nat
 | 0, _, _, b => b
 | n + 1, x, a, b => if x < b then (if x * b % a = 1 then x else scan n (x + 1) a b) else b
def backn : Nat → Nat → Nat → Nat → Nat
 | 0, _, _, _ => 0
 | n + 1, x, l, a => if x < a then (if x * l % a = 1 then x else backn n (x + 1) l a) else 0
def leastn (a b : Nat) : Nat := scan 60 1 a b
def leastv (a b : Int) : Int := (leastn a.toNat b.toNat : Nat)
theorem tmod_cast (m n : Nat) : Int.tmod (m : Int) (n : Int) = ((m % n : Nat) : Int) := by
 rw [Int.tmod_eq_emod_of_nonneg (by omega)]; omega
theorem back_least : ((List.range 61).all fun a => (List.range 61).all fun b => !(decide (2 ≤ a) && decide (1 ≤ b) && decide (b < a) && decide (Nat.gcd a b = 1)) || decide (min b (backn 60 1 b a) = leastn a b)) = true := by decide +kernel
theorem back_least_at {a b : Nat} (h1 : 2 ≤ a) (h2 : a ≤ 60) (h3 : 1 ≤ b) (h4 : b < a) (h5 : Nat.gcd a b = 1) : min b (backn 60 1 b a) = leastn a b := by
 have h := back_least
 rw [List.all_eq_true] at h
 have h := h a (List.mem_range.2 (by omega))
 rw [List.all_eq_true] at h
 have h := h b (List.mem_range.2 (by omega))
 simpa [h1, h3, h4, h5] using h
def leastofv (a b : Int) : Int × Int × Bool := if LinkP a b then (a, leastv a b, true) else (0, 0, false)
def linkofv (a b : Int) : Int × Int × Bool :=
 if Frac a b ∧ (-60 ≤ a ∧ a ≤ 60) then
  if a = 0 then (0, 1, true) else if a < 0 then ((a.natAbs : Int), ((a.natAbs : Int) - b % a.natAbs) % a.natAbs, true) else (a, b % a, true)
 else (0, 0, false)
theorem linkof_value {a b : Int} (h : Frac a b) (ha : -60 ≤ a ∧ a ≤ 60) (h0 : a ≠ 0) :
  (if (mx a (wrap64 (-a))) = 0 then (none : Option (Int × Int × Bool)) else (if a < 0 then (some (mx a (wrap64 (-a)), Int.tmod (wrap64 ((mx a (wrap64 (-a))) - (Int.tmod b (mx a (wrap64 (-a)))))) (mx a (wrap64 (-a))), true)) else (some (mx a (wrap64 (-a)), Int.tmod b (mx a (wrap64 (-a))), true))))
   = some (linkofv a b) := by
 unfold linkofv
 rw [if_pos (show Frac a b ∧ (-60 ≤ a ∧ a ≤ 60) from ⟨h, ha⟩), mx_abs (by omega) (by omega), if_neg h0, if_neg (by omega)]
 have hb := h.2.1
 have e1 : Int.tmod b (a.natAbs : Int) = b % (a.natAbs : Int) := Int.tmod_eq_emod_of_nonneg (by omega)
 have r1 := Int.emod_nonneg b (show ((a.natAbs : Nat) : Int) ≠ 0 by omega)
 have r2 := Int.emod_lt_of_pos b (show (0 : Int) < (a.natAbs : Int) by omega)
 rw [e1]
 by_cases hn : a < 0
 ·rw [if_pos hn, if_pos hn, wrap64_in (by omega) (by omega), Int.tmod_eq_emod_of_nonneg (by omega)]
 ·rw [if_neg hn, if_neg hn]
  have : ((a.natAbs : Nat) : Int) = a := by omega
  rw [this]
theorem emod_flip (b : Int) {n : Int} (hn : 0 < n) : (n - b % n) % n = (-b) % n := by
 have e : n - b % n = -b + n * (b / n + 1) := by
  have := Int.mul_ediv_add_emod b n
  rw [Int.mul_add, Int.mul_one]; omega
 rw [e, Int.add_mul_emod_self_left]
theorem gcd_emod2 (n x : Int) : Int.gcd n (x % n) = Int.gcd n x := by
 have e : x % n = x + n * (-(x / n)) := by
  have := Int.mul_ediv_add_emod x n
  rw [Int.mul_neg]; omega
 rw [e, Int.gcd_add_mul_left_right]
theorem link_ok {a b : Int} (h : Frac a b) (ha : -60 ≤ a ∧ a ≤ 60) : LinkP (linkofv a b).1 (linkofv a b).2.1 := by
 unfold linkofv
 rw [if_pos (show Frac a b ∧ (-60 ≤ a ∧ a ≤ 60) from ⟨h, ha⟩)]
 by_cases h0 : a = 0
 ·rw [if_pos h0]; exact .inl ⟨rfl, rfl⟩
 ·rw [if_neg h0]
  have hg := h.2.2.1
  have key : ∀ r : Int, 0 ≤ r → r < (a.natAbs : Int) → Int.gcd (a.natAbs : Int) r = 1 → LinkP (a.natAbs : Int) r := by
   intro r r0 r1 r2
   by_cases h1 : a.natAbs = 1
   ·right; left; exact ⟨by omega, by omega⟩
   ·right; right
    refine ⟨by omega, ⟨?_, r1⟩, r2⟩
    by_cases hr : r = 0
    ·subst hr; rw [Int.gcd_zero_right] at r2; simp at r2; omega
    ·omega
  have gn : Int.gcd (a.natAbs : Int) b = 1 := by
   unfold Int.gcd at hg ⊢; simpa using hg
  by_cases hn : a < 0
  ·rw [if_pos hn]; simp only
   refine key _ (Int.emod_nonneg _ (by omega)) (Int.emod_lt_of_pos _ (by omega)) ?_
   rw [emod_flip b (by omega), gcd_emod2]
   simpa using gn
  ·rw [if_neg hn]; simp only
   have e : ((a.natAbs : Nat) : Int) = a := by omega
   have := key (b % a) (Int.emod_nonneg _ h0) (by rw [e]; exact Int.emod_lt_of_pos _ (by omega)) (by rw [e, gcd_emod2]; exact hg)
   rw [e] at this
   exact this
def tiedv (a b c : Int) : Int := if Frac a b ∧ (1 ≤ c ∧ c ≤ 12) then c * (Int.gcd c a : Int) else -1
theorem tied_wrap {e : Int} (n : Int) (h1 : 1 ≤ e) (h2 : e ≤ 12) : wrap64 (e * (Int.gcd e n : Int)) = e * (Int.gcd e n : Int) := by
 have hg : Int.gcd e n ≤ 12 := by
  have := Int.gcd_le_natAbs_left (b := n) (show e ≠ 0 by omega); omega
 have := mul_bd (a := e) (b := ((Int.gcd e n : Nat) : Int)) (m := 12) (n := 12) (by omega) (by omega)
 exact wrap64_in (by omega) (by omega)
def quoL (a b : Nat) : List Int := if h : b = 0 then [] else ((a / b : Nat) : Int) :: quoL b (a % b)
termination_by b
decreasing_by exact Nat.mod_lt _ (by omega)
theorem quoL_zero (a : Nat) : quoL a 0 = [] := by rw [quoL]; simp
theorem quoL_pos (a : Nat) {b : Nat} (h : b ≠ 0) : quoL a b = ((a / b : Nat) : Int) :: quoL b (a % b) := by rw [quoL]; simp [h]
theorem tdiv_cast (m n : Nat) : Int.tdiv (m : Int) (n : Int) = ((m / n : Nat) : Int) := by
 rw [Int.tdiv_eq_ediv_of_nonneg (by omega)]; omega
theorem tmod_cast2 (m n : Nat) : Int.tmod (m : Int) (n : Int) = ((m % n : Nat) : Int) := by
 rw [Int.tmod_eq_emod_of_nonneg (by omega)]; omega
def quov (a b : Int) : List Int := if Frac a b then quoL a.natAbs b.natAbs else []
theorem quoL_length (n : Nat) : ∀ a b : Nat, b ≤ n → (quoL a b).length ≤ b := by
 induction n with
 | zero =>
  intro a b h
  obtain rfl : b = 0 := by omega
  rw [quoL_zero]; simp
 | succ n ih =>
  intro a b h
  by_cases h0 : b = 0
  ·rw [h0, quoL_zero]; simp
  ·have := Nat.mod_lt a (show b > 0 by omega)
   have := ih b (a % b) (by omega)
   rw [quoL_pos a h0, List.length_cons]; omega
theorem quoL_nonneg (n : Nat) : ∀ a b : Nat, b ≤ n → ∀ x ∈ quoL a b, 0 ≤ x := by
 induction n with
 | zero =>
  intro a b h x hx
  obtain rfl : b = 0 := by omega
  rw [quoL_zero] at hx; simp at hx
 | succ n ih =>
  intro a b h x hx
  by_cases h0 : b = 0
  ·rw [h0, quoL_zero] at hx; simp at hx
  ·have := Nat.mod_lt a (show b > 0 by omega)
   rw [quoL_pos a h0] at hx
   rcases List.mem_cons.1 hx with hx | hx
   ·rw [hx]; exact Int.natCast_nonneg _
   ·exact ih b (a % b) (by omega) x hx
theorem quoL_sum (n : Nat) : ∀ a b : Nat, b ≤ n → 0 ≤ (quoL a b).sum ∧ (quoL a b).sum ≤ a + b := by
 induction n with
 | zero =>
  intro a b h
  obtain rfl : b = 0 := by omega
  rw [quoL_zero]; simp
 | succ n ih =>
  intro a b h
  by_cases h0 : b = 0
  ·rw [h0, quoL_zero]; simp
  ·have h1 := Nat.mod_lt a (show b > 0 by omega)
   have h2 := ih b (a % b) (by omega)
   have h3 := Nat.div_add_mod a b
   have h7 : (0 : Int) ≤ ((a / b : Nat) : Int) := Int.natCast_nonneg _
   rw [quoL_pos a h0, List.sum_cons]
   by_cases h5 : a % b = 0
   ·rw [h5, quoL_zero]
    have := Nat.div_le_self a b
    generalize a / b = q at *
    simp; omega
   ·by_cases h6 : a / b = 0
    ·rw [h6] at h3 ⊢; simp at h3 ⊢; omega
    ·have h4 : a / b + b ≤ b * (a / b) + 1 := by
      obtain ⟨x, hx⟩ : ∃ x, a / b = x + 1 := ⟨a / b - 1, by omega⟩
      obtain ⟨y, hy⟩ : ∃ y, b = y + 1 := ⟨b - 1, by omega⟩
      rw [hx, hy, Nat.mul_succ, Nat.succ_mul]; omega
     generalize a / b = q at *
     generalize b * q = c at *
     omega
def crossn (a b : Nat) : Int := (quoL a b).sum
def crossv (a b : Int) : Int := if Frac a b then crossn a.natAbs b.natAbs else -1
theorem drop_rd (l : List Int) (i : Nat) (h : i < l.length) : l.drop i = rd l (i : Int) :: l.drop (i + 1) := by
 rw [List.drop_eq_getElem_cons h]; unfold rd; simp [h]
theorem sum_nonneg (l : List Int) (h : ∀ x ∈ l, 0 ≤ x) : 0 ≤ l.sum := by
 induction l with
 | nil => simp
 | cons x l ih => rw [List.sum_cons]; have := h x (by simp); have := ih (fun y hy => h y (by simp [hy])); omega
theorem index_none (c : UInt8) : ∀ l : List UInt8, (∀ x ∈ l, x ≠ c) → Go.Lib.index l [c] = -1
 | [], _ => rfl
 | x :: l, h => by
  have hx := h x (by simp)
  simp only [Go.Lib.index]
  rw [index_none c l (fun y hy => h y (by simp [hy]))]
  have : ([c] : List UInt8).isPrefixOf (x :: l) = false := by
   simp only [List.isPrefixOf, Bool.and_true]
   simpa using fun e => hx e.symm
  rw [this]; rfl
theorem index_one (c : UInt8) : ∀ (a b : List UInt8), (∀ x ∈ a, x ≠ c) → Go.Lib.index (a ++ c :: b) [c] = (a.length : Int)
 | [], b, _ => by simp [Go.Lib.index, List.isPrefixOf]
 | x :: a, b, h => by
  have hx := h x (by simp)
  have ih := index_one c a b (fun y hy => h y (by simp [hy]))
  simp only [List.cons_append, Go.Lib.index]
  have : ([c] : List UInt8).isPrefixOf (x :: (a ++ c :: b)) = false := by
   simp only [List.isPrefixOf, Bool.and_true]
   simpa using fun e => hx e.symm
  rw [this, ih]
  simp
theorem cut_none {c : UInt8} {l : List UInt8} (h : ∀ x ∈ l, x ≠ c) : Go.Lib.cut l [c] = (l, [], false) := by
 unfold Go.Lib.cut; rw [index_none c l h]; rfl
theorem cut_one {c : UInt8} {a : List UInt8} (b : List UInt8) (h : ∀ x ∈ a, x ≠ c) : Go.Lib.cut (a ++ c :: b) [c] = (a, b, true) := by
 unfold Go.Lib.cut
 rw [index_one c a b h, if_pos (by omega)]
 simp
theorem cut_cases (c : UInt8) : ∀ l : List UInt8, (∀ x ∈ l, x ≠ c) ∨ ∃ a b, l = a ++ c :: b ∧ ∀ x ∈ a, x ≠ c
 | [] => .inl (by simp)
 | x :: l => by
  by_cases h : x = c
  ·subst h; exact .inr ⟨[], l, rfl, by simp⟩
  ·rcases cut_cases c l with h1 | ⟨a, b, rfl, h2⟩
   ·exact .inl (fun y hy => (List.mem_cons.1 hy).elim (fun e => e ▸ h) (h1 y))
   ·exact .inr ⟨x :: a, b, rfl, fun y hy => (List.mem_cons.1 hy).elim (fun e => e ▸ h) (h2 y)⟩
theorem decFrom_all : ∀ (l : List UInt8) (a : Nat), (∀ c ∈ l, DigP c) → Go.Lib.decFrom a l = some (digF a l)
 | [], a, _ => rfl
 | c :: r, a, h => by
  have hc := h c (by simp)
  unfold DigP at hc
  simp only [Go.Lib.decFrom, Go.Lib.digitVal]
  rw [if_pos hc]; simp only
  rw [decFrom_all r _ (fun x hx => h x (by simp [hx])), Nat.mul_comm]; rfl
theorem decNat_dd (u : Nat) : Go.Lib.decNat (Go.Lib.decDigits u) = some u := by
 unfold Go.Lib.decNat
 have h1 := dd_pos u
 have : (Go.Lib.decDigits u).isEmpty = false := by
  cases h : Go.Lib.decDigits u with
  | nil => rw [h] at h1; simp at h1
  | cons a l => rfl
 rw [this, decFrom_all _ _ (dd_digits u), dd_val]; rfl
theorem atoi_itoa (n : Int) : Go.Lib.atoi (Go.Lib.itoa n) = some n := by
 unfold Go.Lib.itoa
 split
 ·simp only [Go.Lib.atoi]
  rw [decNat_dd]; simp; omega
 ·obtain ⟨c, r, e, hc, _⟩ := dd_first n.toNat
  have h := decNat_dd n.toNat
  rw [e] at h ⊢
  simp only [Go.Lib.atoi]
  have h1 : (c == 45) = false := by
   rw [beq_eq_false_iff_ne]; intro x; rw [x] at hc; exact absurd hc (by decide)
  have h2 : (c == 43) = false := by
   rw [beq_eq_false_iff_ne]; intro x; rw [x] at hc; exact absurd hc (by decide)
  rw [h1, h2, h]; simp; omega
theorem strconv_Atoi_itoa {n : Int} (h : n.natAbs < 10000000) : strconv_Atoi.f (ba (Go.Lib.itoa n)) = some (n, none) := by
 have hl := itoa_length h
 unfold strconv_Atoi.f
 rw [if_pos (by rw [ba_size]; omega), ba_list, Go.Lib.atoiAll_short _ (by omega), atoi_itoa]; rfl
theorem strconv_Atoi_some (s : ByteArray) (h : s.size ≤ 100000000) : ∃ v e, strconv_Atoi.f s = some (v, e) := by
 unfold strconv_Atoi.f
 rw [if_pos (by omega)]
 split <;> exact ⟨_, _, rfl⟩
theorem strconv_Itoa_f {n : Int} (h : -9223372036854775808 ≤ n ∧ n ≤ 9223372036854775807) : strconv_Itoa.f n = some (ba (Go.Lib.itoa n)) := by
 unfold strconv_Itoa.f; rw [if_pos h]; rfl
theorem dd_of (n : Nat) : ∀ l : List UInt8, l.length = n + 1 → (∀ c ∈ l, DigP c) → (l.head? = some 48 → n = 0) → Go.Lib.decDigits (digF 0 l) = l := by
 induction n with
 | zero =>
  intro l hl hd _
  match l, hl with
  | [c], _ =>
   have hc := hd c (by simp)
   unfold DigP at hc
   have e : digF 0 [c] = c.toNat - 48 := by simp [digF]
   rw [e, dd_small (by omega), show 48 + (c.toNat - 48) = c.toNat by omega]
   simp
 | succ n ih =>
  intro l hl hd hz
  have hne : l ≠ [] := by intro x; rw [x] at hl; simp at hl
  have e := List.dropLast_concat_getLast hne
  generalize l.getLast hne = c at e
  generalize hm : l.dropLast = m at e
  subst e
  have hml : m.length = n + 1 := by simp at hl; omega
  have hmd : ∀ x ∈ m, DigP x := fun x hx => hd x (by simp [hx])
  have hc := hd c (by simp)
  unfold DigP at hc
  obtain ⟨y, r, rfl⟩ : ∃ y r, m = y :: r := by
   cases m with
   | nil => simp at hml
   | cons y r => exact ⟨y, r, rfl⟩
  have hy : y ≠ 48 := fun x => by
   have := hz (by rw [x]; rfl)
   omega
  have i := ih (y :: r) hml hmd (fun x => by simp at x; exact absurd x hy)
  have hv : 1 ≤ digF 0 (y :: r) := by
   by_cases h0 : 1 ≤ digF 0 (y :: r)
   ·exact h0
   ·rw [show digF 0 (y :: r) = 0 by omega, dd_small (by omega)] at i
    injection i with i1 i2
    exact absurd i1.symm hy
  have e2 : digF 0 ((y :: r) ++ [c]) = 10 * digF 0 (y :: r) + (c.toNat - 48) := by rw [digF_append]; rfl
  rw [e2, dd_big (by omega), show (10 * digF 0 (y :: r) + (c.toNat - 48)) / 10 = digF 0 (y :: r) by omega, i, show 48 + (10 * digF 0 (y :: r) + (c.toNat - 48)) % 10 = c.toNat by omega]
  simp
theorem digL_true : ∀ (l : List UInt8) (a : Int), (digL a l).2 = true → ∀ c ∈ l, DigP c
 | [], _, _, c, h => by simp at h
 | x :: r, a, h, c, hc => by
  simp only [digL] at h
  split at h
  ·next hx =>
   rcases List.mem_cons.1 hc with rfl | h1
   ·exact hx
   ·exact digL_true r _ h c h1
  ·simp at h
theorem digs0_of {l : List UInt8} (h : (digs0 l).2 = true) : ∃ u : Nat, u < 10000000 ∧ l = Go.Lib.decDigits u := by
 unfold digs0 at h
 split at h
 ·next hc =>
  have hd := digL_true l 0 h
  have := dd_of (l.length - 1) l (by omega) hd (fun x => by
   by_cases h1 : 1 < l.length
   ·exact absurd ⟨h1, x⟩ hc.2
   ·omega)
  refine ⟨digF 0 l, ?_, this.symm⟩
  have hl : ∀ (m : List UInt8) (B a : Nat), (∀ c ∈ m, DigP c) → a < 10 ^ B → digF a m < 10 ^ (B + m.length) := by
   intro m
   induction m with
   | nil => intro B a _ ha; simpa [digF] using ha
   | cons c r ih =>
    intro B a hm ha
    have hc := hm c (by simp)
    unfold DigP at hc
    have := ih (B + 1) (10 * a + (c.toNat - 48)) (fun x hx => hm x (by simp [hx])) (by rw [Nat.pow_succ]; omega)
    rw [List.length_cons, show B + (r.length + 1) = B + 1 + r.length by omega]
    exact this
  have h2 := hl l 0 0 hd (by decide)
  have h3 : 10 ^ (0 + l.length) ≤ 10 ^ 7 := Nat.pow_le_pow_right (by decide) (by omega)
  omega
 ·simp at h
theorem digsv_of {l : List UInt8} (h : (digsv l).2 = true) (h0 : 0 ≤ (digsv l).1) : ∃ u : Nat, u < 10000000 ∧ l = Go.Lib.itoa (u : Int) := by
 have plain : ∀ m, (digs0 m).2 = true → ∃ u : Nat, u < 10000000 ∧ m = Go.Lib.itoa (u : Int) := by
  intro m hm
  obtain ⟨u, h1, h2⟩ := digs0_of hm
  refine ⟨u, h1, ?_⟩
  unfold Go.Lib.itoa
  rw [if_neg (by omega), h2]; rfl
 match l, h, h0 with
 | [], h, _ => exact plain _ h
 | [c], h, _ => exact plain _ h
 | c :: d :: r, h, h0 =>
  simp only [digsv] at h h0
  split at h
  ·next hc =>
   rw [if_pos hc] at h0
   simp at h h0
   omega
  ·exact plain _ h
theorem itoa_no32 (n : Int) : ∀ x ∈ Go.Lib.itoa n, x ≠ 32 := by
 intro x hx h
 rcases itoa_mem hx with h1 | h1
 ·rw [h] at h1; exact absurd h1 (by decide)
 ·rw [h] at h1; exact absurd h1 (by decide)
def colN (l : List UInt8) : Option Int :=
 if Go.Lib.hasPrefix l [99, 111, 108, 111, 117, 114, 115, 32] = true ∧ (digsv (l.drop 8)).2 = true ∧ 0 ≤ (digsv (l.drop 8)).1 then some (digsv (l.drop 8)).1 else none
theorem colN_bd {l : List UInt8} {n : Int} (h : colN l = some n) : 0 ≤ n ∧ n < 10000000 ∧ l = [99, 111, 108, 111, 117, 114, 115, 32] ++ Go.Lib.itoa n := by
 unfold colN at h
 split at h
 ·next hc =>
  injection h with h; subst h
  obtain ⟨u, h1, h2⟩ := digsv_of hc.2.1 hc.2.2
  have h3 := digsv_itoa (n := (u : Int)) (by omega)
  rw [← h2] at h3
  refine ⟨hc.2.2, by rw [h3]; simp; omega, ?_⟩
  have hp := hc.1
  unfold Go.Lib.hasPrefix at hp
  obtain ⟨t, rfl⟩ := List.isPrefixOf_iff_prefix.1 hp
  rw [h3]
  simp only [List.append_cancel_left_eq]
  simpa using h2
 ·cases h
theorem colN_itoa {n : Int} (h : 0 ≤ n) (h' : n < 10000000) : colN ([99, 111, 108, 111, 117, 114, 115, 32] ++ Go.Lib.itoa n) = some n := by
 have e : ([99, 111, 108, 111, 117, 114, 115, 32] ++ Go.Lib.itoa n).drop 8 = Go.Lib.itoa n := rfl
 unfold colN
 rw [e, digsv_itoa (by omega), if_pos ⟨rfl, rfl, h⟩]
theorem termsv_bd (a b : Int) : (termsv a b).1.length ≤ 100 ∧ (∀ x ∈ (termsv a b).1, -60 ≤ x ∧ x ≤ 60) ∧ ((termsv a b).2 = true → (termsv a b).1 ≠ []) ∧ ((termsv a b).2 = false → (termsv a b).1 = []) := by
 unfold termsv
 split
 ·next h =>
  have h1 := h.1.2
  have h2 := h.1.1.2.1
  have h3 := h.2
  have := termsL_len 60 a b
  exact ⟨by simp only; omega, termsL_bd 60 a b h1.1 (by omega), fun _ => termsL_ne a (by omega) (by omega), fun x => by cases x⟩
 ·exact ⟨by simp, by simp, by simp, by simp⟩
theorem crossv_bd (a b : Int) : (crossv a b).natAbs < 10000000 := by
 unfold crossv
 split
 ·next h =>
  have h1 := h.1
  have h2 := h.2.1
  have hs := quoL_sum b.natAbs a.natAbs b.natAbs (Nat.le_refl _)
  have h0 := sum_nonneg (quoL a.natAbs b.natAbs) (quoL_nonneg b.natAbs _ _ (Nat.le_refl _))
  unfold crossn
  omega
 ·decide
theorem tiedv_bd (a b c : Int) : (tiedv a b c).natAbs < 10000000 := by
 unfold tiedv
 split
 ·next h =>
  have hc := h.2
  have hg : Int.gcd c a ≤ 12 := by
   have := Int.gcd_le_natAbs_left (b := a) (show c ≠ 0 by omega); omega
  have := mul_bd (a := c) (b := ((Int.gcd c a : Nat) : Int)) (m := 12) (n := 12) (by omega) (by omega)
  omega
 ·decide
theorem untv_len (a b : Int) : (untv a b).1.length ≤ 1000 := by
 unfold untv
 split
 ·next h =>
  obtain ⟨r, hr⟩ := unt_some h
  have := unt_length 100 [] a b r hr
  rw [hr]; simp at this ⊢; omega
 ·simp
theorem leastv_bd {a b : Int} (h : LinkP a b) : (leastofv a b).1.natAbs < 10000000 ∧ (leastofv a b).2.1.natAbs < 10000000 := by
 have hr := linkP_range h
 unfold leastofv
 rw [if_pos h]
 have key : ∀ n x a b : Nat, x ≤ 100 → b ≤ 100 → scan n x a b ≤ 200 + n := by
  intro n
  induction n with
  | zero => intro x a b _ hb; simp only [scan]; omega
  | succ n ih =>
   intro x a b hx hb
   simp only [scan]
   split
   ·split
    ·omega
    ·by_cases h1 : x + 1 ≤ 100
     ·have := ih (x + 1) a b h1 hb; omega
     ·next hlt _ => omega
   ·omega
 have := key 60 1 a.toNat b.toNat (by omega) (by omega)
 refine ⟨by simp only; omega, ?_⟩
 show (leastv a b).natAbs < 10000000
 unfold leastv leastn
 omega
def askv (a b : Int) (s : List UInt8) : List UInt8 :=
 if s = [116, 101, 120, 116] then fracT a b
 else if s = [109, 111, 118, 101, 115] then (if (untv a b).2 = true then 58 :: (untv a b).1 else [110, 111, 110, 101])
 else if s = [116, 101, 114, 109, 115] then rowv (termsv a b).1
 else if s = [99, 114, 111, 115, 115, 105, 110, 103, 115] then Go.Lib.itoa (crossv a b)
 else if s = [101, 110, 100, 115] then rowT (endsv a b)
 else if s = [114, 105, 110, 103, 115] then Go.Lib.itoa (ringsv a)
 else if s = [108, 105, 110, 107] then (if (linkofv a b).2.2 = true then Go.Lib.itoa (leastofv (linkofv a b).1 (linkofv a b).2.1).1 ++ 58 :: Go.Lib.itoa (leastofv (linkofv a b).1 (linkofv a b).2.1).2.1 else [110, 111, 110, 101])
 else match colN s with
  | none => [119, 104, 97, 116]
  | some n => if 1 ≤ n ∧ n ≤ 12 then Go.Lib.itoa (tiedv a b n) else [110, 111, 110, 101]
theorem linkofv_ok {a b : Int} (h : (linkofv a b).2.2 = true) : LinkP (linkofv a b).1 (linkofv a b).2.1 := by
 by_cases hc : Frac a b ∧ (-60 ≤ a ∧ a ≤ 60)
 ·exact link_ok hc.1 hc.2
 ·unfold linkofv at h; rw [if_neg hc] at h; cases h
theorem askv_len {a b : Int} (hf : Frac a b) (s : List UInt8) : (askv a b s).length ≤ 2000 := by
 have it : ∀ {n : Int}, n.natAbs < 10000000 → (Go.Lib.itoa n).length ≤ 8 := fun h => itoa_length h
 have ht := termsv_bd a b
 have he := endsv_bd a b
 have hr : (rowv (termsv a b).1).length ≤ 900 := by
  unfold rowv
  split
  ·simp
  ·have := rowT_len _ _ rfl ht.2.1; omega
 have hr2 := rowT_len _ _ rfl he.2.1
 have hq : (ringsv a).natAbs < 10000000 := by unfold ringsv; split <;> decide
 unfold askv
 repeat' split
 all_goals first
  | (have := fracT_length hf; omega)
  | (have := untv_len a b; simp; omega)
  | (simp; done)
  | omega
  | (have := it (crossv_bd a b); omega)
  | (have := it hq; omega)
  | (refine Nat.le_trans (it (tiedv_bd a b _)) (by decide))
  | (next h => have := leastv_bd (linkofv_ok h); have h1 := it this.1; have h2 := it this.2; simp; omega)
def rdv (l : List UInt8) : Int × List UInt8 × Bool :=
 if l = [109, 105, 114, 114, 111, 114] then (2, [], true) else if l = [117, 110, 116, 105, 101] then (3, [], true) else if l = [98, 97, 99, 107] then (4, [], true)
 else if l.take 6 = [100, 97, 110, 99, 101, 32] ∧ DanceL (l.drop 6) then (0, l.drop 6, true)
 else if l.take 5 = [116, 97, 107, 101, 32] ∧ (readL (l.drop 5)).2.2 = true then (1, l.drop 5, true) else (0, [], false)
theorem rdv_of {k : Int} {t : List UInt8} (h : deedT k t ≠ []) : rdv (deedT k t) = (k, t, true) := by
 unfold deedT at h ⊢
 by_cases h0 : k = 0 ∧ DanceL t
 ·rw [if_pos h0]
  unfold rdv
  rw [if_neg (by intro x; have := congrArg List.head? x; simp at this), if_neg (by intro x; have := congrArg List.head? x; simp at this), if_neg (by intro x; have := congrArg List.head? x; simp at this)]
  have e1 : ([100, 97, 110, 99, 101, 32] ++ t : List UInt8).take 6 = [100, 97, 110, 99, 101, 32] := by simp
  have e2 : ([100, 97, 110, 99, 101, 32] ++ t : List UInt8).drop 6 = t := by simp
  rw [e1, e2, if_pos ⟨rfl, h0.2⟩, h0.1]
 ·rw [if_neg h0] at h ⊢
  by_cases h1 : k = 1 ∧ (readL t).2.2 = true
  ·rw [if_pos h1]
   unfold rdv
   rw [if_neg (by intro x; have := congrArg List.head? x; simp at this), if_neg (by intro x; have := congrArg List.head? x; simp at this), if_neg (by intro x; have := congrArg List.head? x; simp at this), if_neg (by intro x; have := congrArg List.head? x.1; simp at this)]
   have e1 : ([116, 97, 107, 101, 32] ++ t : List UInt8).take 5 = [116, 97, 107, 101, 32] := by simp
   have e2 : ([116, 97, 107, 101, 32] ++ t : List UInt8).drop 5 = t := by simp
   rw [e1, e2, if_pos ⟨rfl, h1.2⟩, h1.1]
  ·rw [if_neg h1] at h ⊢
   by_cases h2 : k = 2 ∧ t = []
   ·rw [if_pos h2, h2.1, h2.2]; rfl
   ·rw [if_neg h2] at h ⊢
    by_cases h3 : k = 3 ∧ t = []
    ·rw [if_pos h3, h3.1, h3.2]; rfl
    ·rw [if_neg h3] at h ⊢
     by_cases h4 : k = 4 ∧ t = []
     ·rw [if_pos h4, h4.1, h4.2]; rfl
     ·rw [if_neg h4] at h; exact absurd rfl h
theorem rdv_cases (l : List UInt8) : (∃ k t, l ≠ [] ∧ deedT k t = l ∧ rdv l = (k, t, true)) ∨ ((∀ k t, deedT k t = l → l = []) ∧ rdv l = (0, [], false)) := by
 by_cases h : ∃ k t, deedT k t = l ∧ l ≠ []
 ·obtain ⟨k, t, h1, h2⟩ := h
  refine .inl ⟨k, t, h2, h1, ?_⟩
  rw [← h1] at h2 ⊢
  exact rdv_of h2
 ·have hn : ∀ k t, deedT k t = l → l = [] := fun k t hk => Classical.byContradiction fun hl => h ⟨k, t, hk, hl⟩
  refine .inr ⟨hn, ?_⟩
  by_cases hl : l = []
  ·subst hl; rfl
  ·have no : ∀ k t, deedT k t ≠ l := fun k t hk => hl (hn k t hk)
   unfold rdv
   rw [if_neg (fun x => no 2 [] (by rw [x]; rfl)), if_neg (fun x => no 3 [] (by rw [x]; rfl)), if_neg (fun x => no 4 [] (by rw [x]; rfl)),
    if_neg (fun x => no 0 (l.drop 6) (by unfold deedT; rw [if_pos ⟨rfl, x.2⟩, ← x.1, List.take_append_drop])), if_neg (fun x => no 1 (l.drop 5) (by unfold deedT; rw [if_neg (fun y => absurd y.1 (by decide)), if_pos ⟨rfl, x.2⟩, ← x.1, List.take_append_drop]))]
theorem dance_no32 {t : List UInt8} (h : DanceL t) : ∀ x ∈ t, x ≠ 32 := by
 intro x hx e
 have := h.2 x hx
 rw [e] at this
 exact absurd this (by decide)
theorem read_no32 {t : List UInt8} (h : (readL t).2.2 = true) : ∀ x ∈ t, x ≠ 32 := by
 rcases readL_iff t with ⟨a, b, _, ht, _⟩ | ⟨_, hr⟩
 ·intro x hx e
  rw [← ht] at hx
  have key : ∀ n : Int, x ∈ Go.Lib.itoa n → False := by
   intro n hn
   rcases itoa_mem hn with h1 | h1
   ·rw [e] at h1; exact absurd h1 (by decide)
   ·rw [e] at h1; exact absurd h1 (by decide)
  unfold fracT at hx
  split at hx
  ·exact key a hx
  ·rcases List.mem_append.1 hx with h1 | h1
   ·exact key a h1
   ·rcases List.mem_cons.1 h1 with h2 | h2
    ·rw [e] at h2; exact absurd h2 (by decide)
    ·exact key b h2
 ·rw [hr] at h; exact absurd h (by decide)
theorem deed_parts {k : Int} {t l : List UInt8} (h : deedT k t = l) (hl : l ≠ []) :
  (k = 0 ∧ l = [100, 97, 110, 99, 101] ++ 32 :: t ∧ ∀ x ∈ t, x ≠ 32) ∨ (k = 1 ∧ l = [116, 97, 107, 101] ++ 32 :: t ∧ ∀ x ∈ t, x ≠ 32) ∨ (k = 2 ∧ t = [] ∧ l = [109, 105, 114, 114, 111, 114]) ∨ (k = 3 ∧ t = [] ∧ l = [117, 110, 116, 105, 101]) ∨ (k = 4 ∧ t = [] ∧ l = [98, 97, 99, 107]) := by
 unfold deedT at h
 split at h
 ·next h0 => exact .inl ⟨h0.1, h.symm, dance_no32 h0.2⟩
 ·split at h
  ·next h1 => exact .inr (.inl ⟨h1.1, h.symm, read_no32 h1.2⟩)
  ·split at h
   ·next h2 => exact .inr (.inr (.inl ⟨h2.1, h2.2, h.symm⟩))
   ·split at h
    ·next h3 => exact .inr (.inr (.inr (.inl ⟨h3.1, h3.2, h.symm⟩)))
    ·split at h
     ·next h4 => exact .inr (.inr (.inr (.inr ⟨h4.1, h4.2, h.symm⟩)))
     ·exact absurd h.symm hl
def linev (a b : Int) (l : List S31) (s : List UInt8) : Int × Int × List S31 × List UInt8 :=
 if (rdv s).2.2 = true then ((dov a b l (rdv s).1 (rdv s).2.1).1, (dov a b l (rdv s).1 (rdv s).2.1).2.1, (dov a b l (rdv s).1 (rdv s).2.1).2.2.1, if (dov a b l (rdv s).1 (rdv s).2.1).2.2.2 = true then [111, 107] else [110, 111, 116])
 else (a, b, l, askv a b s)
def linedv (a b : Int) (l : List S31) (s : List UInt8) : Int × Int × List S31 × List UInt8 := if DeskP a b l then linev a b l s else (0, 0, [], [])
theorem linev_ok {a b : Int} {l : List S31} (h : DeskP a b l) (s : List UInt8) : DeskP (linev a b l s).1 (linev a b l s).2.1 (linev a b l s).2.2.1 := by
 unfold linev
 split
 ·exact dov_ok h
 ·exact h
theorem linev_len {a b : Int} {l : List S31} (h : DeskP a b l) (s : List UInt8) : (linev a b l s).2.2.1.length ≤ 8 ∧ (linev a b l s).2.2.2.length ≤ 2000 := by
 unfold linev
 split
 ·refine ⟨(dov_ok h).2.1, ?_⟩
  simp only; split <;> simp
 ·exact ⟨h.2.1, askv_len h.1 s⟩
theorem rdv_len (l : List UInt8) : (rdv l).2.1.length ≤ l.length := by
 unfold rdv
 repeat' split
 all_goals simp
theorem spec_l4Over_f {a b : Int} (ha : -60 ≤ a ∧ a ≤ 60) (hb : 0 < b) : spec_l4Over.f a b = some (cl a b) := by
 unfold spec_l4Over.f spec_l3Under.f
 have h1 := tdiv_abs (-a) b (by omega)
 have h2 := tdiv_mul_abs (-a) b (by omega)
 have h3 := under_value (-a) hb
 have h4 := div_abs (-a) hb (by omega)
 rw [wrap64_in (n := -a) (by omega) (by omega), if_neg (by omega), wrap64_in (n := Int.tdiv (-a) b) (by omega) (by omega), wrap64_in (n := Int.tdiv (-a) b * b) (by omega) (by omega), wrap64_in (n := Int.tdiv (-a) b - 1) (by omega) (by omega)]
 have h5 : (if Int.tdiv (-a) b * b > -a then (some (Int.tdiv (-a) b - 1)) else (some (Int.tdiv (-a) b))) = some ((-a) / b) := by rw [← h3]; split <;> rfl
 rw [h5]; simp only [Option.bind_some]
 rw [wrap64_in (by omega) (by omega)]; rfl
theorem spec_l4Terms_l0 (n : Nat) : ∀ (out : List Int) (a b : Int), out.length + n ≤ 1000 → (-60 ≤ a ∧ a ≤ 60) → (0 ≤ b ∧ b ≤ 60) → b ≤ n → ∀ k, n < k → spec_l4Terms.l0 k out a b = some (out ++ termsL n a b) := by
 induction n with
 | zero =>
  intro out a b _ _ hb hn k hk
  obtain ⟨k, rfl⟩ : ∃ m, k = m + 1 := ⟨k - 1, by omega⟩
  simp only [spec_l4Terms.l0]
  rw [if_neg (by omega)]; simp [termsL]
 | succ n ih =>
  intro out a b ho ha hb hn k hk
  obtain ⟨k, rfl⟩ : ∃ m, k = m + 1 := ⟨k - 1, by omega⟩
  simp only [spec_l4Terms.l0, termsL]
  by_cases h : b > 0
  ·have h1 := cl_bd a h
   rw [if_pos h, if_neg (by omega), spec_l4Over_f ha h]; simp only [Option.bind_some]
   rw [if_pos (by omega), wrap64_in (n := cl a b * b) (by omega) (by omega), wrap64_in (by omega) (by omega), ih (out ++ [cl a b]) b (cl a b * b - a) (by simp; omega) (by omega) (by omega) (by omega) k (by omega)]
   simp
  ·rw [if_neg h, if_pos (by omega)]; simp
theorem spec_TermsOf_f (a b : Int) {k : Nat} (hk : 1000001 ≤ k) : spec_TermsOf.f k a b = some (termsv a b) := by
 unfold spec_TermsOf.f termsv spec_l4Terms.f
 rw [spec_FractionOk_f _ _ (by omega)]; simp only [Option.bind_some, decide_eq_true_eq, spec_l1In_f]
 by_cases h : Frac a b
 ·rw [if_pos h]
  by_cases h1 : -60 ≤ a ∧ a ≤ 60
  ·rw [if_pos h1]
   by_cases h2 : 1 ≤ b ∧ b ≤ 60
   ·rw [if_pos h2, if_pos ⟨⟨h, by omega, by omega⟩, by omega⟩, spec_l4Terms_l0 60 [] a b (by simp) h1 (by omega) (by omega) k (by omega)]; rfl
   ·have := h.2.1
    rw [if_neg h2, if_neg (fun x => h2 (by have := x.1.2.2; have := x.2; omega))]
  ·rw [if_neg h1, if_neg (fun x => h1 (by have := x.1.2.1; omega))]
 ·rw [if_neg h, if_neg (fun x => h x.1.1)]
theorem spec_l11Row_l0 (l : List Int) (hl : l.length ≤ 100) (hb : ∀ x ∈ l, -60 ≤ x ∧ x ≤ 60) (n : Nat) : ∀ i : Nat, i + n = l.length → ∀ k, n + 40 < k → spec_l11Row.l0 k l (ba (rowT (l.take i))) (i : Int) = some (ba (rowv l)) := by
 induction n with
 | zero =>
  intro i hi k hk
  obtain ⟨k, rfl⟩ : ∃ m, k = m + 1 := ⟨k - 1, by omega⟩
  simp only [spec_l11Row.l0]
  unfold rowv
  rw [if_neg (by omega)]
  by_cases h : l = []
  ·rw [if_pos h, if_pos (by rw [h]; rfl)]; rfl
  ·have : 0 < l.length := List.length_pos_iff.2 h
   rw [if_neg h, if_neg (by omega), List.take_of_length_le (by omega)]
 | succ n ih =>
  intro i hi k hk
  obtain ⟨k, rfl⟩ : ∃ m, k = m + 1 := ⟨k - 1, by omega⟩
  have hil : i < l.length := by omega
  simp only [spec_l11Row.l0]
  have hd := drop_rd l i hil
  have hr : rd l (i : Int) = l[i] := by
   have e := List.drop_eq_getElem_cons hil
   rw [e] at hd; injection hd with h1 _; exact h1.symm
  have hx := hb l[i] (List.getElem_mem hil)
  have hlen := itoa_length (n := l[i]) (by omega)
  have h1 := rowT_len i (l.take i) (by rw [List.length_take]; omega) (fun x h => hb x (List.mem_of_mem_take h))
  have h2 := rowT_take l i hil
  have goOn := ih (i + 1) (by omega) k (by omega)
  have num : spec_l1Number.f k l[i] = some (ba (Go.Lib.itoa l[i])) := spec_l1Number_f (by omega) (by omega)
  rw [if_pos (by omega), hr, wrap64_in (by omega) (by omega), num]; simp only [Option.bind_some]
  have comma : (ba (rowT (l.take i))) ++ (⟨#[44]⟩ : ByteArray) = ba (rowT (l.take i) ++ [44]) := ba_append _ [44]
  by_cases h : i = 0
  ·subst h
   rw [if_neg (by omega), if_pos (by omega)]
   have e0 : rowT (l.take 0) = [] := rfl
   rw [e0, ba_size, ba_size, if_pos (by simp; omega), ba_append, List.nil_append]
   rw [if_pos rfl] at h2
   rw [h2] at goOn; exact goOn
  ·rw [if_pos (by omega), ba_size, if_pos (by omega), if_pos (by omega), comma, ba_size, ba_size, if_pos (by simp; omega), ba_append]
   rw [if_neg h] at h2
   rw [h2] at goOn; exact goOn
theorem spec_l11Row_f (l : List Int) (hl : l.length ≤ 100) (hb : ∀ x ∈ l, -60 ≤ x ∧ x ≤ 60) {k : Nat} (hk : 200 ≤ k) : spec_l11Row.f k l = some (ba (rowv l)) := by
 unfold spec_l11Row.f
 exact spec_l11Row_l0 l hl hb l.length 0 (Nat.zero_add _) k (by omega)
theorem spec_EndsFor_f {a b : Int} (h : Frac a b) {k : Nat} (hk : 1000001 ≤ k) : spec_EndsFor.f k a b = some (endsv a b) := by
 unfold spec_EndsFor.f spec_KindOf.f endsv
 rw [spec_FractionOk_f _ _ hk]; simp only [Option.bind_some, decide_eq_true_eq]
 rw [if_pos h]
 by_cases h1 : Int.tmod a 2 = 0
 ·rw [if_pos h1, if_pos h1]; rfl
 ·rw [if_neg h1, if_neg h1]
  by_cases h2 : Int.tmod b 2 = 0
  ·rw [if_pos h2, if_pos h2]; rfl
  ·rw [if_neg h2, if_neg h2]; rfl
theorem spec_RingsOf_f {a b : Int} (h : Frac a b) {k : Nat} (hk : 1000001 ≤ k) : spec_RingsOf.f k a b = some (ringsv a) := by
 unfold spec_RingsOf.f ringsv
 rw [spec_FractionOk_f _ _ hk]; simp only [Option.bind_some, decide_eq_true_eq]
 rw [if_pos h]; split <;> rfl
theorem rdD_drop (l : List S38) (i : Nat) (h : i < l.length) : l.drop i = rd_T38 l (i : Int) :: l.drop (i + 1) := by
 rw [List.drop_eq_getElem_cons h]
 unfold rd_T38
 simp [h]
def firstD (l : List UInt8) : List S38 → Int × ByteArray × Bool
 | [] => (0, ⟨#[]⟩, false)
 | c :: r => if deedT c.f0 c.f1.data.toList = l then (c.f0, c.f1, true) else firstD l r
theorem spec_ReadDeed_l0 (s : ByteArray) (hne : s.data.toList ≠ []) (C : List S38) (hC : C.length ≤ 10) (hsz : ∀ c ∈ C, c.f1.size ≤ 100000000) (n : Nat) : ∀ i : Nat, i + n = C.length → ∀ k, n + 300000011 ≤ k →
  spec_ReadDeed.l0 k s C (i : Int) = some (firstD s.data.toList (C.drop i)) := by
 induction n with
 | zero =>
  intro i hi k hk
  obtain ⟨k, rfl⟩ : ∃ m, k = m + 1 := ⟨k - 1, by omega⟩
  simp only [spec_ReadDeed.l0]
  rw [if_neg (by omega), List.drop_of_length_le (by omega)]; rfl
 | succ n ih =>
  intro i hi k hk
  obtain ⟨k, rfl⟩ : ∃ m, k = m + 1 := ⟨k - 1, by omega⟩
  have hd := rdD_drop C i (by omega)
  have hm : rd_T38 C (i : Int) ∈ C := List.mem_of_mem_drop (i := i) (by rw [hd]; simp)
  simp only [spec_ReadDeed.l0]
  rw [if_pos (by omega), ByteArray.toList_eq, if_neg hne, if_pos (by omega), spec_DeedTextv _ _ (hsz _ hm) (by omega), wrap64_in (by omega) (by omega), show ((i : Int) + 1) = ((i + 1 : Nat) : Int) by omega, ih (i + 1) (by omega) k (by omega), hd]
  simp only [Option.bind_some, firstD]
  rw [ba_toList]
  split <;> rfl
theorem firstD_some {l : List UInt8} : ∀ {C : List S38}, (firstD l C).2.2 = true → ∃ c ∈ C, deedT c.f0 c.f1.data.toList = l ∧ firstD l C = (c.f0, c.f1, true)
 | [], h => by simp [firstD] at h
 | c :: r, h => by
  simp only [firstD] at h ⊢
  by_cases hc : deedT c.f0 c.f1.data.toList = l
  ·exact ⟨c, by simp, hc, by rw [if_pos hc]⟩
  ·rw [if_neg hc] at h ⊢
   obtain ⟨d, h1, h2, h3⟩ := firstD_some h
   exact ⟨d, by simp [h1], h2, h3⟩
theorem firstD_none {l : List UInt8} : ∀ {C : List S38}, ¬ (firstD l C).2.2 = true → firstD l C = (0, ⟨#[]⟩, false) ∧ ∀ c ∈ C, deedT c.f0 c.f1.data.toList ≠ l
 | [], _ => ⟨rfl, by simp⟩
 | c :: r, h => by
  simp only [firstD] at h ⊢
  by_cases hc : deedT c.f0 c.f1.data.toList = l
  ·rw [if_pos hc] at h; exact absurd rfl h
  ·rw [if_neg hc] at h ⊢
   obtain ⟨h1, h2⟩ := firstD_none h
   refine ⟨h1, fun d hd => ?_⟩
   rcases List.mem_cons.1 hd with rfl | hd
   ·exact hc
   ·exact h2 d hd
theorem firstD_rdv {l : List UInt8} (hne : l ≠ []) (C : List S38) (h : ∀ k t, deedT k t = l → (⟨k, ba t⟩ : S38) ∈ C) : firstD l C = ((rdv l).1, ba (rdv l).2.1, (rdv l).2.2) := by
 by_cases hf : (firstD l C).2.2 = true
 ·obtain ⟨c, _, h2, h3⟩ := firstD_some hf
  have := rdv_of (k := c.f0) (t := c.f1.data.toList) (by rw [h2]; exact hne)
  rw [h2] at this
  rw [h3, this]; rfl
 ·obtain ⟨h1, h2⟩ := firstD_none hf
  rcases rdv_cases l with ⟨k, t, _, hd, _⟩ | ⟨_, hr⟩
  ·exact absurd hd (h2 _ (h k t hd))
  ·rw [h1, hr]; rfl
theorem spec_ReadDeed_f (s : ByteArray) {k : Nat} (hs : s.size ≤ 100000000) (hk : 300000100 ≤ k) : spec_ReadDeed.f k s = some ((rdv s.data.toList).1, ba (rdv s.data.toList).2.1, (rdv s.data.toList).2.2) := by
 obtain ⟨k, rfl⟩ : ∃ m, k = m + 1 := ⟨k - 1, by omega⟩
 have hl : s.data.toList.length = s.size := rfl
 unfold spec_ReadDeed.f
 have hc := spec_l1Cut_f s 32 (k := k + 1) hs (by omega)
 rw [show (((32 : UInt8).toNat : Nat) : Int) = 32 from rfl] at hc
 rw [hc]; simp only [Option.bind_some, List.length_map, spec_ReadDeed.j0]
 have hsub := splitL_sub 32 s.data.toList []
 by_cases hne : s.data.toList = []
 ·have L0 : ∀ (C : List S38) (n i k : Nat), i + n = C.length → C.length ≤ 10 → n < k → spec_ReadDeed.l0 k s C (i : Int) = some (0, ⟨#[]⟩, false) := by
   intro C n
   induction n with
   | zero =>
    intro i k hi hC hk
    obtain ⟨k, rfl⟩ : ∃ m, k = m + 1 := ⟨k - 1, by omega⟩
    simp only [spec_ReadDeed.l0]
    rw [if_neg (by omega)]
   | succ n ih =>
    intro i k hi hC hk
    obtain ⟨k, rfl⟩ : ∃ m, k = m + 1 := ⟨k - 1, by omega⟩
    simp only [spec_ReadDeed.l0]
    rw [if_pos (by omega), ByteArray.toList_eq, if_pos hne, wrap64_in (by omega) (by omega), show ((i : Int) + 1) = ((i + 1 : Nat) : Int) by omega]
    exact ih (i + 1) k (by omega) hC (by omega)
  rw [hne]
  have e : (splitL 32 [] ([] : List UInt8)).length = 1 := rfl
  rw [e, if_neg (by decide)]
  exact L0 _ 3 0 k rfl (by decide) (by omega)
 ·have L := fun (C : List S38) (hC : C.length ≤ 10) (hsz : ∀ c ∈ C, c.f1.size ≤ 100000000) => spec_ReadDeed_l0 s hne C hC hsz C.length 0 (by omega) k (by omega)
  by_cases h2 : (splitL 32 [] s.data.toList).length = 2
  ·obtain ⟨x, y, hxy⟩ : ∃ x y, splitL 32 [] s.data.toList = [x, y] := by
    match h : splitL 32 [] s.data.toList, h2 with
    | [x, y], _ => exact ⟨x, y, rfl⟩
   have hy := hsub y (by rw [hxy]; simp)
   rw [hxy, if_pos (by rfl), if_pos (by simp), if_pos (by simp)]
   have e1 : rdOf ByteArray.empty (List.map ba [x, y]) 1 = ba y := rfl
   rw [e1]
   refine (L _ (by simp) ?_).trans (congrArg some ?_)
   ·intro c hc
    have hy2 : (ba y).size ≤ 100000000 := by rw [ba_size]; simp at hy; omega
    simp at hc
    rcases hc with rfl | rfl | rfl | rfl | rfl
    ·decide
    ·decide
    ·decide
    ·exact hy2
    ·exact hy2
   ·rw [List.drop_zero]
    refine firstD_rdv hne _ fun k' t hd => ?_
    rcases deed_parts hd hne with ⟨rfl, hs', hx⟩ | ⟨rfl, hs', hx⟩ | ⟨rfl, rfl, hs'⟩ | ⟨rfl, rfl, hs'⟩ | ⟨rfl, rfl, hs'⟩
    ·have : y = t := by
      rw [hs', splitL_one _ _ _ (by decide), splitL_none _ _ hx] at hxy
      simp at hxy; exact hxy.2.symm
     rw [this]; simp
    ·have : y = t := by
      rw [hs', splitL_one _ _ _ (by decide), splitL_none _ _ hx] at hxy
      simp at hxy; exact hxy.2.symm
     rw [this]; simp
    ·exact .head _
    ·exact .tail _ (.head _)
    ·exact .tail _ (.tail _ (.head _))
  ·rw [if_neg (by omega)]
   refine (L _ (by decide) ?_).trans (congrArg some ?_)
   ·intro c hc
    simp at hc
    rcases hc with rfl | rfl | rfl <;> decide
   ·rw [List.drop_zero]
    refine firstD_rdv hne _ fun k' t hd => ?_
    rcases deed_parts hd hne with ⟨rfl, hs', hx⟩ | ⟨rfl, hs', hx⟩ | ⟨rfl, rfl, hs'⟩ | ⟨rfl, rfl, hs'⟩ | ⟨rfl, rfl, hs'⟩
    ·exact absurd (by rw [hs', splitL_one _ _ _ (by decide), splitL_none _ _ hx]; rfl) h2
    ·exact absurd (by rw [hs', splitL_one _ _ _ (by decide), splitL_none _ _ hx]; rfl) h2
    ·exact .head _
    ·exact .tail _ (.head _)
    ·exact .tail _ (.tail _ (.head _))
theorem spec_QuotientsOf_l0 (u v : Int) (hf : Frac u v) (n : Nat) : ∀ (acc : List Int) (a b : Nat), b ≤ n → acc.length + b < 17592186044416 → a ≤ 9223372036854775807 → b ≤ 9223372036854775807 → ∀ k, n + 1000001 < k → spec_QuotientsOf.l0 k acc (a : Int) (b : Int) u v = some (acc ++ quoL a b) := by
 induction n with
 | zero =>
  intro acc a b hb hl ha _ k hk
  obtain ⟨k, rfl⟩ : ∃ m, k = m + 1 := ⟨k - 1, by omega⟩
  obtain rfl : b = 0 := by omega
  simp only [spec_QuotientsOf.l0]
  rw [if_neg (by omega), quoL_zero, List.append_nil]
 | succ n ih =>
  intro acc a b hb hl ha hb' k hk
  obtain ⟨k, rfl⟩ : ∃ m, k = m + 1 := ⟨k - 1, by omega⟩
  simp only [spec_QuotientsOf.l0]
  by_cases h : b = 0
  ·rw [if_neg (by omega), h, quoL_zero, List.append_nil]
  ·have h1 := Nat.mod_lt a (show b > 0 by omega)
   have h2 := Nat.div_le_self a b
   have h3 : (0 : Int) ≤ ((a / b : Nat) : Int) := Int.natCast_nonneg _
   rw [if_pos (by omega), spec_FractionOk_f _ _ (by omega)]; simp only [Option.bind_some, decide_eq_true_eq]
   rw [if_pos hf, if_neg (by omega), if_pos (by omega), tdiv_cast, tmod_cast2, wrap64_in (by omega) (by omega), ih _ b (a % b) (by omega) (by rw [List.length_append]; simp; omega) hb' (by omega) k (by omega), quoL_pos a h]
   simp
theorem spec_QuotientsOf_f (a b : Int) {k : Nat} (hk : 3000000 ≤ k) : spec_QuotientsOf.f k a b = some (quov a b) := by
 unfold spec_QuotientsOf.f quov
 by_cases h : Frac a b
 ·have h1 := h.1
  have h2 := h.2.1
  rw [mx_abs (by omega) (by omega), if_pos h]
  have e : b = ((b.natAbs : Nat) : Int) := by omega
  have := spec_QuotientsOf_l0 a b h b.natAbs [] a.natAbs b.natAbs (Nat.le_refl _) (by simp; omega) (by omega) (by omega) k (by omega)
  rw [← e] at this
  rw [this]; rfl
 ·rw [if_neg h]
  obtain ⟨k, rfl⟩ : ∃ m, k = m + 1 := ⟨k - 1, by omega⟩
  simp only [spec_QuotientsOf.l0]
  by_cases h0 : b > 0
  ·rw [if_pos h0, spec_FractionOk_f _ _ (by omega)]; simp only [Option.bind_some, decide_eq_true_eq]; rw [if_neg h]
  ·rw [if_neg h0]
theorem spec_CrossingsOf_l0 (l : List Int) (hl : l.length ≤ 1000000) (hp : ∀ x ∈ l, 0 ≤ x) (n : Nat) : ∀ (s : Int) (i : Nat), i + n = l.length → 0 ≤ s → s + (l.drop i).sum ≤ 4611686018427387904 → ∀ k, n < k → spec_CrossingsOf.l0 k s l (i : Int) = some (s + (l.drop i).sum) := by
 induction n with
 | zero =>
  intro s i hi hs hb k hk
  obtain ⟨k, rfl⟩ : ∃ m, k = m + 1 := ⟨k - 1, by omega⟩
  simp only [spec_CrossingsOf.l0]
  rw [if_neg (by omega), List.drop_of_length_le (by omega)]; simp
 | succ n ih =>
  intro s i hi hs hb k hk
  obtain ⟨k, rfl⟩ : ∃ m, k = m + 1 := ⟨k - 1, by omega⟩
  simp only [spec_CrossingsOf.l0]
  have hd := drop_rd l i (by omega)
  have h0 := sum_nonneg (l.drop (i + 1)) (fun x hx => hp x (List.mem_of_mem_drop hx))
  have h1 : 0 ≤ rd l (i : Int) := hp _ (List.mem_of_mem_drop (i := i) (by rw [hd]; simp))
  rw [hd, List.sum_cons] at hb
  rw [if_pos (by omega), if_pos (by omega), wrap64_in (by omega) (by omega), wrap64_in (n := (i : Int) + 1) (by omega) (by omega)]
  have := ih (s + rd l (i : Int)) (i + 1) (by omega) (by omega) (by omega) k (by omega)
  rw [hd, List.sum_cons, ← Int.add_assoc, ← this]; rfl
theorem spec_CrossingsOf_f (a b : Int) {k : Nat} (hk : 3000000 ≤ k) : spec_CrossingsOf.f k a b = some (crossv a b) := by
 unfold spec_CrossingsOf.f crossv
 rw [spec_FractionOk_f _ _ (by omega)]; simp only [Option.bind_some, decide_eq_true_eq]
 by_cases h : Frac a b
 ·have h1 := h.1
  have h2 := h.2.1
  rw [if_pos h, if_pos h, spec_QuotientsOf_f _ _ hk]; simp only [Option.bind_some]; unfold quov crossn; rw [if_pos h]
  have hl := quoL_length b.natAbs a.natAbs b.natAbs (Nat.le_refl _)
  have hs := quoL_sum b.natAbs a.natAbs b.natAbs (Nat.le_refl _)
  have := spec_CrossingsOf_l0 (quoL a.natAbs b.natAbs) (by omega) (quoL_nonneg b.natAbs _ _ (Nat.le_refl _)) _ 0 0 (Nat.zero_add _) (by omega) (by rw [List.drop_zero]; omega) k (by omega)
  rw [List.drop_zero, Int.zero_add] at this
  exact this
 ·rw [if_neg h, if_neg h]
theorem spec_LinkOf_f (a b : Int) {k : Nat} (hk : 1000002 ≤ k) : spec_LinkOf.f k a b = some (linkofv a b) := by
 obtain ⟨k, rfl⟩ : ∃ m, k = m + 1 := ⟨k - 1, by omega⟩
 unfold spec_LinkOf.f
 rw [spec_FractionOk_f _ _ (by omega)]; simp only [spec_l1In_f, Option.bind_some, decide_eq_true_eq]
 have no : ¬ (Frac a b ∧ (-60 ≤ a ∧ a ≤ 60)) → spec_LinkOf.j0 (k + 1) true a b = some (linkofv a b) := by
  intro h; simp only [spec_LinkOf.j0]; rw [if_pos trivial]; unfold linkofv; rw [if_neg h]
 by_cases h : Frac a b
 ·rw [if_pos h]
  by_cases h2 : -60 ≤ a ∧ a ≤ 60
  ·rw [decide_eq_true h2]; simp only [spec_LinkOf.j0]; rw [if_neg (by decide)]
   by_cases h0 : a = 0
   ·rw [if_pos h0]; unfold linkofv; rw [if_pos ⟨h, by omega⟩, if_pos h0]
   ·rw [if_neg h0]; exact linkof_value h (by omega) h0
  ·rw [decide_eq_false h2]; exact no (fun x => h2 x.2)
 ·rw [if_neg h]; exact no (fun x => h x.1)
theorem spec_LinkOk_f (a b : Int) {k : Nat} (hk : 1000 ≤ k) : spec_LinkOk.f k a b = some (decide (LinkP a b)) := by
 unfold spec_LinkOk.f
 by_cases h2 : a = 0
 ·rw [if_pos h2]; subst h2; exact dec_iff (linkP_zero b).symm
 ·rw [if_neg h2]
  by_cases h3 : a = 1
  ·rw [if_pos h3]; subst h3; exact dec_iff (linkP_one b).symm
  ·rw [if_neg h3, spec_l1In_f]; simp only [Option.bind_some, decide_eq_true_eq]
   by_cases h1 : 2 ≤ a ∧ a ≤ 60
   ·rw [if_pos h1, spec_l1In_f, wrap64_in (by omega) (by omega)]; simp only [Option.bind_some, decide_eq_true_eq]
    by_cases h4 : 1 ≤ b ∧ b ≤ a - 1
    ·rw [if_pos h4, spec_l1Common_f (by omega) (by omega) (by omega)]; simp only [Option.bind_some, gcd_beq]
     exact dec_iff ⟨fun x => (linkP_more h2 h3).2 ⟨h1, by omega, x⟩, fun x => ((linkP_more h2 h3).1 x).2.2⟩
    ·rw [if_neg h4]; exact (dec_false (fun x => by have := (linkP_more h2 h3).1 x; omega)).symm
   ·rw [if_neg h1]; exact (dec_false (fun x => h1 ((linkP_more h2 h3).1 x).1)).symm
theorem spec_l10Back_l0 (n : Nat) : ∀ (x a b : Nat), 0 < a → a ≤ x + n → x ≤ 100 → a ≤ 100 → b ≤ 100 → ∀ k, n < k → spec_l10Back.l0 k (b : Int) (a : Int) (x : Int) = some ((backn n x b a : Nat) : Int) := by
 induction n with
 | zero =>
  intro x a b ha hb hx _ _ k hk
  obtain ⟨k, rfl⟩ : ∃ m, k = m + 1 := ⟨k - 1, by omega⟩
  simp only [spec_l10Back.l0]
  rw [if_neg (by omega)]; rfl
 | succ n ih =>
  intro x a b ha hb hx ha' hb' k hk
  obtain ⟨k, rfl⟩ : ∃ m, k = m + 1 := ⟨k - 1, by omega⟩
  simp only [spec_l10Back.l0, backn]
  by_cases h : x < a
  ·have hm : x * b ≤ 100 * 100 := Nat.mul_le_mul hx hb'
   rw [if_pos (by omega), if_neg (by omega), if_pos h, ← Int.natCast_mul, wrap64_in (n := ((x * b : Nat) : Int)) (by omega) (by omega), tmod_cast]
   by_cases h1 : x * b % a = 1
   ·rw [if_pos (by omega), if_pos h1]
   ·rw [if_neg (by omega), if_neg h1, wrap64_in (by omega) (by omega)]
    have := ih (x + 1) a b ha (by omega) (by omega) ha' hb' k (by omega)
    rw [← this]; rfl
  ·rw [if_neg (by omega), if_neg h]; rfl
theorem spec_LeastOf_f (a b : Int) {k : Nat} (hk : 1000 ≤ k) : spec_LeastOf.f k a b = some (leastofv a b) := by
 unfold spec_LeastOf.f
 rw [spec_LinkOk_f _ _ hk]; simp only [Option.bind_some, decide_eq_true_eq]
 unfold leastofv
 by_cases h : LinkP a b
 ·rw [if_pos h, if_pos h]
  have hr := linkP_range h
  obtain ⟨a, rfl⟩ := Int.eq_ofNat_of_zero_le hr.1
  obtain ⟨b, rfl⟩ := Int.eq_ofNat_of_zero_le hr.2.2.1
  by_cases h0 : a = 0
  ·subst h0
   have := (linkP_zero b).1 h
   obtain rfl : b = 1 := by omega
   rfl
  ·by_cases h1 : a = 1
   ·subst h1
    have := (linkP_one b).1 h
    obtain rfl : b = 0 := by omega
    rfl
   ·have hm := (linkP_more (by omega) (by omega)).1 h
    rw [if_neg (by omega)]
    unfold spec_l10Back.f
    have e := spec_l10Back_l0 60 1 a b (by omega) (by omega) (by omega) (by omega) (by omega) k (by omega)
    rw [show ((1 : Nat) : Int) = 1 from rfl] at e
    rw [e]; simp only [Option.bind_some]
    have := back_least_at (a := a) (b := b) (by omega) (by omega) (by omega) (by omega) (by have := hm.2.2; simpa [Int.gcd] using this)
    unfold leastv
    rw [show (((a : Nat) : Int)).toNat = a from rfl, show (((b : Nat) : Int)).toNat = b from rfl, ← this]
    congr 3
    unfold mn; split <;> omega
 ·rw [if_neg h, if_neg h]
theorem spec_TiedFor_f (a b c : Int) {k : Nat} (hk : 1000001 ≤ k) : spec_TiedFor.f k a b c = some (tiedv a b c) := by
 unfold spec_TiedFor.f tiedv
 rw [spec_FractionOk_f _ _ hk]; simp only [Option.bind_some, decide_eq_true_eq, spec_l1In_f]
 by_cases h : Frac a b
 ·have h1 := h.1
  rw [if_pos h]
  by_cases c1 : 1 ≤ c ∧ c ≤ 12
  ·rw [if_pos c1, spec_l1Common_f (by omega) (by omega) (by omega), if_pos (show Frac a b ∧ (1 ≤ c ∧ c ≤ 12) from ⟨h, c1⟩)]; simp only [Option.bind_some]; rw [Int.gcd_comm, tied_wrap a (by omega) (by omega)]
  ·rw [if_neg c1, if_neg (fun x => c1 x.2)]
 ·rw [if_neg h, if_neg (fun x => h x.1)]
theorem colN_words {s : List UInt8} {n : Int} (h : colN s = some n) : splitL 32 [] s = [[99, 111, 108, 111, 117, 114, 115], Go.Lib.itoa n] := by
 obtain ⟨_, _, e⟩ := colN_bd h
 have e2 : s = [99, 111, 108, 111, 117, 114, 115] ++ 32 :: Go.Lib.itoa n := e
 rw [e2, splitL_one _ _ _ (by decide), splitL_none _ _ (itoa_no32 n)]; rfl
theorem words_colN {s x : List UInt8} (h : splitL 32 [] s = [[99, 111, 108, 111, 117, 114, 115], x]) (h1 : (digsv x).2 = true) (h2 : 0 ≤ (digsv x).1) : colN s = some (digsv x).1 := by
 rcases cut_cases 32 s with hn | ⟨p, q, e, hp⟩
 ·rw [splitL_none _ _ hn] at h; simp at h
 ·rw [e, splitL_one _ _ _ hp] at h
  injection h with e1 h
  rw [List.nil_append] at e1
  rcases cut_cases 32 q with hn | ⟨p', q', e', hp'⟩
  ·rw [splitL_none _ _ hn, List.nil_append] at h
   injection h with e2 _
   subst e2
   obtain ⟨u, hu, hq⟩ := digsv_of h1 h2
   have hd := digsv_itoa (n := (u : Int)) (by omega)
   rw [e, e1, hq, hd]
   exact colN_itoa (n := (u : Int)) (by omega) (by omega)
  ·rw [e', splitL_one _ _ _ hp'] at h
   injection h with _ h
   obtain ⟨y, r, e3⟩ := splitL_cons 32 q' []
   rw [e3] at h; cases h
theorem spec_DeskLine_f (a b : Int) (l : List S31) (s : ByteArray) {k : Nat} (hl : l.length ≤ 100000000) (hs : s.size ≤ 100000000) (hk : 400000000 ≤ k) :
  spec_DeskLine.f k a b l s = some ((linedv a b l s.data.toList).1, (linedv a b l s.data.toList).2.1, (linedv a b l s.data.toList).2.2.1, ba (linedv a b l s.data.toList).2.2.2) := by
 have copy : spec_l11Copy.f a b l = some (a, b, l) := by unfold spec_l11Copy.f; simp only [Option.bind_some, List.nil_append]; rw [if_pos (by simp; omega)]
 unfold spec_DeskLine.f linedv linev
 rw [spec_DeskOk_f a b l hl (by omega)]; simp only [Option.bind_some, decide_eq_true_eq]
 by_cases hd : DeskP a b l
 ·have hf := hd.1
  rw [if_pos hd, if_pos hd, copy]; simp only [Option.bind_some]
  rw [spec_ReadDeed_f s hs (by omega)]; simp only [Option.bind_some]
  by_cases hr : (rdv s.data.toList).2.2 = true
  ·rw [if_pos hr, if_pos hr]
   have ht : (ba (rdv s.data.toList).2.1).size ≤ 100000000 := by
    have := rdv_len s.data.toList
    rw [ba_size]; have hsz : s.data.toList.length = s.size := rfl; omega
   rw [spec_DeskDo_f a b l _ _ hl ht (by omega)]; simp only [Option.bind_some, ba_list]
   unfold deskdov
   rw [if_pos hd]
   split <;> rfl
  ·rw [if_neg hr, if_neg hr]
   simp only [ByteArray.toList_eq]
   unfold askv
   have hsz : s.data.toList.length = s.size := rfl
   generalize hz : s.data.toList = z at *
   have num : ∀ {n : Int} {k : Nat}, n.natAbs < 10000000 → 400000000 ≤ k + 10 → spec_l1Number.f k n = some (ba (Go.Lib.itoa n)) := fun h h' => spec_l1Number_f (by omega) (by omega)
   have ht := termsv_bd a b
   have he := endsv_bd a b
   by_cases q0 : z = [116, 101, 120, 116]
   ·rw [if_pos q0, if_pos q0]
    rw [spec_FractionText_f a b (by omega)]; simp only [Option.bind_some]; unfold fracTv; rw [if_pos hf]
   ·rw [if_neg q0, if_neg q0]
    by_cases q1 : z = [109, 111, 118, 101, 115]
    ·rw [if_pos q1, if_pos q1]
     rw [spec_UntiedOf_f a b (by omega)]; simp only [Option.bind_some]
     split
     ·have := untv_len a b
      rw [ba_size, if_pos (by omega)]
      have e : (⟨#[58]⟩ : ByteArray) ++ ba (untv a b).1 = ba (58 :: (untv a b).1) := ba_append [58] _
      rw [e]
     ·rfl
    ·rw [if_neg q1, if_neg q1]
     by_cases q2 : z = [116, 101, 114, 109, 115]
     ·rw [if_pos q2, if_pos q2]
      rw [spec_TermsOf_f a b (by omega)]; simp only [Option.bind_some]
      rw [spec_l11Row_f _ ht.1 ht.2.1 (by omega)]; rfl
     ·rw [if_neg q2, if_neg q2]
      by_cases q3 : z = [99, 114, 111, 115, 115, 105, 110, 103, 115]
      ·rw [if_pos q3, if_pos q3]
       rw [spec_CrossingsOf_f a b (by omega)]; simp only [Option.bind_some]
       rw [num (crossv_bd a b) (by omega)]; rfl
      ·rw [if_neg q3, if_neg q3]
       by_cases q4 : z = [101, 110, 100, 115]
       ·rw [if_pos q4, if_pos q4]
        rw [spec_EndsFor_f hf (by omega)]; simp only [Option.bind_some]
        rw [spec_l11Row_f _ he.1 he.2.1 (by omega)]; unfold rowv; rw [if_neg he.2.2]; rfl
       ·rw [if_neg q4, if_neg q4]
        by_cases q5 : z = [114, 105, 110, 103, 115]
        ·rw [if_pos q5, if_pos q5]
         rw [spec_RingsOf_f hf (by omega)]; simp only [Option.bind_some]
         rw [num (by unfold ringsv; split <;> decide) (by omega)]; rfl
        ·rw [if_neg q5, if_neg q5]
         by_cases q6 : z = [108, 105, 110, 107]
         ·rw [if_pos q6, if_pos q6]
          rw [spec_LinkOf_f a b (by omega)]; simp only [Option.bind_some]
          split
          ·next hlk =>
           have hb := leastv_bd (linkofv_ok hlk)
           rw [spec_LeastOf_f _ _ (by omega)]; simp only [Option.bind_some]
           have l1 := itoa_length hb.1
           have l2 := itoa_length hb.2
           rw [num hb.1 (by omega), num hb.2 (by omega)]; simp only [Option.bind_some]
           have e : ∀ x : List UInt8, ba x ++ (⟨#[58]⟩ : ByteArray) = ba (x ++ [58]) := fun x => ba_append x [58]
           rw [ba_size, if_pos (by omega), e, ba_size, ba_size, if_pos (by simp; omega), ba_append]
           simp
          ·rfl
         ·rw [if_neg q6, if_neg q6]
          have hc := spec_l1Cut_f s 32 (k := k) hs (by omega)
          rw [hz] at hc
          have hc' : spec_l1Cut.f k s 32 = some ((splitL 32 [] z).map ba) := hc
          rw [hc']; simp only [Option.bind_some, List.length_map]
          obtain ⟨k, rfl⟩ : ∃ m, k = m + 2 := ⟨k - 2, by omega⟩
          have what : ∀ w : List ByteArray, spec_DeskLine.j0 (k + 2) w true a b l a b = some (a, b, l, ba [119, 104, 97, 116]) := by
           intro w; simp only [spec_DeskLine.j0]; rw [if_pos trivial]; rfl
          by_cases h2 : ((splitL 32 [] z).length : Int) = 2
          ·rw [if_pos h2, if_pos (by omega)]
           obtain ⟨x, y, hw⟩ : ∃ x y, splitL 32 [] z = [x, y] := by
            match hq : splitL 32 [] z, h2 with
            | [x, y], _ => exact ⟨x, y, rfl⟩
            | [], h => simp at h
            | [x], h => simp at h
            | x :: y :: v :: r, h => simp at h; omega
           rw [hw]
           have r0 : rdOf ByteArray.empty ([x, y].map ba) 0 = ba x := rfl
           have r1 : rdOf ByteArray.empty ([x, y].map ba) 1 = ba y := rfl
           rw [r0, ba_list]
           by_cases hx : x = [99, 111, 108, 111, 117, 114, 115]
           ·subst hx
            rw [show (([99, 111, 108, 111, 117, 114, 115] : List UInt8) != [99, 111, 108, 111, 117, 114, 115]) = false by decide]
            have hy : y.length ≤ 100000000 := by
             have := splitL_sub 32 z [] y (by rw [hw]; simp)
             simp at this; omega
            simp only [spec_DeskLine.j0]
            rw [if_neg (by decide), if_pos (by simp), r1, spec_l1Digits_f (ba y) (by rw [ba_size]; exact hy) (by omega)]; simp only [Option.bind_some, ba_list]
            have what1 : ∀ n : Int, spec_DeskLine.j1 (k + 1) n true a b l a b = some (a, b, l, ba [119, 104, 97, 116]) := by
             intro n; simp only [spec_DeskLine.j1]; rw [if_pos trivial]; rfl
            by_cases h3 : (digsv y).2 = true
            ·rw [if_pos h3]
             by_cases h4 : (digsv y).1 < 0
             ·have hno : colN z = none := by
               cases hcn : colN z with
               | none => rfl
               | some n =>
                have := colN_words hcn
                rw [hw] at this; injection this with _ this; injection this with this _
                obtain ⟨b1, b2, _⟩ := colN_bd hcn
                rw [this, digsv_itoa (by omega)] at h4
                simp only at h4; omega
              rw [decide_eq_true h4, what1, hno]
             ·rw [decide_eq_false h4, words_colN hw h3 (by omega)]
              simp only [spec_DeskLine.j1]
              rw [if_neg (by decide), spec_l1In_f]; simp only [Option.bind_some, decide_eq_true_eq]
              by_cases h5 : 1 ≤ (digsv y).1 ∧ (digsv y).1 ≤ 12
              ·rw [if_pos h5, if_pos h5, spec_TiedFor_f _ _ _ (by omega)]; simp only [Option.bind_some]
               rw [num (tiedv_bd a b _) (by omega)]; rfl
              ·rw [if_neg h5, if_neg h5]; rfl
            ·have hno : colN z = none := by
              cases hcn : colN z with
              | none => rfl
              | some n =>
               have := colN_words hcn
               rw [hw] at this; injection this with _ this; injection this with this _
               obtain ⟨b1, b2, _⟩ := colN_bd hcn
               rw [this, digsv_itoa (by omega)] at h3
               exact absurd rfl h3
             rw [if_neg h3, what1, hno]
           ·have hno : colN z = none := by
             cases hcn : colN z with
             | none => rfl
             | some n =>
              have := colN_words hcn
              rw [hw] at this; injection this with this _
              exact absurd this hx
            rw [show (x != [99, 111, 108, 111, 117, 114, 115]) = true by simpa using hx, what, hno]
          ·have hno : colN z = none := by
            cases hcn : colN z with
            | none => rfl
            | some n =>
             have := colN_words hcn
             rw [this] at h2; simp at h2
           rw [if_neg h2, what, hno]
 ·rw [if_neg hd, if_neg hd]; rfl
theorem impl_isPart_f (a : Int) : impl_isPart.f a = some (decide (-1000000 ≤ a ∧ a ≤ 1000000)) := by
 unfold impl_isPart.f
 by_cases h : -1000000 ≤ a
 ·rw [if_pos h]; exact dec_iff ⟨fun x => ⟨h, x⟩, fun x => x.2⟩
 ·rw [if_neg h]; exact (dec_false (fun x => h x.1)).symm
theorem impl_gcd_l0 (n : Nat) : ∀ (a b : Int), b.natAbs ≤ n → a.natAbs ≤ 9223372036854775807 → b.natAbs ≤ 9223372036854775807 → ∀ k, n < k → impl_gcd.l0 k a b = some (Int.gcd a b : Int) := by
 induction n with
 | zero =>
  intro a b hb ha _ k hk
  obtain ⟨k, rfl⟩ : ∃ m, k = m + 1 := ⟨k - 1, by omega⟩
  obtain rfl : b = 0 := by omega
  simp only [impl_gcd.l0]
  rw [if_pos trivial, mx_abs (by omega) (by omega), Int.gcd_zero_right]
 | succ n ih =>
  intro a b hb ha hb' k hk
  obtain ⟨k, rfl⟩ : ∃ m, k = m + 1 := ⟨k - 1, by omega⟩
  simp only [impl_gcd.l0]
  by_cases h : b = 0
  ·subst h; rw [if_pos rfl, mx_abs (by omega) (by omega), Int.gcd_zero_right]
  ·have := natAbs_tmod_lt a h
   rw [if_neg h, ih b (Int.tmod a b) (by omega) hb' (by omega) k (by omega), gcd_tmod]
theorem impl_gcd_f {a b : Int} {k : Nat} (ha : a.natAbs ≤ 9223372036854775807) (hb : b.natAbs ≤ 9223372036854775807) (hk : b.natAbs < k) : impl_gcd.f k a b = some (Int.gcd a b : Int) :=
 impl_gcd_l0 b.natAbs a b (Nat.le_refl _) ha hb k hk
theorem impl_isFraction_f (a b : Int) {k : Nat} (hk : 1000001 ≤ k) : impl_isFraction.f k a b = some (decide (Frac a b)) := by
 unfold impl_isFraction.f
 rw [impl_isPart_f]; simp only [Option.bind_some, decide_eq_true_eq]
 by_cases h1 : -1000000 ≤ a ∧ a ≤ 1000000
 ·rw [if_pos h1]
  by_cases h2 : b < 0
  ·rw [if_pos h2]; exact (dec_false (fun x => by have := x.2.1; omega)).symm
  ·rw [if_neg h2]
   by_cases h2' : b > 1000000
   ·rw [if_pos h2']; exact (dec_false (fun x => by have := x.2.1; omega)).symm
   ·rw [if_neg h2', impl_gcd_f (by omega) (by omega) (by omega)]; simp only [Option.bind_some]
    have hb : (((Int.gcd a b : Nat) : Int) == 1) = decide (Int.gcd a b = 1) := by
     rw [Bool.eq_iff_iff]; simp; omega
    rw [hb]
    by_cases h4 : b = 0
    ·rw [if_pos h4]
     by_cases h5 : a = 1
     ·rw [if_pos h5]; exact dec_iff ⟨fun h => ⟨h1, by omega, h, fun _ => h5⟩, fun h => h.2.2.1⟩
     ·rw [if_neg h5]; exact (dec_false (fun x => h5 (x.2.2.2 h4))).symm
    ·rw [if_neg h4]; exact dec_iff ⟨fun h => ⟨h1, by omega, h, fun h' => absurd h' h4⟩, fun h => h.2.2.1⟩
 ·rw [if_neg h1]; exact (dec_false (fun x => h1 x.1)).symm
theorem impl_isSmall_f (a b m : Int) {k : Nat} (hk : 1000001 ≤ k) (hm : 0 ≤ m) (hm' : m ≤ 1000000) : impl_isSmall.f k a b m = some (decide (Small a b m)) := by
 unfold impl_isSmall.f
 rw [impl_isFraction_f a b hk]; simp only [Option.bind_some, decide_eq_true_eq]
 by_cases h : Frac a b
 ·rw [if_pos h, wrap64_in (by omega) (by omega)]
  by_cases h1 : a ≥ -m
  ·rw [if_pos h1]
   by_cases h2 : a ≤ m
   ·rw [if_pos h2]; exact dec_iff ⟨fun x => ⟨h, ⟨h1, h2⟩, x⟩, fun x => x.2.2⟩
   ·rw [if_neg h2]; exact (dec_false (fun x => h2 x.2.1.2)).symm
  ·rw [if_neg h1]; exact (dec_false (fun x => h1 x.2.1.1)).symm
 ·rw [if_neg h]; exact (dec_false (fun x => h x.1)).symm
theorem impl_ceiling_f {a b : Int} (ha : -60 ≤ a ∧ a ≤ 60) (hb : 0 < b) : impl_ceiling.f a b = some (cl a b) := by
 unfold impl_ceiling.f
 have h1 := tdiv_abs a b ha
 have h2 := tdiv_mul_abs a b ha
 have h3 := ceil_value a hb
 rw [if_neg (by omega), wrap64_in (n := Int.tdiv a b) (by omega) (by omega), wrap64_in (n := Int.tdiv a b * b) (by omega) (by omega), wrap64_in (n := Int.tdiv a b + 1) (by omega) (by omega)]
 rw [← h3]; split <;> rfl
theorem impl_termsOf_l0 (n : Nat) : ∀ (out : List Int) (a b : Int), out.length + n ≤ 1000 → (-60 ≤ a ∧ a ≤ 60) → (0 < b ∧ b ≤ 60) → b ≤ n → ∀ k, n < k → impl_termsOf.l0 k out a b = some (out ++ termsL n a b) := by
 induction n with
 | zero => intro out a b _ _ hb hn k hk; omega
 | succ n ih =>
  intro out a b ho ha hb hn k hk
  obtain ⟨k, rfl⟩ : ∃ m, k = m + 1 := ⟨k - 1, by omega⟩
  simp only [impl_termsOf.l0, termsL]
  have h1 := cl_bd a hb.1
  rw [if_neg (by omega), impl_ceiling_f ha hb.1]; simp only [Option.bind_some]
  rw [if_pos (by omega), wrap64_in (n := cl a b * b) (by omega) (by omega), wrap64_in (by omega) (by omega)]
  by_cases h : cl a b * b - a = 0
  ·rw [if_pos h, h, termsL_zero]
  ·rw [if_neg h, ih (out ++ [cl a b]) b (cl a b * b - a) (by simp; omega) (by omega) (by omega) (by omega) k (by omega)]
   simp
theorem impl_TermsOf_f (a b : Int) {k : Nat} (hk : 1000001 ≤ k) : impl_TermsOf.f k a b = some (termsv a b) := by
 unfold impl_TermsOf.f termsv impl_termsOf.f
 rw [impl_isSmall_f a b 60 hk (by omega) (by omega)]; simp only [Option.bind_some, decide_eq_true_eq]
 by_cases h : Small a b 60
 ·have h2 := h.1.2.1
  have h3 := h.2
  rw [if_pos h]
  by_cases h0 : b = 0
  ·rw [if_pos h0, if_neg (fun x => x.2 h0)]
  ·rw [if_neg h0, if_pos ⟨h, h0⟩, impl_termsOf_l0 60 [] a b (by simp) h3.1 (by omega) (by omega) k (by omega)]; rfl
 ·rw [if_neg h, if_neg (fun x => h x.1)]
theorem impl_EndsFor_f {a b : Int} (h : Frac a b) {k : Nat} (hk : 1000001 ≤ k) : impl_EndsFor.f k a b = some (endsv a b) := by
 unfold impl_EndsFor.f impl_kindOf.f endsv
 rw [impl_isFraction_f _ _ hk]; simp only [Option.bind_some, decide_eq_true_eq]
 rw [if_pos h]
 by_cases h1 : Int.tmod a 2 = 0
 ·rw [if_pos h1, if_pos h1]; rfl
 ·rw [if_neg h1, if_neg h1]
  by_cases h2 : Int.tmod b 2 = 0
  ·rw [if_pos h2, if_pos h2]; rfl
  ·rw [if_neg h2, if_neg h2]; rfl
theorem impl_RingsOf_f {a b : Int} (h : Frac a b) {k : Nat} (hk : 1000001 ≤ k) : impl_RingsOf.f k a b = some (ringsv a) := by
 unfold impl_RingsOf.f impl_kindOf.f ringsv
 rw [impl_isFraction_f _ _ hk]; simp only [Option.bind_some, decide_eq_true_eq]
 rw [if_pos h]
 by_cases h1 : Int.tmod a 2 = 0
 ·rw [if_pos h1, if_pos h1]; rfl
 ·rw [if_neg h1, if_neg h1]
  by_cases h2 : Int.tmod b 2 = 0
  ·rw [if_pos h2]; rfl
  ·rw [if_neg h2]; rfl
theorem impl_listText_l0 (l : List Int) (hl : l.length ≤ 100) (hb : ∀ x ∈ l, -60 ≤ x ∧ x ≤ 60) (n : Nat) : ∀ i : Nat, i + n = l.length → ∀ k, n < k → impl_listText.l0 k ((l.take i).map fun x => ba (Go.Lib.itoa x)) l (l.length : Int) (i : Int) = some (ba (rowT l)) := by
 induction n with
 | zero =>
  intro i hi k hk
  obtain ⟨k, rfl⟩ : ∃ m, k = m + 1 := ⟨k - 1, by omega⟩
  simp only [impl_listText.l0]
  have hr := rowT_len l.length l rfl hb
  have e : (l.map fun x => ba (Go.Lib.itoa x)).map (fun s => s.data.toList) = l.map Go.Lib.itoa := by
   rw [List.map_map]; rfl
  rw [if_neg (by omega), List.take_of_length_le (by omega)]
  unfold strings_Join.f
  rw [e, List.length_map]
  have e2 : Go.Lib.join (l.map Go.Lib.itoa) (⟨#[44]⟩ : ByteArray).data.toList = rowT l := rfl
  rw [e2, if_pos ⟨by omega, by omega⟩]; rfl
 | succ n ih =>
  intro i hi k hk
  obtain ⟨k, rfl⟩ : ∃ m, k = m + 1 := ⟨k - 1, by omega⟩
  have hil : i < l.length := by omega
  simp only [impl_listText.l0]
  have hd := drop_rd l i hil
  have hr : rd l (i : Int) = l[i] := by
   have e := List.drop_eq_getElem_cons hil
   rw [e] at hd; injection hd with h1 _; exact h1.symm
  have hx := hb l[i] (List.getElem_mem hil)
  rw [if_pos (by omega), if_pos (by omega), if_pos (by omega), hr, strconv_Itoa_f (by omega)]; simp only [Option.bind_some]
  rw [if_pos (by simp; omega), wrap64_in (by omega) (by omega)]
  have := ih (i + 1) (by omega) k (by omega)
  rw [List.take_succ_eq_append_getElem hil, List.map_append] at this
  exact this
theorem impl_listText_f (l : List Int) (hl : l.length ≤ 100) (hb : ∀ x ∈ l, -60 ≤ x ∧ x ≤ 60) {k : Nat} (hk : 200 ≤ k) : impl_listText.f k l = some (ba (rowT l)) := by
 unfold impl_listText.f
 exact impl_listText_l0 l hl hb l.length 0 (Nat.zero_add _) k (by omega)
theorem impl_fractionText_f {a b : Int} (h : Frac a b) : impl_fractionText.f a b = some (ba (fracT a b)) := by
 have hb := frac_bd h
 have h1 := itoa_length hb.1
 have h2 := itoa_length hb.2
 unfold impl_fractionText.f fracT
 rw [strconv_Itoa_f (by omega), strconv_Itoa_f (by omega)]; simp only [Option.bind_some]
 by_cases h3 : b = 1
 ·rw [if_pos h3, if_pos h3]
 ·rw [if_neg h3, if_neg h3]
  rw [ba_size, if_pos (by omega)]
  have e : ba (Go.Lib.itoa a) ++ (⟨#[47]⟩ : ByteArray) = ba (Go.Lib.itoa a ++ [47]) := ba_append _ [47]
  rw [e, ba_size, ba_size, if_pos (by simp; omega), ba_append]
  simp
theorem impl_ReadFraction_j0 (s : ByteArray) {k : Nat} (hk : 1000002 ≤ k) (a : Int) (e : Option Int) (b : Int) : impl_ReadFraction.j0 k s a e b = some (if e.isNone = true ∧ Frac a b ∧ fracT a b = s.data.toList then (a, b, true) else (0, 0, false)) := by
 obtain ⟨k, rfl⟩ : ∃ m, k = m + 1 := ⟨k - 1, by omega⟩
 simp only [impl_ReadFraction.j0]
 by_cases h : e.isNone = true
 ·rw [if_pos h, impl_isFraction_f _ _ (by omega)]; simp only [Option.bind_some, decide_eq_true_eq]
  by_cases hf : Frac a b
  ·rw [if_pos hf, impl_fractionText_f hf]; simp only [Option.bind_some]
   rw [ba_toList, ByteArray.toList_eq]
   by_cases he : fracT a b = s.data.toList
   ·rw [if_pos he, if_pos ⟨h, hf, he⟩]
   ·rw [if_neg he, if_neg (fun x => he x.2.2)]
  ·rw [if_neg hf, if_neg (fun x => hf x.2.1)]
 ·rw [if_neg h, if_neg (fun x => h x.1)]
theorem strings_Cut_f (s : ByteArray) (c : UInt8) (hs : s.size ≤ 100000000) : strings_Cut.f s ⟨#[c]⟩ = some (ba (Go.Lib.cut s.data.toList [c]).1, ba (Go.Lib.cut s.data.toList [c]).2.1, (Go.Lib.cut s.data.toList [c]).2.2) := by
 unfold strings_Cut.f
 rw [if_pos (by omega)]; rfl
theorem impl_ReadFraction_f (s : ByteArray) {k : Nat} (hs : s.size ≤ 100000000) (hk : 1000002 ≤ k) : impl_ReadFraction.f k s = some (readL s.data.toList) := by
 have hl : s.data.toList.length = s.size := rfl
 unfold impl_ReadFraction.f
 rw [strings_Cut_f s 47 hs]; simp only [Option.bind_some]
 rcases readL_iff s.data.toList with ⟨a, b, hf, ht, hr⟩ | ⟨hno, hr⟩
 ·rw [hr]
  have hb := frac_bd hf
  by_cases h1 : b = 1
  ·have e : s.data.toList = Go.Lib.itoa a := by rw [← ht]; unfold fracT; rw [if_pos h1]
   rw [e, cut_none (itoa_no47 a)]; simp only
   rw [strconv_Atoi_itoa hb.1]; simp only [Option.bind_some]
   rw [if_neg (by decide), impl_ReadFraction_j0 s hk, if_pos ⟨rfl, by rw [← h1]; exact hf, by rw [← ht, h1]⟩, h1]
  ·have e : s.data.toList = Go.Lib.itoa a ++ 47 :: Go.Lib.itoa b := by rw [← ht]; unfold fracT; rw [if_neg h1]
   rw [e, cut_one _ (itoa_no47 a)]; simp only
   rw [strconv_Atoi_itoa hb.1, strconv_Atoi_itoa hb.2]; simp only [Option.bind_some]
   rw [if_pos trivial, if_pos (by rfl), impl_ReadFraction_j0 s hk, if_pos ⟨rfl, hf, ht⟩]
 ·rw [hr]
  have J : ∀ a e b, impl_ReadFraction.j0 k s a e b = some (0, 0, false) := by
   intro a e b
   rw [impl_ReadFraction_j0 s hk, if_neg (fun x => hno a b x.2.1 x.2.2)]
  have L : ∀ w : List UInt8, w.length ≤ s.data.toList.length → ∃ v e, strconv_Atoi.f (ba w) = some (v, e) := fun w hw => strconv_Atoi_some (ba w) (by rw [ba_size]; omega)
  rcases cut_cases 47 s.data.toList with h | ⟨x, y, e, h⟩
  ·rw [cut_none h]; simp only
   obtain ⟨v, er, h1⟩ := L s.data.toList (Nat.le_refl _)
   rw [h1]; simp only [Option.bind_some]
   rw [if_neg (by decide), J]
  ·obtain ⟨v, er, h1⟩ := L x (by rw [e]; simp)
   obtain ⟨v', er', h2⟩ := L y (by rw [e]; simp; omega)
   rw [e, cut_one _ h]; simp only
   rw [h1, h2]; simp only [Option.bind_some]
   rw [if_pos trivial]
   split
   ·rw [J]
   ·rfl
theorem all_of_dropWhile {α : Type} (p : α → Bool) : ∀ l : List α, (∀ x ∈ l.dropWhile p, p x = true) → ∀ x ∈ l, p x = true
 | [], _ => fun x hx => by simp at hx
 | a :: l, h => by
  intro x hx
  by_cases ha : p a = true
  ·rw [List.dropWhile_cons_of_pos ha] at h
   rcases List.mem_cons.1 hx with rfl | hx
   ·exact ha
   ·exact all_of_dropWhile p l h x hx
  ·rw [List.dropWhile_cons_of_neg ha] at h
   exact h x hx
theorem dropWhile_nil_of_all {α : Type} (p : α → Bool) : ∀ l : List α, (∀ x ∈ l, p x = true) → l.dropWhile p = []
 | [], _ => rfl
 | a :: l, h => by
  rw [List.dropWhile_cons_of_pos (h a (by simp))]
  exact dropWhile_nil_of_all p l fun x hx => h x (by simp [hx])
theorem all_of_dropWhile_nil {α : Type} (p : α → Bool) : ∀ l : List α, l.dropWhile p = [] → ∀ x ∈ l, p x = true :=
 fun l h => all_of_dropWhile p l (by rw [h]; simp)
theorem trimS_nil (l cs : List UInt8) : Go.Lib.trimS l cs = [] ↔ ∀ c ∈ l, c ∈ cs := by
 unfold Go.Lib.trimS Go.Lib.trimLeftS Go.Lib.trimRightS
 constructor
 ·intro h
  have h1 := all_of_dropWhile_nil _ _ h
  have h2 := all_of_dropWhile (cs.contains ·) l.reverse (fun x hx => h1 x (by simpa using hx))
  intro c hc
  simpa using h2 c (by simpa using hc)
 ·intro h
  rw [dropWhile_nil_of_all (cs.contains ·) l.reverse (fun x hx => by simpa using h x (by simpa using hx))]
  rfl
theorem strings_Trim_f {s : ByteArray} {cs : List UInt8} (hs : s.size ≤ 100000000) (hl : cs.length < 4294967281) (ha : cs.all (fun b => decide (b.toNat < 128)) = true) :
  strings_Trim.f s ⟨⟨cs⟩⟩ = some ⟨⟨Go.Lib.trimS s.data.toList cs⟩⟩ := by
 unfold strings_Trim.f
 rw [if_pos ⟨by omega, by simpa [ByteArray.size] using hl, ha⟩]
theorem impl_areMoves_f (s : ByteArray) (hs : s.size ≤ 100000000) : impl_areMoves.f s = some (decide (AllM s.data.toList)) := by
 unfold impl_areMoves.f
 rw [strings_Trim_f hs (by decide) (by decide)]; simp only [Option.bind_some]
 have e : AllM s.data.toList ↔ Go.Lib.trimS s.data.toList [84, 116, 82] = [] := by
  rw [trimS_nil]; unfold AllM MoveP; simp
 by_cases h : AllM s.data.toList
 ·rw [decide_eq_true h, e.1 h, ByteArray.toList_eq]; rfl
 ·rw [decide_eq_false h]
  have h' : Go.Lib.trimS s.data.toList [84, 116, 82] ≠ [] := fun x => h (e.2 x)
  cases h2 : Go.Lib.trimS s.data.toList [84, 116, 82] with
  | nil => exact absurd h2 h'
  | cons a l => rw [ByteArray.toList_eq]; rfl
theorem impl_isDance_f (s : ByteArray) (hs : s.size ≤ 100000000) : impl_isDance.f s = some (decide (DanceP s)) := by
 unfold impl_isDance.f
 rw [impl_areMoves_f s hs]; simp only [Option.bind_some]
 have e : s.data.toList.length = s.size := rfl
 by_cases h : (s.size : Int) ≤ 40
 ·rw [if_pos h]; exact dec_iff ⟨fun x => ⟨by omega, x⟩, fun x => x.2⟩
 ·rw [if_neg h]; exact (dec_false (fun x => by have := x.1; omega)).symm
theorem impl_j1 (rd : Bool) (kind : Int) (t : ByteArray) {k : Nat} (hk : 1 ≤ k) (ht : t.size ≤ 100000000) (h0 : ¬ (kind = 0 ∧ DanceL t.data.toList)) (hr : rd = decide (kind = 1 ∧ (readL t.data.toList).2.2 = true)) : impl_deedText.j1 k rd kind t = some (ba (deedT kind t.data.toList)) := by
 obtain ⟨k, rfl⟩ : ∃ m, k = m + 1 := ⟨k - 1, by omega⟩
 simp only [impl_deedText.j1]
 unfold deedT
 rw [if_neg h0, toListE, hr]
 by_cases h1 : kind = 1 ∧ (readL t.data.toList).2.2 = true
 ·rw [decide_eq_true h1, if_pos rfl, if_pos h1, if_pos (by omega)]
  exact congrArg some (ba_append [116, 97, 107, 101, 32] t.data.toList)
 ·rw [decide_eq_false h1, if_neg (by decide), if_neg h1]
  by_cases h2 : kind = 2 ∧ t.data.toList = []
  ·rw [if_pos (by simp [h2.1, h2.2]), if_pos h2]; rfl
  ·rw [if_neg (by simpa using h2), if_neg h2]
   by_cases h3 : kind = 3 ∧ t.data.toList = []
   ·rw [if_pos (by simp [h3.1, h3.2]), if_pos h3]; rfl
   ·rw [if_neg (by simpa using h3), if_neg h3]
    by_cases h4 : kind = 4 ∧ t.data.toList = []
    ·rw [if_pos (by simp [h4.1, h4.2]), if_pos h4]; rfl
    ·rw [if_neg (by simpa using h4), if_neg h4]; rfl
theorem impl_DeedTextv (kind : Int) (t : ByteArray) {k : Nat} (ht : t.size ≤ 100000000) (hk : 300000010 ≤ k) : impl_deedText.f k kind t = some (ba (deedT kind t.data.toList)) := by
 obtain ⟨k, rfl⟩ : ∃ m, k = m + 1 := ⟨k - 1, by omega⟩
 unfold impl_deedText.f
 rw [impl_ReadFraction_f t ht (by omega)]; simp only [Option.bind_some]
 by_cases h0 : kind = 0
 ·rw [if_pos h0, impl_isDance_f t (by omega)]; simp only [Option.bind_some, impl_deedText.j0]
  by_cases hd : DanceP t
  ·rw [decide_eq_true hd, if_pos rfl, if_pos (by omega)]
   unfold deedT
   rw [if_pos ⟨h0, hd⟩]
   exact congrArg some (ba_append [100, 97, 110, 99, 101, 32] t.data.toList)
  ·rw [decide_eq_false hd, if_neg (by decide), if_neg (by omega)]
   exact impl_j1 _ _ _ (by omega) ht (fun x => hd x.2) (by rw [h0]; rfl)
 ·rw [if_neg h0]; simp only [impl_deedText.j0]
  rw [if_neg (by decide)]
  by_cases h1 : kind = 1
  ·rw [if_pos h1]
   refine impl_j1 _ _ _ (by omega) ht (fun x => h0 x.1) ?_
   rw [h1]; simp
  ·rw [if_neg h1]
   exact impl_j1 _ _ _ (by omega) ht (fun x => h0 x.1) (by simp [h1])
def kindW (w : List UInt8) : Int := if w = [100, 97, 110, 99, 101] then 0 else if w = [116, 97, 107, 101] then 1 else if w = [109, 105, 114, 114, 111, 114] then 2 else if w = [117, 110, 116, 105, 101] then 3 else if w = [98, 97, 99, 107] then 4 else -1
theorem index5 (x : ByteArray) {k : Nat} (hk : 10 ≤ k) : slices_Index_string_string.f k [(⟨#[100, 97, 110, 99, 101]⟩ : ByteArray), (⟨#[116, 97, 107, 101]⟩ : ByteArray), (⟨#[109, 105, 114, 114, 111, 114]⟩ : ByteArray), (⟨#[117, 110, 116, 105, 101]⟩ : ByteArray), (⟨#[98, 97, 99, 107]⟩ : ByteArray)] x
  = some (kindW x.data.toList) := by
 obtain ⟨k, rfl⟩ : ∃ m, k = m + 6 := ⟨k - 6, by omega⟩
 have w : ∀ i : Int, 0 ≤ i → i ≤ 10 → wrap64 (i + 1) = i + 1 := fun i h0 h1 => wrap64_in (by omega) (by omega)
 unfold slices_Index_string_string.f kindW
 simp only [slices_Index_string_string.l0, List.length_cons, List.length_nil, ByteArray.toList_eq]
 rw [w 0 (by omega) (by omega)]
 rw [w (0 + 1) (by omega) (by omega)]
 rw [w (0 + 1 + 1) (by omega) (by omega)]
 rw [w (0 + 1 + 1 + 1) (by omega) (by omega)]
 rw [w (0 + 1 + 1 + 1 + 1) (by omega) (by omega)]
 by_cases h0 : x.data.toList = [100, 97, 110, 99, 101]
 ·simp [h0, rdOf]
 ·by_cases h1 : x.data.toList = [116, 97, 107, 101]
  ·simp [h1, rdOf]
  ·by_cases h2 : x.data.toList = [109, 105, 114, 114, 111, 114]
   ·simp [h2, rdOf]
   ·by_cases h3 : x.data.toList = [117, 110, 116, 105, 101]
    ·simp [h3, rdOf]
    ·by_cases h4 : x.data.toList = [98, 97, 99, 107]
     ·simp [h4, rdOf]
     ·simp [h0, h1, h2, h3, h4, rdOf]
theorem impl_readDeed_f (s : ByteArray) {k : Nat} (hs : s.size ≤ 100000000) (hk : 300000010 ≤ k) : impl_readDeed.f k s = some ((rdv s.data.toList).1, ba (rdv s.data.toList).2.1, (rdv s.data.toList).2.2) := by
 have hl : s.data.toList.length = s.size := rfl
 unfold impl_readDeed.f
 rw [strings_Cut_f s 32 hs]; simp only [Option.bind_some]
 rw [index5 _ (by omega)]; simp only [Option.bind_some]
 rw [ByteArray.toList_eq, ba_list]
 by_cases h0 : s.data.toList = []
 ·rw [if_pos h0, h0]; rfl
 ·rw [if_neg h0]
  generalize hw : Go.Lib.cut s.data.toList [32] = c
  generalize hkd : kindW c.1 = kd
  have hc2 : c.2.1.length ≤ s.data.toList.length := by
   rw [← hw]; unfold Go.Lib.cut; split
   ·simp
   ·simp
  rw [impl_DeedTextv _ _ (by rw [ba_size]; omega) (by omega)]; simp only [Option.bind_some]
  rw [ba_toList, ba_list]
  rcases rdv_cases s.data.toList with ⟨k', t, hne, hd, hr⟩ | ⟨hno, hr⟩
  ·rw [hr]
   have e : kd = k' ∧ c.2.1 = t := by
    rcases deed_parts hd hne with ⟨rfl, hs', hx⟩ | ⟨rfl, hs', hx⟩ | ⟨rfl, rfl, hs'⟩ | ⟨rfl, rfl, hs'⟩ | ⟨rfl, rfl, hs'⟩
    ·rw [hs', cut_one t (by decide)] at hw; subst hw; exact ⟨by rw [← hkd]; rfl, rfl⟩
    ·rw [hs', cut_one t (by decide)] at hw; subst hw; exact ⟨by rw [← hkd]; rfl, rfl⟩
    ·rw [hs', cut_none (by decide)] at hw; subst hw; exact ⟨by rw [← hkd]; rfl, rfl⟩
    ·rw [hs', cut_none (by decide)] at hw; subst hw; exact ⟨by rw [← hkd]; rfl, rfl⟩
    ·rw [hs', cut_none (by decide)] at hw; subst hw; exact ⟨by rw [← hkd]; rfl, rfl⟩
   rw [e.1, e.2, if_pos hd]
  ·rw [hr, if_neg (fun x => h0 (hno _ _ x))]; rfl
theorem impl_plus_f {a b n : Int} {k : Nat} (hk : 1000001 ≤ k) (h : Frac a b) (hn : -1000000 ≤ n ∧ n ≤ 1000000) : impl_plus.f k a b n = some (plusv a b n) := by
 unfold impl_plus.f
 rw [plus_wrap h hn, impl_isFraction_f _ _ hk]; simp only [Option.bind_some, decide_eq_true_eq]
 unfold plusv; split <;> rfl
theorem impl_lowest_f {a b : Int} {k : Nat} (h : ¬ (a = 0 ∧ b = 0)) (ha : a.natAbs ≤ 1000000) (hb : b.natAbs ≤ 1000000) (hk : 1000001 ≤ k) : impl_lowest.f k a b = some (lowv a b) := by
 unfold impl_lowest.f
 rw [impl_gcd_f (by omega) (by omega) (by omega)]; simp only [Option.bind_some]
 have hg := gcd_ne h
 have hl := gcd_le_abs h
 rw [wrap64_in (n := -((Int.gcd a b : Nat) : Int)) (by omega) (by omega)]
 unfold lowv
 by_cases h1 : b < 0
 ·rw [if_pos h1, if_neg (by omega), if_pos (.inl h1), tdiv_wrap (by omega), tdiv_wrap (by omega)]
 ·rw [if_neg h1]
  by_cases h2 : b = 0
  ·rw [if_pos h2]
   by_cases h3 : a < 0
   ·rw [if_pos h3, if_neg (by omega), if_pos (.inr ⟨h2, h3⟩), tdiv_wrap (by omega), tdiv_wrap (by omega)]
   ·rw [if_neg h3, if_neg (by omega), if_neg (by omega), tdiv_wrap (by omega), tdiv_wrap (by omega)]
  ·rw [if_neg h2, if_neg (by omega), if_neg (by omega), tdiv_wrap (by omega), tdiv_wrap (by omega)]
theorem plus_one {a b : Int} : plusv a b 1 = dansw (if Frac (a + b) b then some (a + b, b) else none) := by
 unfold plusv; rw [Int.one_mul]; split <;> rfl
theorem plus_less {a b : Int} : plusv a b (-1) = dansw (if Frac (a - b) b then some (a - b, b) else none) := by
 unfold plusv; rw [show a + -1 * b = a - b by omega]; split <;> rfl
theorem impl_danced_l0 (s : ByteArray) (hs : s.size ≤ 40) (n : Nat) : ∀ (i : Nat) (f : Int × Int), i + n = s.size → Frac f.1 f.2 → ∀ k, n + 1000002 ≤ k →
  impl_danced.l0 k s (s.size : Int) (i : Int) f.1 f.2 = some (dansw (dafter (s.data.toList.drop i) f)) := by
 induction n with
 | zero =>
  intro i f hi hf k hk
  obtain ⟨k, rfl⟩ : ∃ m, k = m + 1 := ⟨k - 1, by omega⟩
  simp only [impl_danced.l0]
  rw [if_neg (by omega), drop_end (by omega)]; rfl
 | succ n ih =>
  intro i f hi hf k hk
  obtain ⟨k, rfl⟩ : ∃ m, k = m + 1 := ⟨k - 1, by omega⟩
  obtain ⟨m, hd, hb⟩ := bt_drop (s := s) (i := i) (by omega)
  have e1 : (((m.toNat : Nat) : Int) = 84) ↔ m = 84 := u8_eq (n := 84) (by omega)
  have e2 : (((m.toNat : Nat) : Int) = 116) ↔ m = 116 := u8_eq (n := 116) (by omega)
  obtain ⟨a, b⟩ := f
  have IH := fun g hg => ih (i + 1) g (by omega) hg k (by omega)
  simp only at hf
  simp only [impl_danced.l0]
  rw [if_pos (by omega), if_pos (by omega), if_pos (by omega), hb, hd, wrap64_in (n := (i : Int) + 1) (by omega) (by omega), show ((i : Int) + 1) = ((i + 1 : Nat) : Int) by omega]
  simp only [dafter]
  unfold dmove
  simp only
  by_cases h1 : m = 84
  ·rw [if_pos (e1.2 h1), if_pos h1, impl_plus_f (by omega) hf (by omega), plus_one]; simp only [Option.bind_some]
   by_cases hp : Frac (a + b) b
   ·rw [if_pos hp]; simp only [dansw, Option.bind_some]
    exact IH (a + b, b) hp
   ·rw [if_neg hp]; rfl
  ·rw [if_neg (fun x => h1 (e1.1 x)), if_neg h1]
   by_cases h2 : m = 116
   ·rw [if_pos (e2.2 h2), if_pos h2, impl_plus_f (by omega) hf (by omega), plus_less]; simp only [Option.bind_some]
    by_cases hp : Frac (a - b) b
    ·rw [if_pos hp]; simp only [dansw, Option.bind_some]
     exact IH (a - b, b) hp
    ·rw [if_neg hp]; rfl
   ·have g1 := hf.1
    have g2 := hf.2.1
    have g4 := hf.2.2.2
    rw [if_neg (fun x => h2 (e2.1 x)), if_neg h2, wrap64_in (n := -b) (by omega) (by omega), impl_lowest_f (by omega) (by omega) (by omega) (by omega), over_low hf]; simp only [Option.bind_some]
    exact IH (overv a b) (over_frac hf)
theorem impl_danced_f (s : ByteArray) (hs : s.size ≤ 40) {a b : Int} (hf : Frac a b) {k : Nat} (hk : 1000100 ≤ k) : impl_danced.f k a b s = some (dansw (dafter s.data.toList (a, b))) := by
 unfold impl_danced.f
 have := impl_danced_l0 s hs s.size 0 (a, b) (by omega) hf k (by omega)
 rw [List.drop_zero] at this
 exact this
theorem impl_mirrored_f {a b : Int} (h : Frac a b) : impl_mirrored.f a b = some (mirv a b) := by
 unfold impl_mirrored.f mirv
 have h1 := h.1
 split
 ·rw [wrap64_in (by omega) (by omega)]
 ·rfl
theorem impl_DancedFrom_f (a b : Int) (t : ByteArray) {k : Nat} (ht : t.size ≤ 100000000) (hk : 1000100 ≤ k) : impl_DancedFrom.f k a b t = some (dancedfv a b t.data.toList) := by
 unfold impl_DancedFrom.f dancedfv
 rw [impl_isFraction_f _ _ (by omega)]; simp only [Option.bind_some, decide_eq_true_eq]
 by_cases h : Frac a b
 ·rw [if_pos h, impl_isDance_f t ht]; simp only [Option.bind_some, decide_eq_true_eq]
  by_cases h2 : DanceP t
  ·have h3 : DanceL t.data.toList := h2
   rw [if_pos h2, if_pos ⟨h3, h⟩, impl_danced_f t h2.1 h hk]; rfl
  ·rw [if_neg h2, if_neg (fun x => h2 x.1)]
 ·rw [if_neg h, if_neg (fun x => h x.2)]
theorem small_untv (a b : Int) : decide (Small a b 12) = (untv a b).2 := by
 unfold untv
 by_cases h : SmallU a b
 ·rw [if_pos h]; exact decide_eq_true (show Small a b 12 from ⟨h.1, h.2.1, h.2.2⟩)
 ·rw [if_neg h]; exact decide_eq_false (fun x : Small a b 12 => h ⟨x.1, x.2.1, x.2.2⟩)
theorem impl_nextFraction_f (a b kind : Int) (t : ByteArray) {k : Nat} (hf : Frac a b) (ht : t.size ≤ 100000000) (hk : 1000200 ≤ k) :
  ∃ v : Int × Int × Bool, impl_nextFraction.f k a b kind t = some v ∧ v.2.2 = (madev a b kind t.data.toList).2.2 ∧ (v.2.2 = true → v = madev a b kind t.data.toList) := by
 obtain ⟨k, rfl⟩ : ∃ m, k = m + 1 := ⟨k - 1, by omega⟩
 unfold impl_nextFraction.f madev
 rw [toListE]
 by_cases h0 : kind = 0
 ·rw [if_pos h0, if_pos h0, impl_DancedFrom_f _ _ _ ht (by omega)]
  exact ⟨_, rfl, rfl, fun _ => rfl⟩
 ·rw [if_neg h0, if_neg h0]
  by_cases h1 : kind = 1
  ·rw [if_pos h1, if_pos h1, impl_ReadFraction_f _ ht (by omega)]
   exact ⟨_, rfl, rfl, fun _ => rfl⟩
  ·rw [if_neg h1, if_neg h1]
   have j : ∀ z : Bool, impl_nextFraction.j0 (k + 1) z a b kind t = if z = true then some ((mirv a b).1, (mirv a b).2, true) else (if kind = 3 then (if t.toList = ([] : List UInt8) then some (0, 1, decide (Small a b 12)) else some (0, 0, false)) else some (0, 0, false)) := by
    intro z
    simp only [impl_nextFraction.j0]
    rw [impl_mirrored_f hf, impl_isSmall_f a b 12 (by omega) (by omega) (by omega)]; rfl
   by_cases h2 : kind = 2
   ·rw [if_pos h2, j]
    by_cases h3 : t.data.toList = []
    ·rw [if_pos (by simpa using h3), if_pos ⟨h2, h3⟩]
     exact ⟨_, rfl, rfl, fun _ => rfl⟩
    ·rw [if_neg (by simpa using h3), if_neg (show ¬ (kind = 2 ∧ t.data.toList = []) from fun x => h3 x.2), if_neg (show ¬ kind = 3 by omega), if_neg (show ¬ (kind = 3 ∧ t.data.toList = []) from fun x => h3 x.2)]
     exact ⟨_, rfl, rfl, fun x => by cases x⟩
   ·rw [if_neg h2, j, if_neg (by decide), if_neg (show ¬ (kind = 2 ∧ t.data.toList = []) from fun x => h2 x.1)]
    by_cases h3 : kind = 3
    ·rw [if_pos h3]
     by_cases h4 : t.data.toList = []
     ·rw [if_pos (show t.toList = [] by rw [ByteArray.toList_eq]; exact h4), if_pos ⟨h3, h4⟩, small_untv]
      exact ⟨_, rfl, rfl, fun _ => rfl⟩
     ·rw [if_neg (show ¬ t.toList = [] by rw [ByteArray.toList_eq]; exact h4), if_neg (show ¬ (kind = 3 ∧ t.data.toList = []) from fun x => h4 x.2)]
      exact ⟨_, rfl, rfl, fun x => by cases x⟩
    ·rw [if_neg h3, if_neg (show ¬ (kind = 3 ∧ t.data.toList = []) from fun x => h3 x.1)]
     exact ⟨_, rfl, rfl, fun x => by cases x⟩
theorem impl_copyDesk_f (a b : Int) (l : List S31) (hl : l.length ≤ 100000000) : impl_copyDesk.f a b l = some (a, b, l) := by
 unfold impl_copyDesk.f
 simp only [Option.bind_some, List.nil_append]
 rw [if_pos (by simp; omega)]
theorem impl_deskDo_f (a b : Int) (l : List S31) (kind : Int) (t : ByteArray) {k : Nat} (hf : Frac a b) (hl : l.length ≤ 10000000) (ht : t.size ≤ 100000000) (hk : 1000300 ≤ k) :
  impl_deskDo.f k a b l kind t = some (dov a b l kind t.data.toList) := by
 obtain ⟨k, rfl⟩ : ∃ m, k = m + 1 := ⟨k - 1, by omega⟩
 unfold impl_deskDo.f dov
 rw [impl_copyDesk_f a b l (by omega)]; simp only [Option.bind_some]
 rw [toListE]
 obtain ⟨v, hv, hv2, hv3⟩ := impl_nextFraction_f a b kind t (k := k + 1) hf ht (by omega)
 by_cases h4 : kind = 4 ∧ t.data.toList = []
 ·rw [if_pos (by simp [h4.1, h4.2])]
  by_cases h5 : l = []
  ·subst h5
   have e0 : wrap64 ((([] : List S31).length : Int) - 1) = -1 := by rw [wrap64_in (by simp) (by simp)]; simp
   rw [e0, if_pos (show (-1 : Int) < 0 by decide), if_neg (show ¬ (kind = 4 ∧ t.data.toList = [] ∧ ([] : List S31) ≠ []) from fun x => x.2.2 rfl)]
   have e : (madev a b kind t.data.toList).2.2 = false := by
    unfold madev
    rw [if_neg (by omega), if_neg (by omega), if_neg (by omega), if_neg (by omega)]
   rw [if_neg (fun x => by rw [e] at x; exact absurd x.1 (by decide))]
  ·have hl0 : 0 < l.length := List.length_pos_iff.2 h5
   rw [wrap64_in (by omega) (by omega), if_neg (by omega), if_pos (by omega), if_pos (by omega), if_pos (by omega), if_pos ⟨h4.1, h4.2, h5⟩, impl_copyDesk_f _ _ _ (by rw [List.length_take]; omega), show (l.length : Int) - 1 = ((l.length - 1 : Nat) : Int) by omega]; rfl
 ·rw [if_neg (by simpa using h4), if_neg (fun x => h4 ⟨x.1, x.2.1⟩), hv]; simp only [Option.bind_some, impl_deskDo.j0]
  by_cases h5 : v.2.2 = true
  ·have e := hv3 h5
   rw [if_pos h5, ← e]
   by_cases h6 : v.1 = a ∧ v.2.1 = b
   ·rw [if_pos (by simp [h6.1, h6.2]), if_neg (show ¬ (v.2.2 = true ∧ ¬ (v.1 = a ∧ v.2.1 = b)) from fun x => x.2 h6)]
   ·rw [if_neg (by simpa using h6), if_pos (by omega), if_pos (show v.2.2 = true ∧ ¬ (v.1 = a ∧ v.2.1 = b) from ⟨h5, h6⟩)]
    have e1 : (l ++ [(⟨a, b⟩ : S31)]).length = l.length + 1 := by simp
    unfold pastv
    rw [e1]
    by_cases h9 : l.length + 1 > 8
    ·rw [if_pos (show ((l.length + 1 : Nat) : Int) > 8 by omega), if_pos (show 1 ≤ ((l.length + 1 : Nat) : Int) by omega), if_pos h9, impl_copyDesk_f _ _ _ (by rw [List.length_drop, e1]; omega)]; rfl
    ·rw [if_neg (show ¬ ((l.length + 1 : Nat) : Int) > 8 by omega), if_neg h9, impl_copyDesk_f _ _ _ (by rw [e1]; omega)]; rfl
  ·rw [if_neg h5, if_pos trivial, if_neg (fun x => h5 (hv2.trans x.1))]
theorem impl_quotients_l0 (n : Nat) : ∀ (acc : List Int) (a b : Nat), b ≤ n → acc.length + b < 17592186044416 → a ≤ 9223372036854775807 → b ≤ 9223372036854775807 → ∀ k, n < k → impl_quotients.l0 k acc (a : Int) (b : Int) = some (acc ++ quoL a b) := by
 induction n with
 | zero =>
  intro acc a b hb hl ha _ k hk
  obtain ⟨k, rfl⟩ : ∃ m, k = m + 1 := ⟨k - 1, by omega⟩
  obtain rfl : b = 0 := by omega
  simp only [impl_quotients.l0]
  rw [if_neg (by omega), quoL_zero, List.append_nil]
 | succ n ih =>
  intro acc a b hb hl ha hb' k hk
  obtain ⟨k, rfl⟩ : ∃ m, k = m + 1 := ⟨k - 1, by omega⟩
  simp only [impl_quotients.l0]
  by_cases h : b = 0
  ·rw [if_neg (by omega), h, quoL_zero, List.append_nil]
  ·have h1 := Nat.mod_lt a (show b > 0 by omega)
   have h2 := Nat.div_le_self a b
   have h3 : (0 : Int) ≤ ((a / b : Nat) : Int) := Int.natCast_nonneg _
   rw [if_pos (by omega), if_neg (by omega), if_pos (by omega), tdiv_cast, tmod_cast2, wrap64_in (by omega) (by omega), ih _ b (a % b) (by omega) (by rw [List.length_append]; simp; omega) hb' (by omega) k (by omega), quoL_pos a h]
   simp
theorem impl_quotients_f {a b : Int} {k : Nat} (ha : a.natAbs ≤ 9223372036854775807) (hb : 0 ≤ b) (hb' : b ≤ 1000000) (hk : 1000001 ≤ k) : impl_quotients.f k a b = some (quoL a.natAbs b.natAbs) := by
 unfold impl_quotients.f
 rw [mx_abs (by omega) (by omega)]
 have e : b = ((b.natAbs : Nat) : Int) := by omega
 have := impl_quotients_l0 b.natAbs [] a.natAbs b.natAbs (Nat.le_refl _) (by simp; omega) ha (by omega) k (by omega)
 rw [← e] at this
 rw [this]; rfl
theorem impl_CrossingsOf_l0 (l : List Int) (hl : l.length ≤ 1000000) (hp : ∀ x ∈ l, 0 ≤ x) (n : Nat) : ∀ (s : Int) (i : Nat), i + n = l.length → 0 ≤ s → s + (l.drop i).sum ≤ 4611686018427387904 → ∀ k, n < k → impl_CrossingsOf.l0 k s l (l.length : Int) (i : Int) = some (s + (l.drop i).sum) := by
 induction n with
 | zero =>
  intro s i hi hs hb k hk
  obtain ⟨k, rfl⟩ : ∃ m, k = m + 1 := ⟨k - 1, by omega⟩
  simp only [impl_CrossingsOf.l0]
  rw [if_neg (by omega), List.drop_of_length_le (by omega)]; simp
 | succ n ih =>
  intro s i hi hs hb k hk
  obtain ⟨k, rfl⟩ : ∃ m, k = m + 1 := ⟨k - 1, by omega⟩
  simp only [impl_CrossingsOf.l0]
  have hd := drop_rd l i (by omega)
  have h0 := sum_nonneg (l.drop (i + 1)) (fun x hx => hp x (List.mem_of_mem_drop hx))
  have h1 : 0 ≤ rd l (i : Int) := hp _ (List.mem_of_mem_drop (i := i) (by rw [hd]; simp))
  rw [hd, List.sum_cons] at hb
  rw [if_pos (by omega), if_pos (by omega), if_pos (by omega), wrap64_in (by omega) (by omega), wrap64_in (n := (i : Int) + 1) (by omega) (by omega)]
  have := ih (s + rd l (i : Int)) (i + 1) (by omega) (by omega) (by omega) k (by omega)
  rw [hd, List.sum_cons, ← Int.add_assoc, ← this]; rfl
theorem impl_CrossingsOf_f (a b : Int) {k : Nat} (hk : 1000002 ≤ k) : impl_CrossingsOf.f k a b = some (crossv a b) := by
 unfold impl_CrossingsOf.f crossv
 rw [impl_isFraction_f _ _ (by omega)]; simp only [Option.bind_some, decide_eq_true_eq]
 by_cases h : Frac a b
 ·have h1 := h.1
  have h2 := h.2.1
  rw [if_pos h, if_pos h, impl_quotients_f (by omega) (by omega) (by omega) (by omega)]; simp only [Option.bind_some]
  have hl := quoL_length b.natAbs a.natAbs b.natAbs (Nat.le_refl _)
  have hs := quoL_sum b.natAbs a.natAbs b.natAbs (Nat.le_refl _)
  have := impl_CrossingsOf_l0 (quoL a.natAbs b.natAbs) (by omega) (quoL_nonneg b.natAbs _ _ (Nat.le_refl _)) _ 0 0 (Nat.zero_add _) (by omega) (by rw [List.drop_zero]; omega) k (by omega)
  rw [List.drop_zero, Int.zero_add] at this
  exact this
 ·rw [if_neg h, if_neg h]
theorem impl_linkOf_f (a b : Int) {k : Nat} (hk : 1000002 ≤ k) : impl_linkOf.f k a b = some (linkofv a b) := by
 obtain ⟨k, rfl⟩ : ∃ m, k = m + 1 := ⟨k - 1, by omega⟩
 unfold impl_linkOf.f
 rw [impl_isFraction_f _ _ (by omega)]; simp only [Option.bind_some, decide_eq_true_eq]
 have no : ¬ (Frac a b ∧ (-60 ≤ a ∧ a ≤ 60)) → impl_linkOf.j0 (k + 1) true a b = some (linkofv a b) := by
  intro h; simp only [impl_linkOf.j0]; rw [if_pos trivial]; unfold linkofv; rw [if_neg h]
 by_cases h : Frac a b
 ·rw [if_pos h]
  by_cases h1 : a < -60
  ·rw [if_pos h1]; exact no (fun x => by omega)
  ·rw [if_neg h1]
   by_cases h2 : a > 60
   ·rw [decide_eq_true h2]; exact no (fun x => by omega)
   ·rw [decide_eq_false h2]; simp only [impl_linkOf.j0]; rw [if_neg (by decide)]
    by_cases h0 : a = 0
    ·rw [if_pos h0]; unfold linkofv; rw [if_pos ⟨h, by omega⟩, if_pos h0]
    ·rw [if_neg h0]; exact linkof_value h (by omega) h0
 ·rw [if_neg h]; exact no (fun x => h x.1)
theorem impl_least_l0 (n : Nat) : ∀ (x a b : Nat), 0 < a → b ≤ x + n → x ≤ 100 → a ≤ 100 → b ≤ 100 → ∀ k, n + 1 < k → impl_least.l0 k (x : Int) (a : Int) (b : Int) = some ((a : Int), ((scan n x a b : Nat) : Int)) := by
 induction n with
 | zero =>
  intro x a b ha hb hx _ _ k hk
  obtain ⟨k, rfl⟩ : ∃ m, k = m + 1 := ⟨k - 1, by omega⟩
  simp only [impl_least.l0]
  rw [if_neg (by omega)]; rfl
 | succ n ih =>
  intro x a b ha hb hx ha' hb' k hk
  obtain ⟨k, rfl⟩ : ∃ m, k = m + 1 := ⟨k - 1, by omega⟩
  simp only [impl_least.l0, scan]
  by_cases h : x < b
  ·have hm : x * b ≤ 100 * 100 := Nat.mul_le_mul hx hb'
   rw [if_pos (by omega), if_neg (by omega), if_pos h, ← Int.natCast_mul, wrap64_in (n := ((x * b : Nat) : Int)) (by omega) (by omega), tmod_cast]
   by_cases h1 : x * b % a = 1
   ·rw [if_pos (by omega), if_pos h1, wrap64_in (by omega) (by omega)]
    obtain ⟨k, rfl⟩ : ∃ m, k = m + 1 := ⟨k - 1, by omega⟩
    simp only [impl_least.l0]
    rw [if_neg (by omega)]
   ·rw [if_neg (by omega), if_neg h1, wrap64_in (by omega) (by omega)]
    have := ih (x + 1) a b ha (by omega) (by omega) ha' hb' k (by omega)
    rw [← this]; rfl
  ·rw [if_neg (by omega), if_neg h]
theorem impl_least_f {a b : Int} {k : Nat} (h : LinkP a b) (hk : 1000 ≤ k) : impl_least.f k a b = some (a, leastv a b) := by
 have hr := linkP_range h
 unfold impl_least.f leastv leastn
 obtain ⟨a, rfl⟩ := Int.eq_ofNat_of_zero_le hr.1
 obtain ⟨b, rfl⟩ := Int.eq_ofNat_of_zero_le hr.2.2.1
 by_cases ha : a = 0
 ·subst ha
  have := (linkP_zero b).1 h
  obtain rfl : b = 1 := by omega
  obtain ⟨k, rfl⟩ : ∃ m, k = m + 1 := ⟨k - 1, by omega⟩
  simp only [impl_least.l0]
  rw [if_neg (by omega)]; rfl
 ·exact impl_least_l0 60 1 a b (by omega) (by omega) (by omega) (by omega) (by omega) k (by omega)
theorem impl_TiedFor_f (a b c : Int) {k : Nat} (hk : 1000001 ≤ k) : impl_TiedFor.f k a b c = some (tiedv a b c) := by
 unfold impl_TiedFor.f tiedv
 rw [impl_isFraction_f _ _ hk]; simp only [Option.bind_some, decide_eq_true_eq]
 by_cases h : Frac a b
 ·have h1 := h.1
  rw [if_pos h]
  by_cases c1 : c < 1
  ·rw [if_pos c1, if_neg (by omega)]
  ·rw [if_neg c1]
   by_cases c2 : c > 12
   ·rw [if_pos c2, if_neg (by omega)]
   ·rw [if_neg c2, impl_gcd_f (by omega) (by omega) (by omega), if_pos (show Frac a b ∧ (1 ≤ c ∧ c ≤ 12) from ⟨h, by omega, by omega⟩)]; simp only [Option.bind_some]; rw [tied_wrap a (by omega) (by omega)]
 ·rw [if_neg h, if_neg (fun x => h x.1)]
theorem impl_untied_l0 (n : Nat) : ∀ (t : List UInt8) (a b : Int) (r : List UInt8), SmallU a b → t.length + n ≤ 1000 → unt n t a b = some r → ∀ k, n + 1000003 ≤ k → impl_untied.l0 k (ba t) a b = some (ba r) := by
 induction n with
 | zero => intro t a b r _ _ h; simp [unt] at h
 | succ n ih =>
  intro t a b r hs ht h k hk
  obtain ⟨k, rfl⟩ : ∃ m, k = m + 1 := ⟨k - 1, by omega⟩
  simp only [impl_untied.l0]
  simp only [unt] at h
  have h1 := hs.2
  have h2 := hs.1.2.1
  by_cases h0 : a = 0
  ·rw [if_pos h0] at h ⊢; cases h; rfl
  ·rw [if_neg h0] at h ⊢
   by_cases h1 : a < 0
   ·rw [if_pos h1] at h ⊢
    have hp := smallU_plus hs h1
    rw [ba_size, if_pos (by omega), wrap64_in (by omega) (by omega)]
    have := ih (t ++ [84]) (a + b) b r hp (by simp; omega) h k (by omega)
    rw [← ba_append] at this
    exact this
   ·rw [if_neg h1] at h ⊢
    rw [ba_size, if_pos (by omega), wrap64_in (by omega) (by omega), impl_lowest_f (by omega) (by omega) (by omega) (by omega), over_low hs.1]; simp only [Option.bind_some]
    have := ih (t ++ [82]) _ _ r (smallU_over hs) (by simp; omega) h k (by omega)
    rw [← ba_append] at this
    exact this
theorem impl_untied_f {a b : Int} (h : (untv a b).2 = true) {k : Nat} (hk : 1001000 ≤ k) : impl_untied.f k a b = some (ba (untv a b).1) := by
 unfold impl_untied.f
 unfold untv at h ⊢
 by_cases hS : SmallU a b
 ·rw [if_pos hS]
  obtain ⟨r, hr⟩ := unt_some hS
  have := impl_untied_l0 100 [] a b r hS (by simp) hr k (by omega)
  rw [hr]; exact this
 ·rw [if_neg hS] at h; cases h
theorem impl_asked_f {a b : Int} (hf : Frac a b) (s : ByteArray) {k : Nat} (hs : s.size ≤ 100000000) (hk : 400000000 ≤ k) : impl_asked.f k a b s = some (ba (askv a b s.data.toList)) := by
 unfold impl_asked.f askv
 simp only [ByteArray.toList_eq]
 have hsz : s.data.toList.length = s.size := rfl
 generalize hz : s.data.toList = z at *
 have num : ∀ {n : Int}, n.natAbs < 10000000 → strconv_Itoa.f n = some (ba (Go.Lib.itoa n)) := fun h => strconv_Itoa_f (by omega)
 have ht := termsv_bd a b
 have he := endsv_bd a b
 by_cases q0 : z = [116, 101, 120, 116]
 ·rw [if_pos q0, if_pos q0]
  rw [impl_fractionText_f hf]; rfl
 ·rw [if_neg q0, if_neg q0]
  by_cases q1 : z = [109, 111, 118, 101, 115]
  ·rw [if_pos q1, if_pos q1]
   rw [impl_isSmall_f a b 12 (by omega) (by omega) (by omega), small_untv]; simp only [Option.bind_some]
   split
   ·next hu =>
    have := untv_len a b
    rw [impl_untied_f hu (by omega)]; simp only [Option.bind_some]
    rw [ba_size, if_pos (by omega)]
    have e : (⟨#[58]⟩ : ByteArray) ++ ba (untv a b).1 = ba (58 :: (untv a b).1) := ba_append [58] _
    rw [e]
   ·rfl
  ·rw [if_neg q1, if_neg q1]
   by_cases q2 : z = [116, 101, 114, 109, 115]
   ·rw [if_pos q2, if_pos q2]
    rw [impl_TermsOf_f a b (by omega)]; simp only [Option.bind_some]
    unfold rowv
    by_cases h : (termsv a b).2 = true
    ·rw [if_pos h, if_neg (ht.2.2.1 h), impl_listText_f _ ht.1 ht.2.1 (by omega)]; rfl
    ·rw [if_neg h, if_pos (ht.2.2.2 (by simpa using h))]; rfl
   ·rw [if_neg q2, if_neg q2]
    by_cases q3 : z = [99, 114, 111, 115, 115, 105, 110, 103, 115]
    ·rw [if_pos q3, if_pos q3]
     rw [impl_CrossingsOf_f a b (by omega)]; simp only [Option.bind_some]
     rw [num (crossv_bd a b)]; rfl
    ·rw [if_neg q3, if_neg q3]
     by_cases q4 : z = [101, 110, 100, 115]
     ·rw [if_pos q4, if_pos q4]
      rw [impl_EndsFor_f hf (by omega)]; simp only [Option.bind_some]
      rw [impl_listText_f _ he.1 he.2.1 (by omega)]; rfl
     ·rw [if_neg q4, if_neg q4]
      by_cases q5 : z = [114, 105, 110, 103, 115]
      ·rw [if_pos q5, if_pos q5]
       rw [impl_RingsOf_f hf (by omega)]; simp only [Option.bind_some]
       rw [num (by unfold ringsv; split <;> decide)]; rfl
      ·rw [if_neg q5, if_neg q5]
       by_cases q6 : z = [108, 105, 110, 107]
       ·rw [if_pos q6, if_pos q6]
        rw [impl_linkOf_f a b (by omega)]; simp only [Option.bind_some]
        split
        ·next hlk =>
         have hP := linkofv_ok hlk
         have hb := leastv_bd hP
         have e0 : leastofv (linkofv a b).1 (linkofv a b).2.1 = ((linkofv a b).1, leastv (linkofv a b).1 (linkofv a b).2.1, true) := by unfold leastofv; rw [if_pos hP]
         rw [e0] at hb ⊢
         simp only at hb ⊢
         rw [impl_least_f hP (by omega)]; simp only [Option.bind_some]
         have l1 := itoa_length hb.1
         have l2 := itoa_length hb.2
         rw [num hb.1, num hb.2]; simp only [Option.bind_some]
         have e : ∀ x : List UInt8, ba x ++ (⟨#[58]⟩ : ByteArray) = ba (x ++ [58]) := fun x => ba_append x [58]
         rw [ba_size, if_pos (by omega), e, ba_size, ba_size, if_pos (by simp; omega), ba_append]
         simp
        ·rfl
       ·rw [if_neg q6, if_neg q6]
        obtain ⟨k, rfl⟩ : ∃ m, k = m + 2 := ⟨k - 2, by omega⟩
        have what : ∀ n : Int, impl_asked.j0 (k + 2) n true a b = some (ba [119, 104, 97, 116]) := by
         intro n; simp only [impl_asked.j0]; rw [if_pos trivial]; rfl
        unfold strings_CutPrefix.f
        simp only [Option.bind_some]
        rw [hz]
        have ez : (⟨(Go.Lib.trimPrefix z [99, 111, 108, 111, 117, 114, 115, 32]).toArray⟩ : ByteArray) = ba (Go.Lib.trimPrefix z [99, 111, 108, 111, 117, 114, 115, 32]) := rfl
        rw [ez]
        have hlen : (Go.Lib.trimPrefix z [99, 111, 108, 111, 117, 114, 115, 32]).length ≤ z.length := by
         unfold Go.Lib.trimPrefix; split <;> simp
        obtain ⟨v, er, hv⟩ := strconv_Atoi_some (ba (Go.Lib.trimPrefix z [99, 111, 108, 111, 117, 114, 115, 32])) (by rw [ba_size]; omega)
        cases hcn : colN z with
        | some n =>
         obtain ⟨b1, b2, e⟩ := colN_bd hcn
         have hp : Go.Lib.hasPrefix z [99, 111, 108, 111, 117, 114, 115, 32] = true := by
          unfold Go.Lib.hasPrefix; rw [e]; exact List.isPrefixOf_iff_prefix.2 ⟨_, rfl⟩
         have htp : Go.Lib.trimPrefix z [99, 111, 108, 111, 117, 114, 115, 32] = Go.Lib.itoa n := by
          unfold Go.Lib.trimPrefix; rw [if_pos hp, e]; rfl
         rw [htp, strconv_Atoi_itoa (by omega)]; simp only [Option.bind_some]
         rw [if_pos hp, if_pos (by rfl), if_neg (by omega), if_neg (by omega), num (by omega)]; simp only [Option.bind_some, ba_toList, ByteArray.toList_eq, ba_list]
         rw [show (Go.Lib.itoa n != Go.Lib.itoa n) = false by simp]
         simp only [impl_asked.j0]
         rw [if_neg (by decide)]
         by_cases h1 : n < 1
         ·rw [if_pos h1, if_neg (by omega)]; simp only [impl_asked.j1]; rw [if_pos trivial]; rfl
         ·rw [if_neg h1]
          by_cases h2 : n > 12
          ·rw [decide_eq_true h2, if_neg (by omega)]; simp only [impl_asked.j1]; rw [if_pos trivial]; rfl
          ·rw [decide_eq_false h2, if_pos (by omega)]; simp only [impl_asked.j1]
           rw [if_neg (by decide), impl_TiedFor_f _ _ _ (by omega)]; simp only [Option.bind_some]
           rw [num (tiedv_bd a b n)]; rfl
        | none =>
         rw [hv]; simp only [Option.bind_some]
         by_cases hp : Go.Lib.hasPrefix z [99, 111, 108, 111, 117, 114, 115, 32] = true
         ·rw [if_pos hp]
          split
          ·split
           ·rw [what]
           ·split
            ·rw [what]
            ·next h1 h2 =>
             rw [num (by omega)]; simp only [Option.bind_some, ba_toList, ByteArray.toList_eq, ba_list]
             by_cases he : Go.Lib.itoa v = Go.Lib.trimPrefix z [99, 111, 108, 111, 117, 114, 115, 32]
             ·have hz2 : z = [99, 111, 108, 111, 117, 114, 115, 32] ++ Go.Lib.itoa v := by
               rw [he]
               unfold Go.Lib.trimPrefix
               rw [if_pos hp]
               unfold Go.Lib.hasPrefix at hp
               obtain ⟨t, rfl⟩ := List.isPrefixOf_iff_prefix.1 hp
               simp
              rw [hz2, colN_itoa (by omega) (by omega)] at hcn
              cases hcn
             ·rw [show (Go.Lib.itoa v != Go.Lib.trimPrefix z [99, 111, 108, 111, 117, 114, 115, 32]) = true by simpa using he, what]
          ·rw [what]
         ·rw [if_neg hp, what]
theorem impl_deskLine_f {a b : Int} {l : List S31} (hd : DeskP a b l) (s : ByteArray) {k : Nat} (hs : s.size ≤ 100000000) (hk : 400000000 ≤ k) :
  impl_deskLine.f k a b l s = some ((linev a b l s.data.toList).1, (linev a b l s.data.toList).2.1, (linev a b l s.data.toList).2.2.1, ba (linev a b l s.data.toList).2.2.2) := by
 have hf := hd.1
 have h8 := hd.2.1
 unfold impl_deskLine.f linev
 rw [impl_readDeed_f s hs (by omega)]; simp only [Option.bind_some]
 by_cases hr : (rdv s.data.toList).2.2 = true
 ·have ht : (ba (rdv s.data.toList).2.1).size ≤ 100000000 := by
   have := rdv_len s.data.toList
   rw [ba_size]; have hsz : s.data.toList.length = s.size := rfl; omega
  rw [if_pos hr, if_pos hr, impl_deskDo_f a b l _ _ hf (by omega) ht (by omega)]; simp only [Option.bind_some, ba_list]
  split <;> rfl
 ·rw [if_neg hr, if_neg hr, impl_copyDesk_f a b l (by omega)]; simp only [Option.bind_some]
  rw [impl_asked_f hf s hs hk]; rfl
theorem impl_IndexFunc_l0 (l : List S31) (hl : l.length ≤ 1000000000) (n : Nat) : ∀ i : Nat, i + n = l.length → ∀ k, n + 1000001 ≤ k → ∃ r, impl_Fraction_137.l0 k l (l.length : Int) (i : Int) = some r ∧ (r ≥ 0 ↔ ¬ AllF (l.drop i)) := by
 induction n with
 | zero =>
  intro i hi k hk
  obtain ⟨k, rfl⟩ : ∃ m, k = m + 1 := ⟨k - 1, by omega⟩
  simp only [impl_Fraction_137.l0]
  rw [if_neg (by omega), List.drop_of_length_le (by omega)]
  refine ⟨-1, rfl, ?_⟩
  constructor
  ·intro h; omega
  ·intro h; exact absurd (by intro x hx; simp at hx) h
 | succ n ih =>
  intro i hi k hk
  obtain ⟨k, rfl⟩ : ∃ m, k = m + 1 := ⟨k - 1, by omega⟩
  obtain ⟨r, h1, h2⟩ := ih (i + 1) (by omega) k (by omega)
  simp only [impl_Fraction_137.l0]
  unfold impl_isDesk_1.f
  rw [if_pos (by omega), if_pos (by omega), if_pos (by omega), impl_isFraction_f _ _ (by omega), rdF_drop l i (by omega)]; simp only [Option.bind_some]
  by_cases h : Frac (rd_T31 l (i : Int)).f0 (rd_T31 l (i : Int)).f1
  ·rw [decide_eq_true h, if_neg (by decide), wrap64_in (by omega) (by omega), show ((i : Int) + 1) = ((i + 1 : Nat) : Int) by omega]
   refine ⟨r, h1, ?_⟩
   rw [h2, allF_cons]
   exact ⟨fun x y => x y.2, fun x y => x ⟨h, y⟩⟩
  ·rw [decide_eq_false h, if_pos (by decide)]
   refine ⟨_, rfl, ?_⟩
   rw [allF_cons]
   exact ⟨fun _ y => h y.1, fun _ => by omega⟩
theorem impl_ContainsFunc_f (l : List S31) (hl : l.length ≤ 1000000000) (z : Int) {k : Nat} (hk : l.length + 1000001 ≤ k) : impl_Fraction_109.f k l z = some (decide (¬ AllF l)) := by
 unfold impl_Fraction_109.f impl_Fraction_137.f
 obtain ⟨r, h1, h2⟩ := impl_IndexFunc_l0 l hl l.length 0 (by omega) k (by omega)
 rw [List.drop_zero] at h2
 rw [show ((0 : Nat) : Int) = 0 from rfl] at h1
 rw [h1]; simp only [Option.bind_some]
 exact dec_iff h2
theorem impl_isDesk_f (a b : Int) (l : List S31) (hl : l.length ≤ 1000000000) {k : Nat} (hk : 1001000 ≤ k) : impl_isDesk.f k a b l = some (decide (DeskP a b l)) := by
 unfold impl_isDesk.f
 rw [impl_isFraction_f _ _ (by omega)]; simp only [Option.bind_some, decide_eq_true_eq]
 by_cases h : Frac a b
 ·rw [if_pos h]
  by_cases h1 : (l.length : Int) ≤ 8
  ·rw [if_pos h1, impl_ContainsFunc_f l hl _ (by omega)]; simp only [Option.bind_some]
   by_cases h2 : AllF l
   ·rw [decide_eq_false (not_not_intro h2), decide_eq_true (show DeskP a b l from ⟨h, by omega, h2⟩)]; rfl
   ·rw [decide_eq_true h2, decide_eq_false (fun x : DeskP a b l => h2 x.2.2)]; rfl
  ·rw [if_neg h1]; exact (dec_false (fun x => by have := x.2.1; omega)).symm
 ·rw [if_neg h]; exact (dec_false (fun x => h x.1)).symm
theorem impl_DeskLine_f (a b : Int) (l : List S31) (s : ByteArray) {k : Nat} (hl : l.length ≤ 100000000) (hs : s.size ≤ 100000000) (hk : 400000000 ≤ k) :
  impl_DeskLine.f k a b l s = some ((linedv a b l s.data.toList).1, (linedv a b l s.data.toList).2.1, (linedv a b l s.data.toList).2.2.1, ba (linedv a b l s.data.toList).2.2.2) := by
 unfold impl_DeskLine.f linedv
 rw [impl_isDesk_f a b l (by omega) (by omega)]; simp only [Option.bind_some, decide_eq_true_eq]
 by_cases hd : DeskP a b l
 ·rw [if_pos hd, if_pos hd, impl_deskLine_f hd s hs hk]; rfl
 ·rw [if_neg hd, if_neg hd]; rfl
theorem linedv_len (a b : Int) (l : List S31) (s : List UInt8) : (linedv a b l s).2.2.1.length ≤ 8 ∧ (linedv a b l s).2.2.2.length ≤ 2000 := by
 unfold linedv
 split
 ·next h => exact linev_len h s
 ·simp
theorem impl_DeskOk_f (a b : Int) (l : List S31) (hl : l.length ≤ 1000000000) {k : Nat} (hk : 1001000 ≤ k) : impl_DeskOk.f k a b l = some (decide (DeskP a b l)) := by
 unfold impl_DeskOk.f
 rw [impl_isDesk_f a b l hl hk]; rfl
theorem sameDesk_l0 (a b : Int) (l : List S31) (hl : l.length ≤ 1000000) (n : Nat) : ∀ i : Nat, i + n = l.length → ∀ k, n < k → laws_sameDesk.l0 k (i : Int) a b l a b l = some true := by
 induction n with
 | zero =>
  intro i hi k hk
  obtain ⟨k, rfl⟩ : ∃ m, k = m + 1 := ⟨k - 1, by omega⟩
  simp only [laws_sameDesk.l0]
  rw [if_neg (by omega)]
 | succ n ih =>
  intro i hi k hk
  obtain ⟨k, rfl⟩ : ∃ m, k = m + 1 := ⟨k - 1, by omega⟩
  simp only [laws_sameDesk.l0]
  rw [if_pos (by omega), if_pos (by omega), if_pos (by omega), if_neg (by simp), wrap64_in (by omega) (by omega), show ((i : Int) + 1) = ((i + 1 : Nat) : Int) by omega]
  exact ih (i + 1) (by omega) k (by omega)
theorem sameDesk_f (a b : Int) (l : List S31) {k : Nat} (hl : l.length ≤ 1000000) (hk : l.length + 2 ≤ k) : laws_sameDesk.f k a b l a b l = some true := by
 obtain ⟨k, rfl⟩ : ∃ m, k = m + 1 := ⟨k - 1, by omega⟩
 unfold laws_sameDesk.f
 rw [if_neg (by simp), show ((l.length : Int) != (l.length : Int)) = false by simp]
 simp only [laws_sameDesk.j0]
 rw [if_neg (by decide)]
 exact sameDesk_l0 a b l hl l.length 0 (by omega) k (by omega)
theorem alive_f {k : Nat} (hk : 1000001 ≤ k) : laws_alive.f k = some true := by
 unfold laws_alive.f impl_FractionOk.f
 simp only [impl_isFraction_f _ _ hk, Option.bind_some]
 rw [if_pos (by decide)]
 congr 1
theorem linev_same {a b : Int} {l : List S31} {s : List UInt8} (h : (linev a b l s).2.2.2 ≠ [111, 107]) : (linev a b l s).1 = a ∧ (linev a b l s).2.1 = b ∧ (linev a b l s).2.2.1 = l := by
 unfold linev at h ⊢
 split at h
 ·next hr =>
  rw [if_pos hr]
  simp only at h ⊢
  have hd : ¬ (dov a b l (rdv s).1 (rdv s).2.1).2.2.2 = true := fun x => h (by rw [if_pos x])
  have e : dov a b l (rdv s).1 (rdv s).2.1 = (a, b, l, false) := by
   unfold dov at hd ⊢
   split at hd
   ·simp at hd
   ·next hh =>
    rw [if_neg hh]
    split at hd
    ·simp at hd
    ·next h2 => rw [if_neg h2]
  rw [e]; exact ⟨rfl, rfl, rfl⟩
 ·next hr => rw [if_neg hr]; exact ⟨rfl, rfl, rfl⟩
theorem linev_empty (a b : Int) (l : List S31) : linev a b l [] = (a, b, l, [119, 104, 97, 116]) := by
 have h1 : (rdv []).2.2 = false := by decide
 have h2 : colN [] = none := by decide
 unfold linev
 rw [h1, if_neg (by decide)]
 unfold askv
 rw [if_neg (by decide), if_neg (by decide), if_neg (by decide), if_neg (by decide), if_neg (by decide), if_neg (by decide), if_neg (by decide), h2]
theorem FnDeskLine_at (a b : Int) (l : List S31) (s : ByteArray) (hl : l.length ≤ 9) (hs : s.size ≤ 1000) {k : Nat} (hk : 400002000 ≤ k) :
  ((impl_DeskLine.f k a b l s).bind fun bt834 => ((spec_DeskLine.f k a b l s).bind fun bt841 => ((laws_sameDesk.f k bt834.1 bt834.2.1 bt834.2.2.1 bt841.1 bt841.2.1 bt841.2.2.1).bind fun t848 => (if t848 = true then (laws_FnDeskLine.j0 k bt834.2.2.2 (bt834.2.2.2.toList != bt841.2.2.2.toList) a b l bt834.1 bt834.2.1 bt834.2.2.1) else (laws_FnDeskLine.j0 k bt834.2.2.2 true a b l bt834.1 bt834.2.1 bt834.2.2.1))))) = some true := by
 obtain ⟨k, rfl⟩ : ∃ m, k = m + 1 := ⟨k - 1, by omega⟩
 have hlen := linedv_len a b l s.data.toList
 rw [impl_DeskLine_f a b l s (by omega) (by omega) (by omega), spec_DeskLine_f a b l s (by omega) (by omega) (by omega)]; simp only [Option.bind_some]
 rw [sameDesk_f _ _ _ (by omega) (by omega)]; simp only [Option.bind_some]
 rw [if_pos trivial, show ((ba (linedv a b l s.data.toList).2.2.2).toList != (ba (linedv a b l s.data.toList).2.2.2).toList) = false by simp]
 simp only [laws_FnDeskLine.j0]
 rw [if_neg (by decide), spec_DeskOk_f a b l (by omega) (by omega)]; simp only [Option.bind_some, decide_eq_true_eq]
 by_cases h : DeskP a b l
 ·have hv : linedv a b l s.data.toList = linev a b l s.data.toList := by unfold linedv; rw [if_pos h]
  have hok := linev_ok h s.data.toList
  have h8 := h.2.1
  have he : linedv a b l (⟨#[]⟩ : ByteArray).data.toList = (a, b, l, [119, 104, 97, 116]) := by
   unfold linedv; rw [if_pos h]; exact linev_empty a b l
  rw [if_pos h, hv] 
  rw [hv] at hlen
  rw [impl_DeskLine_f a b l ⟨#[]⟩ (by omega) (by decide) (by omega), he]; simp only [Option.bind_some]
  rw [impl_DeskOk_f _ _ _ (by omega) (by omega), decide_eq_true hok]; simp only [Option.bind_some]
  rw [if_pos trivial]
  have hw : ((ba [119, 104, 97, 116]).toList == ([119, 104, 97, 116] : List UInt8)) = true := by rw [ba_toList]; decide
  by_cases ho : (linev a b l s.data.toList).2.2.2 = [111, 107]
  ·rw [ba_toList, if_pos ho, sameDesk_f a b l (by omega) (by omega)]; simp only [Option.bind_some]
   rw [if_pos trivial, hw]
  ·obtain ⟨e1, e2, e3⟩ := linev_same ho
   rw [ba_toList, if_neg ho, e1, e2, e3, sameDesk_f a b l (by omega) (by omega)]; simp only [Option.bind_some]
   rw [if_pos trivial, if_pos trivial, hw]
 ·have hv : linedv a b l s.data.toList = (0, 0, [], []) := by unfold linedv; rw [if_neg h]
  rw [if_neg h, hv]; simp only [ba_toList]
  rw [if_pos trivial]
  unfold laws_noDesk.f
  rw [sameDesk_f 0 0 [] (by decide) (by simp; omega)]; simp only [Option.bind_some]
  rw [if_pos trivial, alive_f (by omega)]; rfl
theorem FnDeskLine : laws_FnDeskLine.Pure := by
 intro l _ _ hw
 refine ⟨400003000, ?_⟩
 unfold laws_FnDeskLine.f spec_DrawDeskLine.f
 refine ite_to (fun _ => rfl) (fun _ => ?_)
 obtain ⟨s, hs, hr⟩ := open_f hw
 rw [hs]; simp only [Option.bind_some]
 obtain ⟨a, b, p, q, hd, hp, q0, q1⟩ := l20Desk_f (k := 400003000) (p := 0) 12 hr (by omega) (by omega) (by omega)
 rw [hd]; simp only [Option.bind_some]
 obtain ⟨t, q', ht, hsz⟩ := l20Line_f (k := 400003000) (p := q) hr (by omega) (by omega) (by omega)
 rw [ht]; simp only [Option.bind_some]
 exact FnDeskLine_at a b p t hp hsz (by omega)
end Go.Proofs.YtofmlbgfcohhoaaGreatDoor.Pure
