/- FnDeskSay: DeskSay answers as the reference's does; two parts of the lines, one after the other, lead to the same desk and the same answers, of which none is empty; and behind any lines, and take 5/3, moves is answered by a colon and the moves that the rule tells for 5/3; at every draw. -/
import Derived.Lib.AtoiAll
import Derived.Lib.AtoiTie
import Derived.Lib.IndexMore
import Derived.Lib.ItoaNum
import Derived.Lib.Join
import Derived.Test.YtofmlbgfcohhoaaGreatDoorPFnDeskSayx0
import Derived.Test.YtofmlbgfcohhoaaGreatDoorPFnDeskSayx1
import Derived.Test.YtofmlbgfcohhoaaGreatDoorPFnDeskSayx2
import Derived.Test.YtofmlbgfcohhoaaGreatDoorPFnDeskSayx3
import Derived.Test.YtofmlbgfcohhoaaGreatDoorPFnDeskSayx4
import Derived.Test.YtofmlbgfcohhoaaGreatDoorPFnDeskSayx5
import Derived.Test.YtofmlbgfcohhoaaGreatDoorPFnDeskSayx6
import Derived.Test.YtofmlbgfcohhoaaGreatDoorPFnDeskSayx7
import Derived.Test.YtofmlbgfcohhoaaGreatDoorPFnDeskSayx8
import Derived.Test.YtofmlbgfcohhoaaGreatDoorPFnDeskSayx9
import Derived.Test.YtofmlbgfcohhoaaGreatDoorPFnDeskSayx10
import Derived.Test.YtofmlbgfcohhoaaGreatDoorPFnDeskSayx11
import Derived.Test.YtofmlbgfcohhoaaGreatDoorPFnDeskSayx12
import Derived.Test.YtofmlbgfcohhoaaGreatDoorPFnDeskSayx13
import Derived.Test.YtofmlbgfcohhoaaGreatDoorPFnDeskSayx14
import Derived.Test.YtofmlbgfcohhoaaGreatDoorPFnDeskSayx15
import Derived.Test.YtofmlbgfcohhoaaGreatDoorPFnDeskSayx16
import Derived.Test.YtofmlbgfcohhoaaGreatDoorPFnDeskSayx17
import Derived.Test.YtofmlbgfcohhoaaGreatDoorPFnDeskSayx18
import Derived.Test.YtofmlbgfcohhoaaGreatDoorPFnDeskSayx19
import Derived.Test.YtofmlbgfcohhoaaGreatDoorPFnDeskSayx20
import Derived.Test.YtofmlbgfcohhoaaGreatDoorPFnDeskSayx21
import Derived.Test.YtofmlbgfcohhoaaGreatDoorPFnDeskSayx22
import Derived.Test.YtofmlbgfcohhoaaGreatDoorPFnDeskSayx23
import Derived.Test.YtofmlbgfcohhoaaGreatDoorPFnDeskSayx24
import Derived.Test.YtofmlbgfcohhoaaGreatDoorPFnDeskSayx25
import Derived.Test.YtofmlbgfcohhoaaGreatDoorPFnDeskSayx26
import Derived.Test.YtofmlbgfcohhoaaGreatDoorPFnDeskSayx27
import Derived.Test.YtofmlbgfcohhoaaGreatDoorPFnDeskSayx28
import Derived.Test.YtofmlbgfcohhoaaGreatDoorPFnDeskSayx29
import Derived.Test.YtofmlbgfcohhoaaGreatDoorCFnDeskSay
set_option linter.unusedVariables false
set_option linter.unusedSimpArgs false
namespace Go.Proofs.YtofmlbgfcohhoaaGreatDoor.Pure
open Go.RowKit Go.Proofs.YtofmlbgfcohhoaaGreatDoor.PFnDeskSay Go.Proofs.YtofmlbgfcohhoaaGreatDoorW.PrintWords Go.Proofs.YtofmlbgfcohhoaaGreatDoorW.PrintLast Go.Proofs.YtofmlbgfcohhoaaGreatDoorW.PrintMore Go.Proofs.YtofmlbgfcohhoaaGreatDoor.Lib

theorem P1 {n : Int} (h : -9223372036854775808 ≤ n) (h' : n ≤ 9223372036854775807) : wrap64 n = n := by unfold wrap64; omega
theorem P163 {p : Prop} [Decidable p] (h : p) : some (decide p) = some true := by simp [h]
theorem P22 {p : Prop} [Decidable p] (h : ¬ p) : some (decide p) = some false := by simp [h]
theorem P35 {p q : Prop} [Decidable p] [Decidable q] (h : p ↔ q) : some (decide p) = some (decide q) := by simp [h]
theorem P245 {c : Prop} [Decidable c] {α : Type} {x y z : α} (h1 : c → x = z) (h2 : ¬ c → y = z) : (if c then x else y) = z := by
 by_cases h : c
 ·rw [if_pos h]; exact h1 h
 ·rw [if_neg h]; exact h2 h
theorem P164 (a : Int) {b : Int} (h : b ≠ 0) : (Int.tmod a b).natAbs < b.natAbs := by
 rw [Int.natAbs_tmod]
 exact Nat.mod_lt _ (by omega)
theorem P165 (a b : Int) : Int.gcd b (Int.tmod a b) = Int.gcd a b := by
 unfold Int.gcd
 rw [Int.natAbs_tmod, Nat.gcd_comm a.natAbs, Nat.gcd_rec b.natAbs a.natAbs, Nat.gcd_comm]
theorem P70 {a : Int} (h : -9223372036854775808 < a) (h' : a ≤ 9223372036854775807) : mx a (wrap64 (-a)) = (a.natAbs : Int) := by
 rw [P1 (by omega) (by omega)]; unfold mx; split <;> omega
def P42 (s : List Int) : Prop := s.length ≤ 2000 ∧ ∀ x ∈ s, 0 ≤ x ∧ x ≤ 255
theorem P119 {s : List Int} (h : P42 s) (i : Int) : 0 ≤ rd s i ∧ rd s i ≤ 255 := by
 unfold rd
 by_cases hi : i.toNat < s.length
 ·have e : s.getD i.toNat 0 = s[i.toNat] := by simp [hi]
  rw [e]; exact h.2 _ (List.getElem_mem hi)
 ·have e : s.getD i.toNat 0 = 0 := by simp; rw [List.getElem?_eq_none (by omega)]; rfl
  rw [e]; omega
theorem P246 {x y : Int} (hx : 0 ≤ x) (hx' : x < 4611686018427387904) (hy : 0 ≤ y) (hy' : y < 4611686018427387904) : 0 ≤ Go.bits .xor .i64 x y := by
 unfold Go.bits
 simp only
 obtain ⟨a, rfl⟩ := Int.eq_ofNat_of_zero_le hx
 obtain ⟨b, rfl⟩ := Int.eq_ofNat_of_zero_le hy
 have h64 : IntKind.i64.bits = 64 := rfl
 rw [BitVec.toNat_xor]
 have ea : (BitVec.ofInt IntKind.i64.bits (a : Int)).toNat = a := by
  rw [BitVec.toNat_ofInt, h64]; omega
 have eb : (BitVec.ofInt IntKind.i64.bits (b : Int)).toNat = b := by
  rw [BitVec.toNat_ofInt, h64]; omega
 rw [ea, eb]
 have hl : a ^^^ b < 2 ^ 62 := Nat.xor_lt_two_pow (by omega) (by omega)
 generalize a ^^^ b = c at *
 have : IntKind.i64.wrap (c : Int) = wrap64 (c : Int) := by
  simp [IntKind.wrap, wrap64, IntKind.signed, IntKind.bits]
  try omega
 rw [this, P1 (by omega) (by omega)]
 omega
theorem P99 {x n : Int} (hx : 0 ≤ x) (hn : 1 ≤ n) : 0 ≤ Int.tmod x n ∧ Int.tmod x n < n := by
 rw [Int.tmod_eq_emod_of_nonneg hx]
 exact ⟨Int.emod_nonneg _ (by omega), Int.emod_lt_of_pos _ (by omega)⟩
theorem P23 {s : List Int} {p : Int} (n : Int) {k : Nat} (hs : P42 s) (hp : 0 ≤ p) (hp' : p ≤ 1000000) (hk : 1 ≤ k) :
  ∃ v, F1.f k s p n = some (v, p + 1) ∧ 0 ≤ v ∧ (1 ≤ n → v < n) ∧ (n < 1 → v = 0) := by
 obtain ⟨k, rfl⟩ : ∃ m, k = m + 1 := ⟨k - 1, by omega⟩
 unfold F1.f
 rw [P1 (n := p + 1) (by omega) (by omega)]
 by_cases hn : n < 1
 ·rw [if_pos hn]; simp only [F1.j0]; rw [if_pos trivial]
  exact ⟨0, rfl, by omega, by omega, fun _ => rfl⟩
 ·rw [if_neg hn]
  by_cases hl : (s.length : Int) = 0
  ·rw [show ((s.length : Int) == 0) = true by simpa using hl]; simp only [F1.j0]; rw [if_pos trivial]
   exact ⟨0, rfl, by omega, by omega, fun _ => rfl⟩
  ·rw [show ((s.length : Int) == 0) = false by simpa using hl]; simp only [F1.j0]; rw [if_neg (by decide)]
   have hlen := hs.1
   rw [show p + 1 - 1 = p by omega, P1 (n := p) (by omega) (by omega)]
   by_cases h1 : p < (s.length : Int)
   ·have hb := P119 hs p
    rw [if_pos h1, if_pos hp, if_neg (by omega), P1 (by omega) (by omega)]
    have ht := P99 (n := n) hb.1 (by omega)
    exact ⟨_, rfl, ht.1, fun _ => ht.2, fun x => absurd x hn⟩
   ·have t1 := P99 (x := p) (n := (s.length : Int)) hp (by omega)
    have t2 := P99 (x := p * 7 + 3) (n := (s.length : Int)) (by omega) (by omega)
    rw [if_neg h1, if_neg hl, if_pos t1.1, if_pos t1.2, P1 (n := p * 7) (by omega) (by omega), P1 (n := p * 7 + 3) (by omega) (by omega), if_pos t2.1, if_pos t2.2, if_neg (by omega)]
    have b1 := P119 hs (Int.tmod p (s.length : Int))
    have b2 := P119 hs (Int.tmod (p * 7 + 3) (s.length : Int))
    generalize rd s (Int.tmod p (s.length : Int)) = r1 at *
    generalize rd s (Int.tmod (p * 7 + 3) (s.length : Int)) = r2 at *
    have q1 : 0 ≤ Int.tdiv p (s.length : Int) ∧ Int.tdiv p (s.length : Int) ≤ p := by
     obtain ⟨a, rfl⟩ := Int.eq_ofNat_of_zero_le hp
     rw [Int.tdiv_eq_ediv_of_nonneg (by omega), ← Int.natCast_ediv]
     have := Nat.div_le_self a s.length
     exact ⟨Int.natCast_nonneg _, by exact_mod_cast this⟩
    generalize Int.tdiv p (s.length : Int) = q at *
    rw [P1 (n := r1) (by omega) (by omega), P1 (n := r1 * 131) (by omega) (by omega), P1 (n := r2) (by omega) (by omega), P1 (n := r2 * 1117) (by omega) (by omega), P1 (n := r1 * 131 + r2 * 1117) (by omega) (by omega), P1 (n := p * 29) (by omega) (by omega), P1 (n := q) (by omega) (by omega), P1 (n := q * 53) (by omega) (by omega), P1 (n := r1 * 131 + r2 * 1117 + p * 29) (by omega) (by omega), P1 (n := r1 * 131 + r2 * 1117 + p * 29 + q * 53) (by omega) (by omega)]
    generalize hX : r1 * 131 + r2 * 1117 + p * 29 + q * 53 = X
    have hX0 : 0 ≤ X := by omega
    have hX1 : X ≤ 1000000000 := by omega
    have d1 : 0 ≤ Int.tdiv X 64 ∧ Int.tdiv X 64 ≤ X := by
     rw [Int.tdiv_eq_ediv_of_nonneg hX0]; omega
    rw [P1 (n := Int.tdiv X 64) (by omega) (by omega)]
    have hx := P246 (x := X) (y := Int.tdiv X 64) hX0 (by omega) d1.1 (by omega)
    have ht := P99 (n := n) hx (by omega)
    exact ⟨_, rfl, ht.1, fun _ => ht.2, fun x => absurd x hn⟩
theorem P166 {n : Int} (h : (Lit.int .u8 n).wf = true) : 0 ≤ n ∧ n ≤ 255 := by
 simpa [Lit.wf, IntKind.min, IntKind.max, IntKind.signed, IntKind.bits] using h
theorem P247 {l : List Int} (h : ∀ x ∈ l, (Lit.int .u8 x).wf = true) : ∃ s, F93.f l = some (s, 0) ∧ P42 s := by
 unfold F93.f
 by_cases hl : (l.length : Int) > 2000
 ·rw [if_pos hl, if_pos (by omega)]
  exact ⟨_, rfl, by rw [List.length_take]; omega, fun x hx => P166 (h x (List.mem_of_mem_take hx))⟩
 ·rw [if_neg hl]
  exact ⟨_, rfl, by omega, fun x hx => P166 (h x hx)⟩
theorem P77 {s : List Int} {p : Int} (n : Int) {k : Nat} (hs : P42 s) (hp : 0 ≤ p) (hp' : p ≤ 1000000) (hk : 1 ≤ k) :
  ∃ v q, F28.f k s p n = some (v, q) ∧ p ≤ q ∧ q ≤ p + 1 := by
 unfold F28.f
 by_cases h : n > 0
 ·rw [if_pos h]
  obtain ⟨v, hv, _⟩ := P23 n hs hp hp' hk
  rw [hv]; simp only [Option.bind_some]
  exact ⟨_, _, rfl, by omega, by omega⟩
 ·rw [if_neg h]; exact ⟨_, _, rfl, by omega, by omega⟩
def P0 (a b : Int) : Prop := (-1000000 ≤ a ∧ a ≤ 1000000) ∧ (0 ≤ b ∧ b ≤ 1000000) ∧ Int.gcd a b = 1 ∧ (b = 0 → a = 1)
instance (a b : Int) : Decidable (P0 a b) := by unfold P0; infer_instance
def P46 (a b : Int) : Int × Int := if b < 0 ∨ (b = 0 ∧ a < 0) then (Int.tdiv a (-(Int.gcd a b : Int)), Int.tdiv b (-(Int.gcd a b : Int))) else (Int.tdiv a (Int.gcd a b : Int), Int.tdiv b (Int.gcd a b : Int))
theorem P81 {a b : Int} (h : ¬ (a = 0 ∧ b = 0)) : Int.gcd a b ≠ 0 := by
 intro x; rw [Int.gcd_eq_zero_iff] at x; exact h x
theorem P33 {a g : Int} (h : a.natAbs ≤ 9223372036854775807) : wrap64 (Int.tdiv a g) = Int.tdiv a g := by
 have := Nat.div_le_self a.natAbs g.natAbs
 have e : (Int.tdiv a g).natAbs = a.natAbs / g.natAbs := Int.natAbs_tdiv a g
 rw [← e] at this
 exact P1 (by omega) (by omega)
theorem P167 {a b : Int} (h : ¬ (a = 0 ∧ b = 0)) : (Int.gcd a b) ≤ a.natAbs + b.natAbs := by
 by_cases ha : a = 0
 ·subst ha; rw [Int.gcd_zero_left]; omega
 ·have := Int.gcd_le_natAbs_left (b := b) ha; omega
def P82 (a b : Int) : Prop := (-1000000 ≤ a ∧ a ≤ 1000000) ∧ (-1000000 ≤ b ∧ b ≤ 1000000) ∧ ¬ (a = 0 ∧ b = 0)
instance (a b : Int) : Decidable (P82 a b) := by unfold P82; infer_instance
def P50 (a b : Int) : Int × Int × Bool := if P82 a b then ((P46 a b).1, (P46 a b).2, true) else (0, 0, false)
theorem P248 (n : Nat) : ∀ (a b : Int), b.natAbs ≤ n → 0 ≤ a → 0 ≤ b → ∀ k, n < k → F14.l0 k a b = some (Int.gcd a b : Int) := by
 induction n with
 | zero =>
  intro a b hb ha _ k hk
  obtain ⟨k, rfl⟩ : ∃ m, k = m + 1 := ⟨k - 1, by omega⟩
  obtain rfl : b = 0 := by omega
  simp only [F14.l0]
  rw [if_neg (by omega), Int.gcd_zero_right]
  congr 1; omega
 | succ n ih =>
  intro a b hb ha hb' k hk
  obtain ⟨k, rfl⟩ : ∃ m, k = m + 1 := ⟨k - 1, by omega⟩
  simp only [F14.l0]
  by_cases h : b = 0
  ·subst h; rw [if_neg (by omega), Int.gcd_zero_right]; congr 1; omega
  ·have := P164 a h
   rw [if_pos (by omega), if_neg h, ih b (Int.tmod a b) (by omega) hb' (Int.tmod_nonneg _ ha) k (by omega), P165]
theorem P100 {a b : Int} {k : Nat} (ha : a.natAbs ≤ 9223372036854775807) (hb : b.natAbs ≤ 9223372036854775807) (hk : b.natAbs < k) : F14.f k a b = some (Int.gcd a b : Int) := by
 unfold F14.f
 rw [P70 (by omega) (by omega), P70 (by omega) (by omega), P248 b.natAbs _ _ (by omega) (by omega) (by omega) k hk]
 rfl
theorem P47 (a b c : Int) : F2.f a b c = some (decide (b ≤ a ∧ a ≤ c)) := by
 unfold F2.f
 by_cases h : b ≤ a
 ·rw [if_pos h]; exact P35 ⟨fun x => ⟨h, x⟩, fun x => x.2⟩
 ·rw [if_neg h]; exact (P22 (fun x => h x.1)).symm
theorem P101 (a b : Int) {k : Nat} (hk : 1000002 ≤ k) : F6.f k a b = some (P50 a b) := by
 obtain ⟨k, rfl⟩ : ∃ m, k = m + 1 := ⟨k - 1, by omega⟩
 unfold F6.f
 simp only [P47, Option.bind_some, decide_eq_true_eq]
 unfold P50
 by_cases h : P82 a b
 ·rw [if_pos h.1, if_pos h.2.1, if_pos h]
  have e : (if a = 0 then F6.j0 (k + 1) a b (b == 0) else F6.j0 (k + 1) a b false) = F6.j0 (k + 1) a b false := by
   by_cases h3 : a = 0
   ·rw [if_pos h3, show (b == 0) = false from by simp; exact fun x => h.2.2 ⟨h3, x⟩]
   ·rw [if_neg h3]
  rw [e]
  have h1 := h.1
  have h2 := h.2.1
  simp only [F6.j0]
  rw [if_neg (by decide), P100 (by omega) (by omega) (by omega)]; simp only [Option.bind_some]
  have hg := P81 h.2.2
  have hl := P167 h.2.2
  rw [P1 (n := -((Int.gcd a b : Nat) : Int)) (by omega) (by omega)]
  unfold P46
  by_cases h1 : b < 0
  ·rw [if_pos h1, if_neg (by omega), if_pos (.inl h1), P33 (by omega), P33 (by omega)]
  ·rw [if_neg h1]
   by_cases h2 : b = 0
   ·rw [if_pos h2]
    by_cases h3 : a < 0
    ·rw [if_pos h3, if_neg (by omega), if_pos (.inr ⟨h2, h3⟩), P33 (by omega), P33 (by omega)]
    ·rw [if_neg h3, if_neg (by omega), if_neg (by omega), P33 (by omega), P33 (by omega)]
   ·rw [if_neg h2, if_neg (by omega), if_neg (by omega), P33 (by omega), P33 (by omega)]
 ·rw [if_neg h]
  have e : F6.j0 (k + 1) a b true = some (0, 0, false) := by simp only [F6.j0]; rw [if_pos trivial]
  by_cases h1 : -1000000 ≤ a ∧ a ≤ 1000000
  ·rw [if_pos h1]
   by_cases h2 : -1000000 ≤ b ∧ b ≤ 1000000
   ·rw [if_pos h2]
    have h3 : a = 0 ∧ b = 0 := by
     by_cases x : a = 0 ∧ b = 0
     ·exact x
     ·exact absurd ⟨h1, h2, x⟩ h
    rw [if_pos h3.1, h3.2]
    rw [h3.2] at e
    exact e
   ·rw [if_neg h2, e]
  ·rw [if_neg h1, e]
theorem P249 (a b : Int) : (P50 a b).1.natAbs ≤ 1000000 ∧ (P50 a b).2.1.natAbs ≤ 1000000 := by
 unfold P50
 by_cases h : P82 a b
 ·rw [if_pos h]
  have h1 := h.1
  have h2 := h.2.1
  have key : ∀ (x g : Int), x.natAbs ≤ 1000000 → (Int.tdiv x g).natAbs ≤ 1000000 := by
   intro x g hx
   have := Nat.div_le_self x.natAbs g.natAbs
   have e : (Int.tdiv x g).natAbs = x.natAbs / g.natAbs := Int.natAbs_tdiv x g
   omega
  unfold P46
  split
  ·exact ⟨key _ _ (by omega), key _ _ (by omega)⟩
  ·exact ⟨key _ _ (by omega), key _ _ (by omega)⟩
 ·rw [if_neg h]; simp
def P102 (a b : Int) : Prop := a.natAbs ≤ 1000001 ∧ b.natAbs ≤ 1000001
theorem P168 {s : List Int} {p : Int} (n : Int) {k : Nat} (hs : P42 s) (hp : 0 ≤ p) (hp' : p ≤ 900000) (hk : 1000003 ≤ k) :
  ∃ a b q, F48.f k s p n = some (a, b, q) ∧ P102 a b ∧ p ≤ q ∧ q ≤ p + 6 := by
 obtain ⟨k, rfl⟩ : ∃ m, k = m + 1 := ⟨k - 1, by omega⟩
 unfold F48.f
 simp only [Option.bind_some]
 obtain ⟨v, hv, v0, v1, _⟩ := P23 (k := k + 1) 4 hs hp (by omega) (by omega)
 have v1 := v1 (by omega)
 rw [hv]; simp only [Option.bind_some]
 rw [if_pos v0, if_pos (by simpa using v1)]
 have hm : 4 ≤ rd ([4, 10, 50, 1000] : List Int) v ∧ rd ([4, 10, 50, 1000] : List Int) v ≤ 1000 := by
  obtain ⟨m, rfl⟩ := Int.eq_ofNat_of_zero_le v0
  have : m = 0 ∨ m = 1 ∨ m = 2 ∨ m = 3 := by omega
  rcases this with rfl | rfl | rfl | rfl <;> decide
 generalize rd ([4, 10, 50, 1000] : List Int) v = m at *
 obtain ⟨x, hx, x0, x1, _⟩ := P23 (k := k + 1) (p := p + 1) m hs (by omega) (by omega) (by omega)
 rw [hx]; simp only [Option.bind_some]
 obtain ⟨y, hy, y0, y1, _⟩ := P23 (k := k + 1) (p := p + 1 + 1) m hs (by omega) (by omega) (by omega)
 rw [hy]; simp only [Option.bind_some]
 obtain ⟨z, hz, z0, z1, _⟩ := P23 (k := k + 1) (p := p + 1 + 1 + 1) m hs (by omega) (by omega) (by omega)
 rw [hz]; simp only [Option.bind_some]
 rw [P101 _ _ (by omega)]; simp only [Option.bind_some]
 have hj : ∀ a b, P102 a b → ∃ a' b' q, F48.j0 (k + 1) n s (p + 1 + 1 + 1 + 1) a b = some (a', b', q) ∧ P102 a' b' ∧ p ≤ q ∧ q ≤ p + 6 := by
  intro a b hab
  simp only [F48.j0]
  obtain ⟨o, q, ho, q0, q1⟩ := P77 (k := k) (p := p + 1 + 1 + 1 + 1) n hs (by omega) (by omega) (by omega)
  rw [ho]; simp only [Option.bind_some]
  by_cases hc : o = true
  ·rw [if_pos hc]
   obtain ⟨w, hw, w0, w1, _⟩ := P23 (k := k) (p := q) 5 hs (by omega) (by omega) (by omega)
   have w1 := w1 (by omega)
   rw [hw]; simp only [Option.bind_some]
   rw [if_pos w0, if_pos (by simpa using w1)]
   refine ⟨_, _, _, rfl, ?_, by omega, by omega⟩
   obtain ⟨m, rfl⟩ := Int.eq_ofNat_of_zero_le w0
   have : m = 0 ∨ m = 1 ∨ m = 2 ∨ m = 3 ∨ m = 4 := by omega
   rcases this with rfl | rfl | rfl | rfl | rfl <;> (unfold P102; decide)
  ·rw [if_neg hc]; exact ⟨_, _, _, rfl, hab, by omega, by omega⟩
 have hb := P249 (wrap64 (x - y)) z
 split
 ·exact hj _ _ ⟨by omega, by omega⟩
 ·exact hj _ _ ⟨by omega, by omega⟩
theorem P250 {s : List Int} {p : Int} {k : Nat} (hs : P42 s) (hp : 0 ≤ p) (hp' : p ≤ 800000) (hk : 2000000 ≤ k) :
  ∃ a b q, F87.f k s p = some (a, b, q) ∧ p ≤ q ∧ q ≤ p + 100 := by
 unfold F87.f
 obtain ⟨o, q, ho, r0, r1⟩ := P77 (k := k) (p := p) 9 hs (by omega) (by omega) (by omega)
 rw [ho]; simp only [Option.bind_some]
 split
 ·obtain ⟨a, b, q', hf, hd, q0, q1⟩ := P168 (k := k) (p := q) 3 hs (by omega) (by omega) (by omega)
  rw [hf]; simp only [Option.bind_some]
  exact ⟨a, b, q', rfl, by omega, by omega⟩
 ·obtain ⟨w1, f1, _⟩ := P23 (k := k) (p := q) 13 hs (by omega) (by omega) (by omega)
  rw [f1]; simp only [Option.bind_some]
  obtain ⟨w2, f2, _⟩ := P23 (k := k) (p := q + 1) 13 hs (by omega) (by omega) (by omega)
  rw [f2]; simp only [Option.bind_some]
  obtain ⟨w3, f3, _⟩ := P23 (k := k) (p := q + 1 + 1) 13 hs (by omega) (by omega) (by omega)
  rw [f3]; simp only [Option.bind_some]
  rw [P101 _ _ (by omega)]; simp only [Option.bind_some]
  split
  ·exact ⟨_, _, _, rfl, by omega, by omega⟩
  ·exact ⟨_, _, _, rfl, by omega, by omega⟩
theorem P103 {L : List ByteArray} {B : Nat} (h : ∀ b ∈ L, b.size ≤ B) (i : Int) : (rdOf ByteArray.empty L i).size ≤ B := by
 unfold rdOf
 by_cases hi : i.toNat < L.length
 ·have e : L.getD i.toNat ByteArray.empty = L[i.toNat] := by simp [hi]
  rw [e]; exact h _ (List.getElem_mem hi)
 ·have e : L.getD i.toNat ByteArray.empty = ByteArray.empty := by simp; rw [List.getElem?_eq_none (by omega)]; rfl
  rw [e]; exact Nat.zero_le _
theorem P251 {s : List Int} (hs : P42 s) (x2 : Int) (n : Nat) : ∀ (out : ByteArray) (p : Int) (k : Nat), 0 ≤ p → p + 3 * n ≤ 900000 → out.size + 3 * n ≤ 1000000 → n + 10 < k →
  ∃ d q, F52.l0 k x2 out (n : Int) s p = some (d, q) ∧ d.size ≤ out.size + n + 41 ∧ p ≤ q ∧ q ≤ p + n + 2 := by
 induction n with
 | zero =>
  intro out p k hp hp' ho hk
  obtain ⟨k, rfl⟩ : ∃ m, k = m + 1 := ⟨k - 1, by omega⟩
  simp only [F52.l0]
  rw [if_neg (by omega)]
  obtain ⟨o, q, h1, q0, q1⟩ := P77 (k := k) (p := p) x2 hs (by omega) (by omega) (by omega)
  rw [h1]; simp only [Option.bind_some]
  split
  ·obtain ⟨w, hw, w0, w1, _⟩ := P23 (k := k) (p := q) 3 hs (by omega) (by omega) (by omega)
   have w1 := w1 (by omega)
   rw [hw]; simp only [Option.bind_some]
   have key : ∀ L : List ByteArray, w < (L.length : Int) → (∀ b ∈ L, b.size ≤ 41) → ∃ d q', (if 0 ≤ w then (if w < (L.length : Int) then (if out.size + (rdOf ByteArray.empty L w).size ≤ 9223372036854775807 then (some (out ++ (rdOf ByteArray.empty L w), q + 1)) else (none)) else (none)) else (none)) = some (d, q') ∧ d.size ≤ out.size + 0 + 41 ∧ p ≤ q' ∧ q' ≤ p + (0 : Nat) + 2 := by
    intro L h1 h2
    have hm := P103 h2 w
    rw [if_pos w0, if_pos h1, if_pos (by omega)]
    exact ⟨_, _, rfl, by rw [ByteArray.size_append]; omega, by omega, by omega⟩
   exact key _ (by simpa using w1) (by decide)
  ·exact ⟨_, _, rfl, by omega, by omega, by omega⟩
 | succ n ih =>
  intro out p k hp hp' ho hk
  obtain ⟨k, rfl⟩ : ∃ m, k = m + 1 := ⟨k - 1, by omega⟩
  simp only [F52.l0, Option.bind_some]
  rw [if_pos (by omega)]
  obtain ⟨w, hw, w0, w1, _⟩ := P23 (k := k) (p := p) 6 hs (by omega) (by omega) (by omega)
  have w1 := w1 (by omega)
  rw [hw]; simp only [Option.bind_some]
  rw [if_pos w0, if_pos (by simpa using w1)]
  have hm := P103 (B := 1) (L := [(⟨#[84]⟩ : ByteArray), (⟨#[84]⟩ : ByteArray), (⟨#[82]⟩ : ByteArray), (⟨#[116]⟩ : ByteArray), (⟨#[82]⟩ : ByteArray), (⟨#[84]⟩ : ByteArray)]) (by decide) w
  rw [if_pos (by omega), P1 (by omega) (by omega), show ((n + 1 : Nat) : Int) - 1 = (n : Int) by omega]
  obtain ⟨d, q, e, d1, q0, q1⟩ := ih (out ++ rdOf ByteArray.empty [(⟨#[84]⟩ : ByteArray), (⟨#[84]⟩ : ByteArray), (⟨#[82]⟩ : ByteArray), (⟨#[116]⟩ : ByteArray), (⟨#[82]⟩ : ByteArray), (⟨#[84]⟩ : ByteArray)] w) (p + 1) k (by omega) (by omega) (by rw [ByteArray.size_append]; omega) (by omega)
  rw [ByteArray.size_append] at d1
  exact ⟨d, q, e, by omega, by omega, by omega⟩
theorem P252 {s : List Int} {p : Int} (most n : Int) {k : Nat} (hs : P42 s) (hp : 0 ≤ p) (hp' : p ≤ 800000) (hm : 0 ≤ most) (hm' : most ≤ 100) (hk : 1000 ≤ k) :
  ∃ d q, F52.f k s p most n = some (d, q) ∧ d.size ≤ 200 ∧ p ≤ q ∧ q ≤ p + 120 := by
 unfold F52.f
 rw [P1 (n := most + 1) (by omega) (by omega)]
 obtain ⟨w, hw, w0, w1, _⟩ := P23 (k := k) (p := p) (most + 1) hs (by omega) (by omega) (by omega)
 have w1 := w1 (by omega)
 rw [hw]; simp only [Option.bind_some]
 obtain ⟨w, rfl⟩ := Int.eq_ofNat_of_zero_le w0
 obtain ⟨d, q, e, d1, q0, q1⟩ := P251 hs n w (⟨#[]⟩ : ByteArray) (p + 1) k (by omega) (by omega) (by show 0 + 3 * w ≤ 1000000; omega) (by omega)
 have : (⟨#[]⟩ : ByteArray).size = 0 := rfl
 exact ⟨d, q, e, by omega, by omega, by omega⟩
theorem P78 {s : ByteArray} {i : Nat} (h : i < s.size) : ∃ c : UInt8, s.data.toList.drop i = c :: s.data.toList.drop (i + 1) ∧ bt s (i : Int) = ((c.toNat : Nat) : Int) := by
 have hl : i < s.data.toList.length := by simpa using h
 refine ⟨s.data.toList[i], List.drop_eq_getElem_cons hl, ?_⟩
 unfold bt
 rw [dif_pos (by simpa using h)]
 simp
 rfl
theorem P83 {s : ByteArray} {i : Nat} (h : s.size ≤ i) : s.data.toList.drop i = [] := List.drop_of_length_le (by simpa using h)
theorem P61 {c : UInt8} {n : Nat} (hn : n < 256) : ((c.toNat : Nat) : Int) = (n : Int) ↔ c = UInt8.ofNat n := by
 constructor
 ·intro h
  apply UInt8.toNat_inj.1
  rw [UInt8.toNat_ofNat']
  omega
 ·intro h
  subst h
  rw [UInt8.toNat_ofNat']
  omega
def P17 (c : UInt8) : Prop := 48 ≤ c.toNat ∧ c.toNat ≤ 57
instance (c : UInt8) : Decidable (P17 c) := by unfold P17; infer_instance
theorem P71 {n : Nat} (h : n < 10) : P17 (UInt8.ofNat (48 + n)) ∧ (UInt8.ofNat (48 + n)).toNat = 48 + n := by
 have : (UInt8.ofNat (48 + n)).toNat = 48 + n := by rw [UInt8.toNat_ofNat']; omega
 exact ⟨by unfold P17; omega, this⟩
theorem P51 {u : Nat} (h : u < 10) : Go.Lib.decDigits u = [UInt8.ofNat (48 + u)] := by rw [Go.Lib.decDigits, dif_pos h]
theorem P72 {u : Nat} (h : ¬ u < 10) : Go.Lib.decDigits u = Go.Lib.decDigits (u / 10) ++ [UInt8.ofNat (48 + u % 10)] := by rw [Go.Lib.decDigits, dif_neg h]
theorem P253 (n : Nat) : ∀ u, u < n → ∀ c ∈ Go.Lib.decDigits u, P17 c := by
 induction n with
 | zero => intro u hu; omega
 | succ n ih =>
  intro u hu c hc
  by_cases h : u < 10
  ·rw [P51 h] at hc
   simp only [List.mem_singleton] at hc
   subst hc; exact (P71 h).1
  ·rw [P72 h] at hc
   rcases List.mem_append.1 hc with h1 | h1
   ·exact ih (u / 10) (by omega) c h1
   ·simp only [List.mem_singleton] at h1
    subst h1; exact (P71 (Nat.mod_lt _ (by omega))).1
theorem P73 (u : Nat) : ∀ c ∈ Go.Lib.decDigits u, P17 c := P253 (u + 1) u (by omega)
theorem P104 (n : Nat) : ∀ u, u < 10 ^ (n + 1) → (Go.Lib.decDigits u).length ≤ n + 1 := by
 induction n with
 | zero => intro u hu; rw [P51 (by omega)]; simp
 | succ n ih =>
  intro u hu
  by_cases h : u < 10
  ·rw [P51 h]; simp
  ·rw [P72 h]
   have := ih (u / 10) (by rw [Nat.pow_succ] at hu; omega)
   simp; omega
theorem P169 (u : Nat) : 1 ≤ (Go.Lib.decDigits u).length := by
 by_cases h : u < 10
 ·rw [P51 h]; simp
 ·rw [P72 h]; simp
def P18 (a : Nat) (l : List UInt8) : Nat := l.foldl (fun a c => 10 * a + (c.toNat - 48)) a
theorem P170 (a : Nat) (l m : List UInt8) : P18 a (l ++ m) = P18 (P18 a l) m := by unfold P18; rw [List.foldl_append]
theorem P254 (n : Nat) : ∀ u, u < n → P18 0 (Go.Lib.decDigits u) = u := by
 induction n with
 | zero => intro u hu; omega
 | succ n ih =>
  intro u hu
  by_cases h : u < 10
  ·rw [P51 h]; show 10 * 0 + ((UInt8.ofNat (48 + u)).toNat - 48) = u; rw [(P71 h).2]; omega
  ·rw [P72 h, P170, ih (u / 10) (by omega)]
   show 10 * (u / 10) + ((UInt8.ofNat (48 + u % 10)).toNat - 48) = u
   rw [(P71 (Nat.mod_lt _ (by omega))).2]; omega
theorem P105 (u : Nat) : P18 0 (Go.Lib.decDigits u) = u := P254 (u + 1) u (by omega)
theorem P255 (n : Nat) : ∀ u, u < n → 1 ≤ u → ∃ c r, Go.Lib.decDigits u = c :: r ∧ c.toNat ≠ 48 := by
 induction n with
 | zero => intro u hu; omega
 | succ n ih =>
  intro u hu h1
  by_cases h : u < 10
  ·rw [P51 h]; exact ⟨_, [], rfl, by rw [(P71 h).2]; omega⟩
  ·obtain ⟨c, r, e, hc⟩ := ih (u / 10) (by omega) (by omega)
   rw [P72 h, e]; exact ⟨c, _, rfl, hc⟩
theorem P120 (u : Nat) : ∃ c r, Go.Lib.decDigits u = c :: r ∧ P17 c ∧ (1 ≤ u → c.toNat ≠ 48) ∧ (u < 10 → r = []) := by
 by_cases h : u < 10
 ·rw [P51 h]; exact ⟨_, [], rfl, (P71 h).1, fun h1 => by rw [(P71 h).2]; omega, fun _ => rfl⟩
 ·obtain ⟨c, r, e, hc⟩ := P255 (u + 1) u (by omega) (by omega)
  exact ⟨c, r, e, P73 u c (by rw [e]; simp), fun _ => hc, fun x => absurd x h⟩
def P24 : Int → List UInt8 → Int × Bool
 | a, [] => (a, true)
 | a, c :: r => if P17 c then P24 (10 * a + ((c.toNat : Int) - 48)) r else (0, false)
theorem P256 (l : List UInt8) (h : ∀ c ∈ l, P17 c) : ∀ a : Nat, P24 (a : Int) l = (((P18 a l : Nat) : Int), true) := by
 induction l with
 | nil => intro a; rfl
 | cons c r ih =>
  intro a
  have hc := h c (by simp)
  simp only [P24]
  rw [if_pos hc]
  have hc' := hc
  unfold P17 at hc'
  rw [show 10 * (a : Int) + ((c.toNat : Int) - 48) = ((10 * a + (c.toNat - 48) : Nat) : Int) by omega, ih (fun c hc => h c (by simp [hc]))]
  rfl
def P21 (l : List UInt8) : Int × Bool := if (1 ≤ l.length ∧ l.length ≤ 7) ∧ ¬ (1 < l.length ∧ l.head? = some 48) then P24 0 l else (0, false)
def P4 : List UInt8 → Int × Bool
 | [] => P21 []
 | [c] => P21 [c]
 | c :: d :: r => if c = 45 then (-(P4 (d :: r)).1, (P4 (d :: r)).2 && decide ((P4 (d :: r)).1 > 0)) else P21 (c :: d :: r)
theorem P171 {u : Nat} (h : u < 10000000) : P21 (Go.Lib.decDigits u) = ((u : Int), true) := by
 unfold P21
 have h1 := P169 u
 have h2 := P104 6 u (by omega)
 obtain ⟨c, r, e, hc, hz, hr⟩ := P120 u
 have no : ¬ (1 < (Go.Lib.decDigits u).length ∧ (Go.Lib.decDigits u).head? = some 48) := by
  rintro ⟨hl, hh⟩
  rw [e] at hl hh
  simp only [List.head?_cons, Option.some.injEq] at hh
  by_cases hu : u < 10
  ·rw [hr hu] at hl; simp at hl
  ·exact hz (by omega) (by rw [hh]; rfl)
 rw [if_pos ⟨⟨h1, by omega⟩, no⟩]
 have := P256 _ (P73 u) 0
 rw [P105] at this
 exact this
theorem P172 {l : List UInt8} (h : ∀ c ∈ l, P17 c) : P4 l = P21 l := by
 match l, h with
 | [], _ => rfl
 | [c], _ => rfl
 | c :: d :: r, h =>
  simp only [P4]
  rw [if_neg]
  intro x
  have := (h c (by simp)).1
  rw [x] at this
  exact absurd this (by decide)
theorem P67 {n : Int} (h : n.natAbs < 10000000) : P4 (Go.Lib.itoa n) = (n, true) := by
 unfold Go.Lib.itoa
 by_cases hn : n < 0
 ·rw [if_pos hn]
  obtain ⟨c, r, e, _⟩ := P120 n.natAbs
  have h1 := P172 (P73 n.natAbs)
  rw [P171 h] at h1
  rw [e] at h1 ⊢
  simp only [P4]
  rw [if_pos trivial, h1]
  simp only [Prod.mk.injEq, Bool.true_and, decide_eq_true_eq]
  omega
 ·rw [if_neg hn, P172 (P73 _), P171 (by omega)]
  simp only [Prod.mk.injEq, and_true]
  omega
theorem P121 {n : Int} {c : UInt8} (h : c ∈ Go.Lib.itoa n) : c = 45 ∨ P17 c := by
 unfold Go.Lib.itoa at h
 split at h
 ·rcases List.mem_cons.1 h with h1 | h1
  ·exact .inl h1
  ·exact .inr (P73 _ c h1)
 ·exact .inr (P73 _ c h)
theorem P36 {n : Int} (h : n.natAbs < 10000000) : (Go.Lib.itoa n).length ≤ 8 := by
 unfold Go.Lib.itoa
 have h2 := P104 6 n.natAbs (by omega)
 split
 ·simp; omega
 ·rw [show n.toNat = n.natAbs by omega]; omega
def P10 (a b m : Int) : Prop := P0 a b ∧ (-m ≤ a ∧ a ≤ m) ∧ b ≤ m
instance (a b m : Int) : Decidable (P10 a b m) := by unfold P10; infer_instance
theorem P122 {a b : Int} {m n : Nat} (h : a.natAbs ≤ m) (h' : b.natAbs ≤ n) : (a * b).natAbs ≤ m * n := by
 rw [Int.natAbs_mul]; exact Nat.mul_le_mul h h'
def ba (l : List UInt8) : ByteArray := ⟨⟨l⟩⟩
theorem P52 (l : List UInt8) : (ba l).data.toList = l := rfl
theorem P74 (l : List UInt8) : (ba l).toList = l := by rw [ByteArray.toList_eq]; rfl
theorem P7 (l : List UInt8) : (ba l).size = l.length := rfl
theorem P19 (l m : List UInt8) : ba l ++ ba m = ba (l ++ m) := by
 apply ByteArray.ext
 rw [ByteArray.data_append]
 simp [ba]
theorem P123 (s : ByteArray) (a e : Nat) : s.extract a e = ba ((s.data.toList.drop a).take (e - a)) := by
 apply ByteArray.ext
 apply Array.toList_inj.1
 simp [ba, List.drop_take]
def P9 (a b : Int) : List UInt8 := if b = 1 then Go.Lib.itoa a else Go.Lib.itoa a ++ 47 :: Go.Lib.itoa b
def P2 (c : UInt8) : List UInt8 → List UInt8 → List (List UInt8)
 | cur, [] => [cur]
 | cur, x :: r => if x = c then cur :: P2 c [] r else P2 c (cur ++ [x]) r
theorem P59 {c : UInt8} : ∀ (l cur : List UInt8), (∀ x ∈ l, x ≠ c) → P2 c cur l = [cur ++ l]
 | [], cur, _ => by simp [P2]
 | x :: r, cur, h => by
  simp only [P2]
  rw [if_neg (h x (by simp)), P59 r (cur ++ [x]) (fun y hy => h y (by simp [hy]))]
  simp
theorem P62 {c : UInt8} : ∀ (l cur m : List UInt8), (∀ x ∈ l, x ≠ c) → P2 c cur (l ++ c :: m) = (cur ++ l) :: P2 c [] m
 | [], cur, m, _ => by simp [P2]
 | x :: r, cur, m, h => by
  simp only [List.cons_append, P2]
  rw [if_neg (h x (by simp)), P62 r (cur ++ [x]) m (fun y hy => h y (by simp [hy]))]
  simp
theorem P124 (c : UInt8) : ∀ (l cur : List UInt8), ∃ x r, P2 c cur l = x :: r
 | [], cur => ⟨_, _, rfl⟩
 | y :: r, cur => by
  simp only [P2]
  split
  ·exact ⟨_, _, rfl⟩
  ·exact P124 c r _
theorem P84 (n : Int) : ∀ x ∈ Go.Lib.itoa n, x ≠ 47 := by
 intro x hx h
 rcases P121 hx with h1 | h1
 ·rw [h] at h1; exact absurd h1 (by decide)
 ·rw [h] at h1; exact absurd h1 (by decide)
def P28 : List (List UInt8) → Int × Int × Bool
 | [x] => ((P4 x).1, 1, (P4 x).2)
 | [x, y] => ((P4 x).1, (P4 y).1, (P4 x).2 && (P4 y).2)
 | _ => (0, 0, false)
def P25 (l : List UInt8) : Int × Int × Bool :=
 if (P28 (P2 47 [] l)).2.2 = true ∧ P0 (P28 (P2 47 [] l)).1 (P28 (P2 47 [] l)).2.1 ∧ P9 (P28 (P2 47 [] l)).1 (P28 (P2 47 [] l)).2.1 = l then
  ((P28 (P2 47 [] l)).1, (P28 (P2 47 [] l)).2.1, true) else (0, 0, false)
theorem P85 {a b : Int} (h : P0 a b) : a.natAbs < 10000000 ∧ b.natAbs < 10000000 := by
 have h1 := h.1
 have h2 := h.2.1
 omega
theorem P257 {a b : Int} (h : P0 a b) : P28 (P2 47 [] (P9 a b)) = (a, b, true) := by
 have hb := P85 h
 unfold P9
 split
 ·next hb1 =>
  rw [P59 _ _ (P84 a), List.nil_append]
  simp only [P28]
  rw [P67 hb.1, hb1]
 ·rw [P62 _ _ _ (P84 a), P59 _ _ (P84 b)]
  simp only [List.nil_append, P28]
  rw [P67 hb.1, P67 hb.2]; rfl
theorem P125 (l : List UInt8) : (∃ a b, P0 a b ∧ P9 a b = l ∧ P25 l = (a, b, true)) ∨ ((∀ a b, P0 a b → P9 a b ≠ l) ∧ P25 l = (0, 0, false)) := by
 by_cases h : (P28 (P2 47 [] l)).2.2 = true ∧ P0 (P28 (P2 47 [] l)).1 (P28 (P2 47 [] l)).2.1 ∧ P9 (P28 (P2 47 [] l)).1 (P28 (P2 47 [] l)).2.1 = l
 ·left
  exact ⟨_, _, h.2.1, h.2.2, by unfold P25; rw [if_pos h]⟩
 ·right
  refine ⟨?_, by unfold P25; rw [if_neg h]⟩
  intro a b hf he
  subst he
  rw [P257 hf] at h
  exact h ⟨rfl, hf, rfl⟩
theorem P173 {a b : Int} (h : P0 a b) : (P9 a b).length ≤ 17 := by
 have hb := P85 h
 have h1 := P36 hb.1
 have h2 := P36 hb.2
 unfold P9
 split
 ·omega
 ·simp; omega
theorem P126 {n : Nat} (h : n < 10) : strOfNums [(48 + (n : Int)) % 256] = ba [UInt8.ofNat (48 + n)] := by
 have : n = 0 ∨ n = 1 ∨ n = 2 ∨ n = 3 ∨ n = 4 ∨ n = 5 ∨ n = 6 ∨ n = 7 ∨ n = 8 ∨ n = 9 := by omega
 rcases this with rfl | rfl | rfl | rfl | rfl | rfl | rfl | rfl | rfl | rfl <;> rfl
theorem P174 (n : Nat) : ∀ u k : Nat, u < 10 ^ (n + 1) → n ≤ 10 → 2 * n + 2 ≤ k → F4.f k (u : Int) = some (ba (Go.Lib.decDigits u)) := by
 induction n with
 | zero =>
  intro u k hu _ hk
  obtain ⟨k, rfl⟩ : ∃ q, k = q + 2 := ⟨k - 2, by omega⟩
  simp only [F4.f, F4.j0]
  rw [if_neg (by omega), if_neg (by decide), if_neg (by omega), if_pos (by omega), P1 (by omega) (by omega), P126 (by omega), P51 (by omega)]
 | succ n ih =>
  intro u k hu hn hk
  obtain ⟨k, rfl⟩ : ∃ q, k = q + 2 := ⟨k - 2, by omega⟩
  have hp : 10 ^ (n + 1 + 1) ≤ 10 ^ 11 := Nat.pow_le_pow_right (by omega) (by omega)
  simp only [F4.f, F4.j0]
  rw [if_neg (by omega), if_neg (by decide), if_neg (by omega)]
  by_cases h : u < 10
  ·rw [if_pos (by omega), P1 (by omega) (by omega), P126 h, P51 h]
  ·have e1 : Int.tdiv (u : Int) 10 = ((u / 10 : Nat) : Int) := rfl
   have e2 : Int.tmod (u : Int) 10 = ((u % 10 : Nat) : Int) := rfl
   have hm : u % 10 < 10 := Nat.mod_lt _ (by omega)
   rw [if_neg (by omega), e1, e2, P1 (n := ((u / 10 : Nat) : Int)) (by omega) (by omega), ih (u / 10) k (by rw [Nat.pow_succ] at hu; omega) (by omega) (by omega)]
   simp only [Option.bind_some]
   rw [P1 (by omega) (by omega), P126 hm]
   have hl := P104 n (u / 10) (by rw [Nat.pow_succ] at hu; omega)
   rw [P7, P7, if_pos (by simp; omega), P19, P72 h]
theorem P86 {n : Int} {k : Nat} (h : n.natAbs < 10000000000) (hk : 40 ≤ k) : F4.f k n = some (ba (Go.Lib.itoa n)) := by
 unfold Go.Lib.itoa
 by_cases hn : n < 0
 ·obtain ⟨k, rfl⟩ : ∃ q, k = q + 2 := ⟨k - 2, by omega⟩
  have hl := P104 9 n.natAbs (by omega)
  rw [if_pos hn]
  simp only [F4.f, F4.j0]
  rw [if_pos hn, P1 (n := -n) (by omega) (by omega)]
  have e : (n == -n) = false := by simpa using (show n ≠ -n by omega)
  rw [e, if_neg (by decide), if_pos hn]
  have := P174 9 n.natAbs k (by omega) (by omega) (by omega)
  rw [show ((n.natAbs : Nat) : Int) = -n by omega] at this
  rw [this]; simp only [Option.bind_some]
  rw [P7, if_pos (by omega)]
  exact congrArg some (P19 [45] _)
 ·rw [if_neg hn]
  have := P174 9 n.natAbs k (by omega) (by omega) (by omega)
  rw [show ((n.natAbs : Nat) : Int) = n by omega] at this
  rw [this, show n.toNat = n.natAbs by omega]
theorem P29 (a b : Int) {k : Nat} (hk : 1000001 ≤ k) : F0.f k a b = some (decide (P0 a b)) := by
 unfold F0.f
 rw [P47]; simp only [Option.bind_some, decide_eq_true_eq]
 by_cases h1 : -1000000 ≤ a ∧ a ≤ 1000000
 ·rw [if_pos h1, P47]; simp only [Option.bind_some, decide_eq_true_eq]
  by_cases h2 : 0 ≤ b ∧ b ≤ 1000000
  ·rw [if_pos h2, P100 (by omega) (by omega) (by omega)]; simp only [Option.bind_some]
   by_cases h3 : Int.gcd a b = 1
   ·rw [if_pos (by omega)]
    by_cases h4 : b > 0
    ·rw [if_pos h4]; exact (P163 ⟨h1, h2, h3, by omega⟩).symm
    ·rw [if_neg h4]
     by_cases h5 : a = 1
     ·rw [(P163 ⟨h1, h2, h3, fun _ => h5⟩ : some (decide (P0 a b)) = _)]; simp [h5]
     ·rw [(P22 (fun x => h5 (x.2.2.2 (by omega))) : some (decide (P0 a b)) = _)]; simp [h5]
   ·rw [if_neg (by omega)]; exact (P22 (fun x => h3 x.2.2.1)).symm
  ·rw [if_neg h2]; exact (P22 (fun x => h2 x.2.1)).symm
 ·rw [if_neg h1]; exact (P22 (fun x => h1 x.1)).symm
def P68 (a b : Int) : List UInt8 := if P0 a b then P9 a b else []
theorem P127 (a b : Int) {k : Nat} (hk : 1000001 ≤ k) : F19.f k a b = some (ba (P68 a b)) := by
 unfold F19.f P68
 rw [P29 _ _ hk]; simp only [Option.bind_some, decide_eq_true_eq]
 by_cases h : P0 a b
 ·have hb := P85 h
  have h1 := P36 hb.1
  have h2 := P36 hb.2
  rw [if_pos h, if_pos h, P86 (by omega) (by omega)]
  unfold P9
  by_cases h3 : b = 1
  ·rw [if_pos h3, if_pos h3]; rfl
  ·rw [if_neg h3, if_neg h3]; simp only [Option.bind_some]
   rw [P7, if_pos (by omega), P86 (by omega) (by omega)]; simp only [Option.bind_some]
   have e : ba (Go.Lib.itoa a) ++ (⟨#[47]⟩ : ByteArray) = ba (Go.Lib.itoa a ++ [47]) := P19 _ [47]
   rw [e, P7, P7, if_pos (by simp; omega), P19]
   simp
 ·rw [if_neg h, if_neg h]; rfl
theorem P258 (a b : Int) : (P68 a b).length ≤ 17 := by
 unfold P68
 split
 ·next h => exact P173 h
 ·simp
theorem P175 {s : List Int} {p : Int} {k : Nat} (hs : P42 s) (hp : 0 ≤ p) (hp' : p ≤ 700000) (hk : 2000003 ≤ k) :
  ∃ d t q, F17.f k s p = some (d, t, q) ∧ t.size ≤ 300 ∧ p ≤ q ∧ q ≤ p + 300 := by
 unfold F17.f
 simp only [Option.bind_some]
 obtain ⟨w1, f1, w0, w2, _⟩ := P23 (k := k) (p := p) 8 hs (by omega) (by omega) (by omega)
 have w2 := w2 (by omega)
 rw [f1]; simp only [Option.bind_some]
 rw [if_pos w0, if_pos (by simpa using w2)]
 obtain ⟨w3, f3, _⟩ := P23 (k := k) (p := p + 1) 60 hs (by omega) (by omega) (by omega)
 rw [f3]; simp only [Option.bind_some]
 have fin : ∀ (q : Int) (d : Int) (t : ByteArray), p ≤ q → q ≤ p + 250 → t.size ≤ 200 → ∃ d' t' q', F17.j0 k s q d t = some (d', t', q') ∧ t'.size ≤ 300 ∧ p ≤ q' ∧ q' ≤ p + 300 := by
  intro q d t h1 h2 h3
  obtain ⟨k, rfl⟩ : ∃ m, k = m + 1 := ⟨k - 1, by omega⟩
  simp only [F17.j0]
  obtain ⟨o, q', ho, r0, r1⟩ := P77 (k := k) (p := q) 40 hs (by omega) (by omega) (by omega)
  rw [ho]; simp only [Option.bind_some]
  split
  ·rw [if_pos (by omega)]
   exact ⟨_, _, _, rfl, by rw [ByteArray.size_append]; show t.size + 1 ≤ 300; omega, by omega, by omega⟩
  ·exact ⟨_, _, _, rfl, by omega, by omega, by omega⟩
 split
 ·obtain ⟨d, q, hf, hd, q0, q1⟩ := P252 (k := k) (p := p + 1 + 1) 6 20 hs (by omega) (by omega) (by omega) (by omega) (by omega)
  rw [hf]; simp only [Option.bind_some]
  exact fin _ _ _ (by omega) (by omega) (by omega)
 ·split
  ·obtain ⟨a, b, q, hf, q0, q1⟩ := P250 (k := k) (p := p + 1 + 1) hs (by omega) (by omega) (by omega)
   rw [hf]; simp only [Option.bind_some]
   rw [P127 _ _ (by omega)]; simp only [Option.bind_some]
   have := P258 a b
   exact fin _ _ _ (by omega) (by omega) (by rw [P7]; omega)
  ·exact fin _ _ _ (by omega) (by omega) (by decide)
def P38 (l : List S31) : Prop := ∀ x ∈ l, P0 x.f0 x.f1
instance (l : List S31) : Decidable (P38 l) := by unfold P38; infer_instance
theorem P87 (x : S31) (l : List S31) : P38 (x :: l) ↔ P0 x.f0 x.f1 ∧ P38 l := by unfold P38; simp
def P12 (a b : Int) (l : List S31) : Prop := P0 a b ∧ l.length ≤ 8 ∧ P38 l
instance (a b : Int) (l : List S31) : Decidable (P12 a b l) := by unfold P12; infer_instance
theorem P128 (l : List S31) (i : Nat) (h : i < l.length) : l.drop i = rd_T31 l (i : Int) :: l.drop (i + 1) := by
 rw [List.drop_eq_getElem_cons h]
 unfold rd_T31
 simp [h]
theorem P176 (a b : Int) : Int.gcd (-a) b = Int.gcd a b := by simp
theorem P177 {a b : Int} (h : Int.gcd a b = 1) : P46 a b = if b < 0 ∨ (b = 0 ∧ a < 0) then (-a, -b) else (a, b) := by
 unfold P46; rw [h]; split <;> simp
def P43 (a b : Int) : Int × Int := if b > 0 then (-a, b) else (a, b)
theorem P259 {a b : Int} (h : P0 a b) : P0 (P43 a b).1 (P43 a b).2 := by
 unfold P43; split
 ·refine ⟨by have := h.1; simp; omega, h.2.1, by simpa using h.2.2.1, fun x => by omega⟩
 ·exact h
theorem P260 {a b : Int} (h : P0 a b) : P50 (-a) b = ((P43 a b).1, (P43 a b).2, true) := by
 have h1 := h.1
 have h2 := h.2.1
 have hg := h.2.2.1
 have hz := h.2.2.2
 unfold P50
 rw [if_pos ⟨by omega, by omega, by omega⟩, P177 (by rw [P176]; exact hg)]
 unfold P43
 by_cases hb : b > 0
 ·rw [if_neg (by omega), if_pos hb]
 ·have : b = 0 := by omega
  have := hz this
  rw [if_pos (by omega), if_neg hb]
  subst this; subst b; rfl
def P37 (a b : Int) : Int × Int := if a ≤ 0 then (b, -a) else (-b, a)
theorem P178 {b : Int} (h : P0 0 b) : b = 1 := by
 have h2 := h.2.1
 have h3 := h.2.2.1
 rw [Int.gcd_zero_left] at h3
 omega
theorem P129 {a b : Int} (h : P0 a b) : P0 (P37 a b).1 (P37 a b).2 := by
 have h1 := h.1
 have h2 := h.2.1
 have h3 := h.2.2.1
 have h4 := h.2.2.2
 unfold P37
 split
 ·refine ⟨by simp only; omega, by simp only; omega, by simp only; rw [Int.gcd_comm]; simpa using h3, ?_⟩
  simp only
  intro x
  obtain rfl : a = 0 := by omega
  exact P178 h
 ·refine ⟨by simp only; omega, by simp only; omega, by simp only; rw [Int.gcd_comm]; simpa using h3, ?_⟩
  simp only
  intro x
  omega
theorem P88 {a b : Int} (h : P0 a b) : P46 (-b) a = P37 a b := by
 have h2 := h.2.1
 have h3 := h.2.2.1
 have h4 := h.2.2.2
 rw [P177 (by rw [P176, Int.gcd_comm]; exact h3)]
 unfold P37
 by_cases h0 : a = 0
 ·subst h0
  have := P178 h
  subst this
  decide
 ·by_cases hn : a ≤ 0
  ·rw [if_pos (by omega), if_pos hn]; simp
  ·rw [if_neg (by omega), if_neg hn]
theorem P261 {a b : Int} (h : P0 a b) : P50 (-b) a = ((P37 a b).1, (P37 a b).2, true) := by
 have h1 := h.1
 have h2 := h.2.1
 have h4 := h.2.2.2
 unfold P50
 rw [if_pos ⟨by omega, by omega, by omega⟩, P88 h]
def P44 (a b n : Int) : Int × Int × Bool := if P0 (a + n * b) b then (a + n * b, b, true) else (0, 0, false)
theorem P179 {a b n : Int} (h : P0 a b) (hn : -1000000 ≤ n ∧ n ≤ 1000000) : wrap64 (a + wrap64 (n * b)) = a + n * b := by
 have h1 := P122 (a := n) (b := b) (m := 1000000) (n := 1000000) (by omega) (by have := h.2.1; omega)
 have h2 := h.1
 rw [P1 (n := n * b) (by omega) (by omega), P1 (by omega) (by omega)]
def unt : Nat → List UInt8 → Int → Int → Option (List UInt8)
 | 0, _, _, _ => none
 | n + 1, t, a, b => if a = 0 then some t else if a < 0 then unt n (t ++ [84]) (a + b) b else unt n (t ++ [82]) (P37 a b).1 (P37 a b).2
def P34 (a b : Int) : Prop := P0 a b ∧ (-12 ≤ a ∧ a ≤ 12) ∧ b ≤ 12
instance (a b : Int) : Decidable (P34 a b) := by unfold P34; infer_instance
theorem P180 {a b : Int} (h : P34 a b) : P34 (P37 a b).1 (P37 a b).2 := by
 have h1 := h.1
 have h2 := h.2
 have h3 := h1.2.1
 refine ⟨P129 h1, ?_⟩
 unfold P37
 split <;> (simp only; omega)
theorem P181 {a b : Int} (h : P34 a b) (ha : a < 0) : P34 (a + b) b := by
 obtain ⟨h1, h2⟩ := h
 have h3 := h1.2.1
 have h4 := h1.2.2.2
 refine ⟨⟨by omega, by omega, ?_, ?_⟩, by omega, by omega⟩
 ·have := h1.2.2.1
  rw [Int.gcd_comm] at this ⊢
  rw [Int.add_comm, show b + a = b * 1 + a by omega, Int.gcd_mul_left_add_right]; exact this
 ·intro hb; have := h4 hb; omega
theorem P130 : ∀ (n : Nat) (t : List UInt8) (a b : Int) (r : List UInt8), unt n t a b = some r → r.length ≤ t.length + n
 | 0, _, _, _, _, h => by simp [unt] at h
 | n + 1, t, a, b, r, h => by
  simp only [unt] at h
  split at h
  ·cases h; omega
  ·split at h
   ·have := P130 n _ _ _ _ h; simp at this; omega
   ·have := P130 n _ _ _ _ h; simp at this; omega
theorem P262 : (List.range 25).all (fun i => (List.range 13).all fun j => !decide (P0 ((i : Int) - 12) (j : Int)) || (unt 100 [] ((i : Int) - 12) (j : Int)).isSome) = true := by decide +kernel
theorem P131 {a b : Int} (h : P34 a b) : ∃ r, unt 100 [] a b = some r := by
 have h1 := h.2
 have h2 := h.1.2.1
 have z := List.all_eq_true.1 (List.all_eq_true.1 P262 (a + 12).toNat (List.mem_range.2 (by omega))) b.toNat (List.mem_range.2 (by omega))
 rw [show (((a + 12).toNat : Nat) : Int) - 12 = a by omega, show ((b.toNat : Nat) : Int) = b by omega, decide_eq_true h.1] at z
 exact Option.isSome_iff_exists.1 (by simpa using z)
def P11 (a b : Int) : List UInt8 × Bool := if P34 a b then ((unt 100 [] a b).getD [], true) else ([], false)
def P79 (c : UInt8) : Prop := c = 84 ∨ c = 116 ∨ c = 82
instance (c : UInt8) : Decidable (P79 c) := by unfold P79; infer_instance
def P39 (l : List UInt8) : Prop := ∀ c ∈ l, P79 c
instance (l : List UInt8) : Decidable (P39 l) := by unfold P39; infer_instance
theorem P263 : P39 [] := by intro c h; simp at h
theorem P132 (c : UInt8) (l : List UInt8) : P39 (c :: l) ↔ P79 c ∧ P39 l := by unfold P39; simp
def P48 (l : List UInt8) : Prop := l.length ≤ 40 ∧ P39 l
instance (l : List UInt8) : Decidable (P48 l) := by unfold P48; infer_instance
def P63 (s : ByteArray) : Prop := P48 s.data.toList
instance (s : ByteArray) : Decidable (P63 s) := by unfold P63; infer_instance
def P53 (f : Int × Int) (m : UInt8) : Option (Int × Int) :=
 if m = 84 then (if P0 (f.1 + f.2) f.2 then some (f.1 + f.2, f.2) else none) else if m = 116 then (if P0 (f.1 - f.2) f.2 then some (f.1 - f.2, f.2) else none) else some (P37 f.1 f.2)
def P45 : List UInt8 → Int × Int → Option (Int × Int)
 | [], f => some f
 | m :: l, f => (P53 f m).bind (P45 l)
theorem P182 {f g : Int × Int} {m : UInt8} (hf : P0 f.1 f.2) (h : P53 f m = some g) : P0 g.1 g.2 := by
 unfold P53 at h
 split at h
 ·split at h
  ·next hh => cases h; exact hh
  ·cases h
 ·split at h
  ·split at h
   ·next hh => cases h; exact hh
   ·cases h
  ·cases h; exact P129 hf
theorem P183 : ∀ {l : List UInt8} {f g : Int × Int}, P0 f.1 f.2 → P45 l f = some g → P0 g.1 g.2
 | [], f, g, hf, h => by cases h; exact hf
 | m :: l, f, g, hf, h => by
  simp only [P45] at h
  cases hm : P53 f m with
  | none => rw [hm] at h; cases h
  | some x => rw [hm] at h; exact P183 (P182 hf hm) h
def P40 : Option (Int × Int) → Int × Int × Bool
 | some g => (g.1, g.2, true)
 | none => (0, 0, false)
def P75 (a b : Int) (l : List UInt8) : Int × Int × Bool := if P48 l ∧ P0 a b then P40 (P45 l (a, b)) else (0, 0, false)
theorem P264 {a b : Int} {l : List UInt8} {x y : Int} (h : P75 a b l = (x, y, true)) : P0 x y := by
 unfold P75 at h
 split at h
 ·next hc =>
  cases hd : P45 l (a, b) with
  | none => rw [hd] at h; simp [P40] at h
  | some g =>
   rw [hd] at h
   simp only [P40, Prod.mk.injEq, and_true] at h
   rw [← h.1, ← h.2]
   exact P183 hc.2 hd
 ·simp at h
def P20 (a b kind : Int) (t : List UInt8) : Int × Int × Bool :=
 if kind = 0 then P75 a b t else if kind = 1 then P25 t else if kind = 2 ∧ t = [] then ((P43 a b).1, (P43 a b).2, true) else if kind = 3 ∧ t = [] then (0, 1, (P11 a b).2) else (a, b, false)
theorem P265 {a b kind : Int} {t : List UInt8} {x y : Int} (hf : P0 a b) (h : P20 a b kind t = (x, y, true)) : P0 x y := by
 unfold P20 at h
 split at h
 ·exact P264 h
 ·split at h
  ·rcases P125 t with ⟨p, q, h1, h2, h3⟩ | ⟨_, h3⟩
   ·rw [h3] at h
    simp only [Prod.mk.injEq, and_true] at h
    rw [← h.1, ← h.2]; exact h1
   ·rw [h3] at h; simp at h
  ·split at h
   ·simp only [Prod.mk.injEq, and_true] at h
    rw [← h.1, ← h.2]; exact P259 hf
   ·split at h
    ·simp only [Prod.mk.injEq] at h
     rw [← h.1, ← h.2.1]; decide
    ·simp at h
def P54 (l : List S31) (a b : Int) : List S31 := if l.length + 1 > 8 then (l ++ [(⟨a, b⟩ : S31)]).drop 1 else l ++ [(⟨a, b⟩ : S31)]
def dov (a b : Int) (l : List S31) (kind : Int) (t : List UInt8) : Int × Int × List S31 × Bool :=
 if kind = 4 ∧ t = [] ∧ l ≠ [] then ((rd_T31 l ((l.length - 1 : Nat) : Int)).f0, (rd_T31 l ((l.length - 1 : Nat) : Int)).f1, l.take (l.length - 1), true)
 else if (P20 a b kind t).2.2 = true ∧ ¬ ((P20 a b kind t).1 = a ∧ (P20 a b kind t).2.1 = b) then ((P20 a b kind t).1, (P20 a b kind t).2.1, P54 l a b, true)
 else (a, b, l, false)
def P69 (a b : Int) (l : List S31) (kind : Int) (t : List UInt8) : Int × Int × List S31 × Bool := if P12 a b l then dov a b l kind t else (0, 0, [], false)
theorem P266 {l : List S31} (h : P38 l) {i : Nat} (hi : i < l.length) : P0 (rd_T31 l (i : Int)).f0 (rd_T31 l (i : Int)).f1 := by
 have := P128 l i hi
 exact h _ (List.mem_of_mem_drop (i := i) (by rw [this]; simp))
theorem P184 {l : List S31} {a b : Int} (h : P12 a b l) : (P54 l a b).length ≤ 8 ∧ P38 (P54 l a b) := by
 have h2 := h.2.1
 have h3 : P38 (l ++ [(⟨a, b⟩ : S31)]) := by
  intro x hx
  rcases List.mem_append.1 hx with h1 | h1
  ·exact h.2.2 x h1
  ·simp only [List.mem_singleton] at h1; subst h1; exact h.1
 unfold P54
 split
 ·exact ⟨by simp; omega, fun x hx => h3 x (List.mem_of_mem_drop hx)⟩
 ·exact ⟨by simp; omega, h3⟩
theorem P133 {a b : Int} {l : List S31} {kind : Int} {t : List UInt8} (h : P12 a b l) : P12 (dov a b l kind t).1 (dov a b l kind t).2.1 (dov a b l kind t).2.2.1 := by
 have h2 := h.2.1
 unfold dov
 split
 ·next hc =>
  have hl : 0 < l.length := List.length_pos_iff.2 hc.2.2
  exact ⟨P266 h.2.2 (by omega), by simp; omega, fun x hx => h.2.2 x (List.mem_of_mem_take hx)⟩
 ·split
  ·next hc =>
   refine ⟨P265 (x := (P20 a b kind t).1) (y := (P20 a b kind t).2.1) (kind := kind) (t := t) h.1 ?_, (P184 h).1, (P184 h).2⟩
   rw [← hc.1]
  ·exact h
theorem P267 (s : ByteArray) (hs : s.size ≤ 1000000000) (n : Nat) : ∀ i : Nat, i + n = s.size → ∀ k, n < k → F26.l0 k s (i : Int) = some (decide (s.size ≤ 40 ∧ P39 (s.data.toList.drop i))) := by
 induction n with
 | zero =>
  intro i hi k hk
  obtain ⟨k, rfl⟩ : ∃ m, k = m + 1 := ⟨k - 1, by omega⟩
  simp only [F26.l0]
  rw [if_neg (by omega), P83 (by omega)]
  exact P35 ⟨fun x => ⟨by omega, P263⟩, fun x => by omega⟩
 | succ n ih =>
  intro i hi k hk
  obtain ⟨k, rfl⟩ : ∃ m, k = m + 1 := ⟨k - 1, by omega⟩
  obtain ⟨c, hd, hb⟩ := P78 (s := s) (i := i) (by omega)
  simp only [F26.l0]
  rw [if_pos (by omega), if_pos (by omega), hb, hd, P1 (by omega) (by omega), show ((i : Int) + 1) = ((i + 1 : Nat) : Int) by omega, ih (i + 1) (by omega) k (by omega)]
  have e1 : (((c.toNat : Nat) : Int) = 84) ↔ c = 84 := P61 (n := 84) (by omega)
  have e2 : (((c.toNat : Nat) : Int) = 116) ↔ c = 116 := P61 (n := 116) (by omega)
  have e3 : (((c.toNat : Nat) : Int) = 82) ↔ c = 82 := P61 (n := 82) (by omega)
  have yes : P79 c → some (decide (s.size ≤ 40 ∧ P39 (s.data.toList.drop (i + 1)))) = some (decide (s.size ≤ 40 ∧ P39 (c :: s.data.toList.drop (i + 1)))) := by
   intro h; exact P35 ⟨fun x => ⟨x.1, (P132 _ _).2 ⟨h, x.2⟩⟩, fun x => ⟨x.1, ((P132 _ _).1 x.2).2⟩⟩
  by_cases h1 : c = 84
  ·rw [if_pos (e1.2 h1)]; exact yes (.inl h1)
  ·rw [if_neg (fun x => h1 (e1.1 x))]
   by_cases h2 : c = 116
   ·rw [if_pos (e2.2 h2)]; exact yes (.inr (.inl h2))
   ·rw [if_neg (fun x => h2 (e2.1 x))]
    by_cases h3 : c = 82
    ·rw [if_pos (e3.2 h3)]; exact yes (.inr (.inr h3))
    ·rw [if_neg (fun x => h3 (e3.1 x))]
     exact (P22 (fun x => by rcases ((P132 _ _).1 x.2).1 with y | y | y <;> contradiction)).symm
theorem P185 (s : ByteArray) {k : Nat} (hs : s.size ≤ 100000000) (hk : 100000001 ≤ k) : F26.f k s = some (decide (P63 s)) := by
 unfold F26.f
 have := P267 s (by omega) s.size 0 (by omega) k (by omega)
 rw [show ((0 : Nat) : Int) = 0 from rfl] at this
 rw [this]
 exact P35 (by unfold P63 P48; simp)
theorem P134 (a b n : Int) {k : Nat} (hk : 1000001 ≤ k) : F57.f k a b n = some (if P0 a b ∧ (-1000000 ≤ n ∧ n ≤ 1000000) then P44 a b n else (0, 0, false)) := by
 unfold F57.f
 simp only [P29 _ _ hk, P47, Option.bind_some, decide_eq_true_eq]
 by_cases h : P0 a b
 ·rw [if_pos h]
  by_cases hn : -1000000 ≤ n ∧ n ≤ 1000000
  ·rw [if_pos hn, P179 h hn, if_pos (show P0 a b ∧ (-1000000 ≤ n ∧ n ≤ 1000000) from ⟨h, hn⟩)]; unfold P44; split <;> rfl
  ·rw [if_neg hn, if_neg (fun x => hn x.2)]
 ·rw [if_neg h, if_neg (fun x => h x.1)]
theorem P186 (a b : Int) {k : Nat} (hk : 1000002 ≤ k) : F64.f k a b = some (if P0 a b then P37 a b else (0, 0)) := by
 unfold F64.f
 rw [P29 _ _ (by omega)]; simp only [Option.bind_some, decide_eq_true_eq]
 by_cases h : P0 a b
 ·have h2 := h.2.1
  rw [if_pos h, if_pos h, P1 (by omega) (by omega), P101 _ _ hk, P261 h]; rfl
 ·rw [if_neg h, if_neg h]
theorem P268 {f : Int × Int} (hf : P0 f.1 f.2) (m : UInt8) {k : Nat} (hk : 1000002 ≤ k) : F67.f k f.1 f.2 ((m.toNat : Nat) : Int) = some (P40 (P53 f m)) := by
 obtain ⟨a, b⟩ := f
 simp only at hf
 have e1 : (((m.toNat : Nat) : Int) = 84) ↔ m = 84 := P61 (n := 84) (by omega)
 have e2 : (((m.toNat : Nat) : Int) = 116) ↔ m = 116 := P61 (n := 116) (by omega)
 unfold F67.f P53
 simp only
 have p1 : P44 a b 1 = P40 (if P0 (a + b) b then some (a + b, b) else none) := by unfold P44; rw [Int.one_mul]; split <;> rfl
 have p2 : P44 a b (-1) = P40 (if P0 (a - b) b then some (a - b, b) else none) := by unfold P44; rw [show a + -1 * b = a - b by omega]; split <;> rfl
 by_cases h1 : m = 84
 ·rw [if_pos (e1.2 h1), if_pos h1, P134 _ _ _ (by omega), if_pos (show P0 a b ∧ (-1000000 ≤ (1 : Int) ∧ (1 : Int) ≤ 1000000) from ⟨hf, by omega⟩), p1]; rfl
 ·rw [if_neg (fun x => h1 (e1.1 x)), if_neg h1]
  by_cases h2 : m = 116
  ·rw [if_pos (e2.2 h2), if_pos h2, P134 _ _ _ (by omega), if_pos (show P0 a b ∧ (-1000000 ≤ (-1 : Int) ∧ (-1 : Int) ≤ 1000000) from ⟨hf, by omega⟩), p2]; rfl
  ·rw [if_neg (fun x => h2 (e2.1 x)), if_neg h2, P186 _ _ (by omega), P29 _ _ (by omega)]; simp only [Option.bind_some]
   rw [if_pos hf, decide_eq_true hf]; rfl
theorem P269 (s : ByteArray) (hs : s.size ≤ 40) (n : Nat) : ∀ (i : Nat) (f : Int × Int), i + n = s.size → P0 f.1 f.2 → ∀ k, n + 1000003 ≤ k →
  F11.l0 k s (i : Int) f.1 f.2 = some (P40 (P45 (s.data.toList.drop i) f)) := by
 induction n with
 | zero =>
  intro i f hi hf k hk
  obtain ⟨k, rfl⟩ : ∃ m, k = m + 1 := ⟨k - 1, by omega⟩
  simp only [F11.l0]
  rw [if_neg (by omega), P83 (by omega)]; rfl
 | succ n ih =>
  intro i f hi hf k hk
  obtain ⟨k, rfl⟩ : ∃ m, k = m + 1 := ⟨k - 1, by omega⟩
  obtain ⟨m, hd, hb⟩ := P78 (s := s) (i := i) (by omega)
  simp only [F11.l0]
  rw [if_pos (by omega), if_pos (by omega), hb, hd, P1 (n := (i : Int) + 1) (by omega) (by omega), show ((i : Int) + 1) = ((i + 1 : Nat) : Int) by omega, P268 hf m (by omega)]
  simp only [Option.bind_some, P45]
  cases hm : P53 f m with
  | none => rfl
  | some g =>
   simp only [P40, Option.bind_some]
   rw [if_pos trivial]
   exact ih (i + 1) g (by omega) (P182 hf hm) k (by omega)
theorem P270 (a b : Int) (s : ByteArray) {k : Nat} (hs : s.size ≤ 100000000) (hk : 100000002 ≤ k) : F11.f k a b s = some (P75 a b s.data.toList) := by
 obtain ⟨k, rfl⟩ : ∃ m, k = m + 1 := ⟨k - 1, by omega⟩
 unfold F11.f P75
 rw [P185 s hs (by omega), P29 _ _ (by omega)]; simp only [Option.bind_some, decide_eq_true_eq, F11.j0]
 by_cases h : P63 s
 ·rw [if_pos h]
  by_cases h1 : P0 a b
  ·have hl : s.size ≤ 40 := h.1
   rw [decide_eq_true h1, if_neg (by decide), if_pos ⟨h, h1⟩]
   have := P269 s hl s.size 0 (a, b) (by omega) h1 k (by omega)
   rw [List.drop_zero] at this
   exact this
  ·rw [decide_eq_false h1, if_pos (by decide), if_neg (fun x => h1 x.2)]
 ·rw [if_neg h, if_pos trivial, if_neg (fun x => h x.1)]
theorem P271 (s : ByteArray) (hs : s.size ≤ 100000000) (c : UInt8) (n : Nat) : ∀ (i f : Nat) (out : List ByteArray), i + n = s.size → f ≤ i → out.length ≤ i → ∀ k, n < k →
  F21.l0 k s ((c.toNat : Nat) : Int) out (f : Int) (i : Int) = some (out ++ (P2 c ((s.data.toList.drop f).take (i - f)) (s.data.toList.drop i)).map ba) := by
 have hl : s.data.toList.length = s.size := rfl
 induction n with
 | zero =>
  intro i f out hi hf ho k hk
  obtain ⟨k, rfl⟩ : ∃ m, k = m + 1 := ⟨k - 1, by omega⟩
  simp only [F21.l0]
  rw [if_neg (by omega), if_pos (by omega), if_pos (by omega), if_pos (by omega), P83 (i := i) (by omega), P123]
  simp only [P2, List.map_cons, List.map_nil, Int.toNat_natCast]
  rw [show i = s.size by omega]
 | succ n ih =>
  intro i f out hi hf ho k hk
  obtain ⟨k, rfl⟩ : ∃ m, k = m + 1 := ⟨k - 1, by omega⟩
  obtain ⟨x, hd, hb⟩ := P78 (s := s) (i := i) (by omega)
  simp only [F21.l0]
  rw [if_pos (by omega), if_pos (by omega), hb, hd, P1 (n := (i : Int) + 1) (by omega) (by omega), show ((i : Int) + 1) = ((i + 1 : Nat) : Int) by omega]
  have e : (((x.toNat : Nat) : Int) = ((c.toNat : Nat) : Int)) ↔ x = c := ⟨fun h => UInt8.toNat_inj.1 (by omega), fun h => by rw [h]⟩
  simp only [P2]
  by_cases h : x = c
  ·rw [if_pos (e.2 h), if_pos (by omega), if_pos (by omega), if_pos (by omega), if_pos (by omega), if_pos h]
   rw [ih (i + 1) (i + 1) _ (by omega) (by omega) (by simp; omega) k (by omega), P123]
   simp
  ·rw [if_neg (fun y => h (e.1 y)), if_neg h, ih (i + 1) f out (by omega) (by omega) (by omega) k (by omega)]
   have e2 : (s.data.toList.drop f).take (i + 1 - f) = (s.data.toList.drop f).take (i - f) ++ [x] := by
    rw [show i + 1 - f = (i - f) + 1 by omega, List.take_add_one, List.getElem?_drop, show f + (i - f) = i by omega]
    have : s.data.toList[i]? = some x := by
     have := congrArg List.head? hd
     rw [List.head?_drop] at this
     simpa using this
    rw [this]; rfl
   rw [e2]
theorem P135 (s : ByteArray) (c : UInt8) {k : Nat} (hs : s.size ≤ 100000000) (hk : s.size < k) : F21.f k s ((c.toNat : Nat) : Int) = some ((P2 c [] s.data.toList).map ba) := by
 unfold F21.f
 have := P271 s hs c s.size 0 0 [] (by omega) (by omega) (by simp) k (by omega)
 simpa using this
theorem P187 {a b : Nat} (h : a ≤ b) : (10 : Int) ^ a ≤ 10 ^ b := by
 have := Nat.pow_le_pow_right (show 0 < 10 by omega) h
 have e : ∀ n : Nat, (10 : Int) ^ n = ((10 ^ n : Nat) : Int) := fun n => by rw [Int.natCast_pow]; rfl
 rw [e, e]; omega
theorem P188 : ∀ (l : List UInt8) (a : Int) (B : Nat), 0 ≤ a → a < 10 ^ B → 0 ≤ (P24 a l).1 ∧ (P24 a l).1 < 10 ^ (B + l.length)
 | [], a, B, h0, h1 => ⟨h0, by simpa [P24] using h1⟩
 | c :: r, a, B, h0, h1 => by
  simp only [P24]
  by_cases hc : P17 c
  ·rw [if_pos hc]
   unfold P17 at hc
   have e : (10 : Int) ^ (B + 1) = 10 * 10 ^ B := by rw [Int.pow_succ]; omega
   have := P188 r (10 * a + ((c.toNat : Int) - 48)) (B + 1) (by omega) (by rw [e]; omega)
   rw [List.length_cons, show B + (r.length + 1) = B + 1 + r.length by omega]
   exact this
  ·rw [if_neg hc]
   exact ⟨Int.le_refl _, Int.pow_pos (by omega)⟩
theorem P272 (s : ByteArray) (hs : s.size ≤ 7) (n : Nat) : ∀ (i : Nat) (a : Int), i + n = s.size → 0 ≤ a → a < 10 ^ i → ∀ k, n < k → F5.l0 k s a (i : Int) = some (P24 a (s.data.toList.drop i)) := by
 induction n with
 | zero =>
  intro i a hi h0 h1 k hk
  obtain ⟨k, rfl⟩ : ∃ m, k = m + 1 := ⟨k - 1, by omega⟩
  simp only [F5.l0]
  rw [if_neg (by omega), P83 (by omega)]; rfl
 | succ n ih =>
  intro i a hi h0 h1 k hk
  obtain ⟨k, rfl⟩ : ∃ m, k = m + 1 := ⟨k - 1, by omega⟩
  obtain ⟨x, hd, hb⟩ := P78 (s := s) (i := i) (by omega)
  have hp : (10 : Int) ^ i ≤ 10 ^ 7 := P187 (by omega)
  have e10 : (10 : Int) ^ 7 = 10000000 := by decide
  have e : (10 : Int) ^ (i + 1) = 10 * 10 ^ i := by rw [Int.pow_succ]; omega
  simp only [F5.l0]
  rw [if_pos (by omega), if_pos (by omega), hb, hd]
  simp only [P24]
  by_cases hc : P17 x
  ·have hc' := hc
   unfold P17 at hc'
   rw [if_neg (by omega), if_neg (by omega), if_pos hc, P1 (n := (i : Int) + 1) (by omega) (by omega), P1 (n := 10 * a) (by omega) (by omega), show (((x.toNat : Nat) : Int) - 48) % 256 = ((x.toNat : Nat) : Int) - 48 by omega, P1 (by omega) (by omega), show ((i : Int) + 1) = ((i + 1 : Nat) : Int) by omega]
   exact ih (i + 1) _ (by omega) (by omega) (by rw [e]; omega) k (by omega)
  ·rw [if_neg hc]
   unfold P17 at hc
   by_cases h : ((x.toNat : Nat) : Int) < 48
   ·rw [if_pos h]
   ·rw [if_neg h, if_pos (by omega)]
theorem P136 (l : List UInt8) : 0 ≤ (P21 l).1 ∧ (P21 l).1 < 10000000 := by
 unfold P21
 split
 ·next h =>
  have := P188 l 0 0 (by omega) (by decide)
  have hp : (10 : Int) ^ (0 + l.length) ≤ 10 ^ 7 := P187 (by omega)
  have e10 : (10 : Int) ^ 7 = 10000000 := by decide
  omega
 ·simp
theorem P189 : ∀ l : List UInt8, -10000000 < (P4 l).1 ∧ (P4 l).1 < 10000000
 | [] => by have := P136 []; simp only [P4]; omega
 | [c] => by have := P136 [c]; simp only [P4]; omega
 | c :: d :: r => by
  have h1 := P136 (c :: d :: r)
  have h2 := P189 (d :: r)
  simp only [P4]
  split
  ·simp only; omega
  ·omega
theorem P190 (s : ByteArray) {c : UInt8} {r : List UInt8} (h : s.data.toList = c :: r) : bt s 0 = ((c.toNat : Nat) : Int) := by
 have hl : s.data.toList.length = s.size := rfl
 obtain ⟨x, hd, hb⟩ := P78 (s := s) (i := 0) (by rw [h] at hl; simp at hl; omega)
 rw [List.drop_zero, h] at hd
 rw [show ((0 : Nat) : Int) = 0 from rfl] at hb
 rw [hb]
 cases hd; rfl
theorem P137 (s : ByteArray) {k : Nat} (hk : 20 ≤ k) : F5.j0 k s false = some (P21 s.data.toList) := by
 obtain ⟨k, rfl⟩ : ∃ m, k = m + 2 := ⟨k - 2, by omega⟩
 have hl : s.data.toList.length = s.size := rfl
 simp only [F5.j0, P47, Option.bind_some, decide_eq_true_eq]
 rw [if_neg (by decide)]
 unfold P21
 have L : s.size ≤ 7 → F5.l0 k s 0 0 = some (P24 0 s.data.toList) := by
  intro h7
  have := P272 s h7 s.size 0 0 (by omega) (by omega) (by decide) k (by omega)
  simpa using this
 by_cases h : 1 ≤ (s.size : Int) ∧ (s.size : Int) ≤ 7
 ·rw [if_pos h]
  by_cases h1 : (s.size : Int) > 1
  ·rw [if_pos h1, if_pos (by omega)]
   obtain ⟨c, r, e⟩ : ∃ c r, s.data.toList = c :: r := by
    cases hq : s.data.toList with
    | nil => rw [hq] at hl; simp at hl; omega
    | cons c r => exact ⟨c, r, rfl⟩
   rw [P190 s e]
   have e48 : (((c.toNat : Nat) : Int) = 48) ↔ c = 48 := P61 (n := 48) (by omega)
   simp only [F5.j1]
   by_cases hc : c = 48
   ·rw [if_pos (by simpa using e48.2 hc), if_neg (fun x => x.2 ⟨by omega, by rw [e, hc]; rfl⟩)]
   ·rw [if_neg (by simpa using fun x => hc (e48.1 x)), L (by omega), if_pos ⟨by omega, fun x => hc (by have := x.2; rw [e] at this; simpa using this)⟩]
  ·simp only [F5.j1]
   rw [if_neg h1, if_neg (by decide), L (by omega), if_pos ⟨by omega, fun x => by omega⟩]
 ·simp only [F5.j1]
  rw [if_neg h, if_pos trivial, if_neg (fun x => h (by omega))]
theorem P273 (n : Nat) : ∀ (s : ByteArray) (k : Nat), s.size = n → n ≤ 100000000 → 2 * n + 30 ≤ k → F5.f k s = some (P4 s.data.toList) := by
 induction n with
 | zero =>
  intro s k hn _ hk
  obtain ⟨k, rfl⟩ : ∃ m, k = m + 1 := ⟨k - 1, by omega⟩
  have hl : s.data.toList.length = s.size := rfl
  have e : s.data.toList = [] := List.length_eq_zero_iff.1 (by omega)
  simp only [F5.f]
  rw [if_neg (by omega), P137 s (by omega), e]; rfl
 | succ n ih =>
  intro s k hn hb hk
  obtain ⟨k, rfl⟩ : ∃ m, k = m + 2 := ⟨k - 2, by omega⟩
  have hl : s.data.toList.length = s.size := rfl
  cases hq : s.data.toList with
  | nil => rw [hq] at hl; simp at hl; omega
  | cons c r =>
   cases r with
   | nil =>
    have h1 : s.size = 1 := by rw [hq] at hl; simp at hl; omega
    simp only [F5.f]
    rw [if_neg (by omega), P137 s (by omega), hq]; rfl
   | cons d r =>
    have h1 : 2 ≤ s.size := by rw [hq] at hl; simp at hl; omega
    have e45 : (((c.toNat : Nat) : Int) = 45) ↔ c = 45 := P61 (n := 45) (by omega)
    simp only [F5.f]
    rw [if_pos (by omega), if_pos (by omega), P190 s hq]
    simp only [P4]
    by_cases hc : c = 45
    ·have ex : s.extract 1 s.size = ba (d :: r) := by
      rw [P123, hq]; simp only [List.drop_succ_cons, List.drop_zero]
      rw [List.take_of_length_le (by rw [hq] at hl; simp at hl ⊢; omega)]
     have IH := ih (ba (d :: r)) k (by rw [P7]; rw [hq] at hl; simp at hl ⊢; omega) (by omega) (by omega)
     rw [P52] at IH
     have hbd := P189 (d :: r)
     simp only [F5.j0]
     rw [if_pos hc, if_pos (by simpa using e45.2 hc), if_pos (by omega), ex, IH]; simp only [Option.bind_some]
     rw [P1 (by omega) (by omega)]
     by_cases h2 : (P4 (d :: r)).2 = true
     ·rw [if_pos h2, h2, Bool.true_and]
     ·rw [if_neg h2]
      rw [Bool.not_eq_true] at h2
      rw [h2, Bool.false_and]
    ·rw [if_neg hc]
     have : (((c.toNat : Nat) : Int) == 45) = false := by simpa using fun x => hc (e45.1 x)
     rw [this, P137 s (by omega), hq]
theorem P191 (s : ByteArray) {k : Nat} (hs : s.size ≤ 100000000) (hk : 200001000 ≤ k) : F5.f k s = some (P4 s.data.toList) := P273 s.size s k rfl hs (by omega)
theorem P89 (c : UInt8) : ∀ (l cur : List UInt8), ∀ w ∈ P2 c cur l, w.length ≤ cur.length + l.length
 | [], cur, w, h => by simp [P2] at h; subst h; simp
 | x :: r, cur, w, h => by
  simp only [P2] at h
  split at h
  ·rcases List.mem_cons.1 h with h1 | h1
   ·subst h1; simp
   ·have := P89 c r [] w h1
    simp at this ⊢; omega
  ·have := P89 c r _ w h
   simp at this ⊢; omega
theorem P192 (s : ByteArray) {k : Nat} (hs : s.size ≤ 100000000) (hk : 300000000 ≤ k) : F66.f k s = some (P25 s.data.toList) := by
 have hl : s.data.toList.length = s.size := rfl
 unfold F66.f P25
 have hc := P135 s 47 (k := k) hs (by omega)
 rw [show (((47 : UInt8).toNat : Nat) : Int) = 47 from rfl] at hc
 rw [hc]; simp only [Option.bind_some, List.length_map]
 have hsub := P89 47 s.data.toList []
 obtain ⟨x0, r0, hw⟩ := P124 47 s.data.toList []
 have hnil : s.data.toList = [] → P2 47 [] s.data.toList = [[]] := by intro h; rw [h]; rfl
 generalize P2 47 [] s.data.toList = W at *
 have dig : ∀ w ∈ W, F5.f k (ba w) = some (P4 w) := by
  intro w h
  have := hsub w h
  have h2 := P191 (ba w) (k := k) (by rw [P7]; simp at this; omega) (by omega)
  rw [P52] at h2
  exact h2
 have fin : ∀ (v w : Int), (s.data.toList = [] → ¬ P0 v w ∧ False) → ((F19.f k v w).bind fun t => (if t.toList = s.toList then (some (v, w, true)) else (some (0, 0, false)))) = some (if True ∧ P0 v w ∧ P9 v w = s.data.toList then (v, w, true) else (0, 0, false)) := by
  intro v w h0
  rw [P127 _ _ (by omega)]; simp only [Option.bind_some]
  rw [P74, ByteArray.toList_eq]
  unfold P68
  by_cases hf : P0 v w
  ·rw [if_pos hf]
   by_cases he : P9 v w = s.data.toList
   ·rw [if_pos he, if_pos ⟨trivial, hf, he⟩]
   ·rw [if_neg he, if_neg (fun x => he x.2.2)]
  ·rw [if_neg hf, if_neg (fun x => (h0 x.symm).2), if_neg (fun x => hf x.2.1)]
 subst hw
 match r0, dig, hnil with
 | [], dig, hnil =>
  have d0 := dig x0 (by simp)
  rw [if_pos (by simp), show rdOf ByteArray.empty (List.map ba [x0]) 0 = ba x0 from rfl, d0]; simp only [Option.bind_some]
  rw [if_neg (by simp)]
  simp only [P28]
  by_cases h : (P4 x0).2 = true
  ·rw [if_pos h, if_neg (by simp), fin _ _ (fun h0 => by
    have := hnil h0
    simp only [List.cons.injEq, and_true] at this
    rw [this] at h
    exact absurd h (by decide))]
   simp [h]
  ·rw [if_neg h]; exact congrArg some (if_neg (fun x => h x.1)).symm
 | [y], dig, hnil =>
  have d0 := dig x0 (by simp)
  have d1 := dig y (by simp)
  rw [if_pos (by simp), show rdOf ByteArray.empty (List.map ba [x0, y]) 0 = ba x0 from rfl, d0]; simp only [Option.bind_some]
  rw [if_pos (by simp), if_pos (by simp), show rdOf ByteArray.empty (List.map ba [x0, y]) 1 = ba y from rfl, d1]; simp only [Option.bind_some]
  simp only [P28]
  by_cases h : (P4 x0).2 = true
  ·rw [if_pos h]
   by_cases h' : (P4 y).2 = true
   ·rw [if_pos h', if_neg (by simp), fin _ _ (fun h0 => by have := hnil h0; simp at this)]
    simp [h, h']
   ·rw [if_neg h']; exact congrArg some (if_neg (fun x => h' (by have := x.1; simp at this; exact this.2))).symm
  ·rw [if_neg h]; exact congrArg some (if_neg (fun x => h (by have := x.1; simp at this; exact this.1))).symm
 | y :: z :: r, dig, hnil =>
  have d0 := dig x0 (by simp)
  rw [if_pos (by simp; omega), show rdOf ByteArray.empty (List.map ba (x0 :: y :: z :: r)) 0 = ba x0 from rfl, d0]; simp only [Option.bind_some]
  have hlen : ((x0 :: y :: z :: r).length : Int) > 2 := by simp; omega
  rw [if_neg (by simp; omega)]
  simp only [if_pos hlen]
  refine Eq.trans ?_ (congrArg some (if_neg (fun x => Bool.false_ne_true x.1)).symm)
  split <;> rfl
theorem P274 (n : Nat) : ∀ (t : List UInt8) (a b : Int) (r : List UInt8), P34 a b → t.length + n ≤ 1000 → unt n t a b = some r → ∀ k, n + 1000003 ≤ k → F18.l0 k (ba t) a b = some (ba r, true) := by
 induction n with
 | zero => intro t a b r _ _ h; simp [unt] at h
 | succ n ih =>
  intro t a b r hs ht h k hk
  obtain ⟨k, rfl⟩ : ∃ m, k = m + 1 := ⟨k - 1, by omega⟩
  simp only [F18.l0]
  simp only [unt] at h
  by_cases h0 : a = 0
  ·rw [if_pos h0] at h ⊢; cases h; rfl
  ·rw [if_neg h0] at h ⊢
   by_cases h1 : a < 0
   ·rw [if_pos h1] at h ⊢
    have hp := P181 hs h1
    rw [P134 _ _ _ (by omega), if_pos (show P0 a b ∧ (-1000000 ≤ (1 : Int) ∧ (1 : Int) ≤ 1000000) from ⟨hs.1, by omega⟩)]; simp only [Option.bind_some]
    unfold P44
    rw [Int.one_mul, if_pos hp.1, P7, if_pos (by omega)]
    have := ih (t ++ [84]) (a + b) b r hp (by simp; omega) h k (by omega)
    rw [← P19] at this
    exact this
   ·rw [if_neg h1] at h ⊢
    rw [P186 _ _ (by omega), if_pos hs.1]; simp only [Option.bind_some]
    rw [P7, if_pos (by omega)]
    have := ih (t ++ [82]) _ _ r (P180 hs) (by simp; omega) h k (by omega)
    rw [← P19] at this
    exact this
theorem P193 (a b : Int) {k : Nat} (hk : 1001000 ≤ k) : F18.f k a b = some (ba (P11 a b).1, (P11 a b).2) := by
 obtain ⟨k, rfl⟩ : ∃ m, k = m + 1 := ⟨k - 1, by omega⟩
 unfold F18.f P11
 rw [P29 _ _ (by omega)]; simp only [Option.bind_some, decide_eq_true_eq, P47, F18.j0]
 by_cases h : P0 a b
 ·rw [if_pos h]
  by_cases h1 : -12 ≤ a ∧ a ≤ 12
  ·rw [if_pos h1]
   by_cases h2 : b > 12
   ·rw [if_pos h2, if_neg (fun x : P34 a b => by have := x.2.2; omega)]; rfl
   ·have hS : P34 a b := ⟨h, h1, by omega⟩
    obtain ⟨r, hr⟩ := P131 hS
    rw [if_neg h2, if_pos hS, hr]
    exact P274 100 [] a b r hS (by simp) hr k (by omega)
  ·rw [if_neg h1, if_pos trivial, if_neg (fun x : P34 a b => h1 x.2.1)]; rfl
 ·rw [if_neg h, if_pos trivial, if_neg (fun x : P34 a b => h x.1)]; rfl
theorem P275 (a b : Int) {k : Nat} (hk : 1000002 ≤ k) : F72.f k a b = some (if P0 a b then P43 a b else (0, 0)) := by
 unfold F72.f
 simp only [P29 _ _ (show 1000001 ≤ k by omega), Option.bind_some, decide_eq_true_eq]
 by_cases h : P0 a b
 ·have h1 := h.1
  rw [if_pos h, if_pos h, P1 (by omega) (by omega), P101 _ _ hk, P260 h]; rfl
 ·rw [if_neg h, if_neg h]
theorem P276 (a b : Int) (l : List S31) (hl : l.length ≤ 1000000000) (n : Nat) : ∀ i : Nat, i + n = l.length → ∀ k, n + 1000002 ≤ k → F15.l0 k (i : Int) a b l = some (decide (P0 a b ∧ l.length ≤ 8 ∧ P38 (l.drop i))) := by
 induction n with
 | zero =>
  intro i hi k hk
  obtain ⟨k, rfl⟩ : ∃ m, k = m + 1 := ⟨k - 1, by omega⟩
  simp only [F15.l0]
  rw [if_neg (by omega), P29 _ _ (by omega), List.drop_of_length_le (by omega)]; simp only [Option.bind_some, decide_eq_true_eq]
  have e : P38 [] := by intro x hx; simp at hx
  by_cases h : P0 a b
  ·rw [if_pos h]; exact P35 ⟨fun x => ⟨h, by omega, e⟩, fun x => by omega⟩
  ·rw [if_neg h]; exact (P22 (fun x => h x.1)).symm
 | succ n ih =>
  intro i hi k hk
  obtain ⟨k, rfl⟩ : ∃ m, k = m + 1 := ⟨k - 1, by omega⟩
  simp only [F15.l0]
  rw [if_pos (by omega), if_pos (by omega), P29 _ _ (by omega), P128 l i (by omega)]; simp only [Option.bind_some, decide_eq_true_eq]
  by_cases h : P0 (rd_T31 l (i : Int)).f0 (rd_T31 l (i : Int)).f1
  ·rw [if_pos h, P1 (by omega) (by omega), show ((i : Int) + 1) = ((i + 1 : Nat) : Int) by omega, ih (i + 1) (by omega) k (by omega)]
   exact P35 ⟨fun x => ⟨x.1, x.2.1, (P87 _ _).2 ⟨h, x.2.2⟩⟩, fun x => ⟨x.1, x.2.1, ((P87 _ _).1 x.2.2).2⟩⟩
  ·rw [if_neg h]; exact (P22 (fun x => h ((P87 _ _).1 x.2.2).1)).symm
theorem P106 (a b : Int) (l : List S31) (hl : l.length ≤ 100000000) {k : Nat} (hk : 101001000 ≤ k) : F15.f k a b l = some (decide (P12 a b l)) := by
 unfold F15.f
 have := P276 a b l (by omega) l.length 0 (by omega) k (by omega)
 rw [List.drop_zero] at this
 exact this
theorem P194 (t : ByteArray) : (t.toList == ([] : List UInt8)) = decide (t.data.toList = []) := by
 rw [ByteArray.toList_eq]
 cases t.data.toList with
 | nil => rfl
 | cons a l => rfl
theorem P277 (a b kind : Int) (t : ByteArray) {k : Nat} (hf : P0 a b) (ht : t.size ≤ 100000000) (hk : 300000000 ≤ k) : F69.f k a b kind t = some (P20 a b kind t.data.toList) := by
 unfold F69.f P20
 rw [P194]
 by_cases h0 : kind = 0
 ·rw [if_pos h0, if_pos h0, P270 _ _ _ ht (by omega)]; rfl
 ·rw [if_neg h0, if_neg h0]
  by_cases h1 : kind = 1
  ·rw [if_pos h1, if_pos h1, P192 _ ht hk]; rfl
  ·rw [if_neg h1, if_neg h1]
   by_cases h2 : kind = 2 ∧ t.data.toList = []
   ·rw [if_pos h2, if_pos (by simp [h2.1, h2.2]), P275 _ _ (by omega), if_pos hf]; rfl
   ·rw [if_neg h2, if_neg (by simpa using h2)]
    by_cases h3 : kind = 3 ∧ t.data.toList = []
    ·rw [if_pos h3, if_pos (by simp [h3.1, h3.2]), P193 _ _ (by omega)]; rfl
    ·rw [if_neg h3, if_neg (by simpa using h3)]
theorem P278 (l : List S31) (a b p q : Int) : (if ((l ++ [(⟨a, b⟩ : S31)]).length : Int) > 8 then (if 1 ≤ ((l ++ [(⟨a, b⟩ : S31)]).length : Int) then (some (p, q, (l ++ [(⟨a, b⟩ : S31)]).drop (1 : Int).toNat, true)) else (none)) else (some (p, q, l ++ [(⟨a, b⟩ : S31)], true))) = some (p, q, P54 l a b, true) := by
 have e : (l ++ [(⟨a, b⟩ : S31)]).length = l.length + 1 := by simp
 unfold P54
 rw [e]
 by_cases h9 : l.length + 1 > 8
 ·rw [if_pos (show ((l.length + 1 : Nat) : Int) > 8 by omega), if_pos (show 1 ≤ ((l.length + 1 : Nat) : Int) by omega), if_pos h9]; rfl
 ·rw [if_neg (show ¬ ((l.length + 1 : Nat) : Int) > 8 by omega), if_neg h9]
theorem P195 (a b : Int) (l : List S31) (kind : Int) (t : ByteArray) {k : Nat} (hl : l.length ≤ 100000000) (ht : t.size ≤ 100000000) (hk : 300000002 ≤ k) :
  F16.f k a b l kind t = some (P69 a b l kind t.data.toList) := by
 obtain ⟨k, rfl⟩ : ∃ m, k = m + 2 := ⟨k - 2, by omega⟩
 unfold F16.f F40.f P69
 rw [P106 _ _ _ hl (by omega)]; simp only [Option.bind_some, decide_eq_true_eq]
 by_cases h : P12 a b l
 ·have h8 := h.2.1
  rw [if_pos h, if_pos h, if_pos (by simp; omega)]; simp only [Option.bind_some, List.nil_append, F16.j0]
  have go : ∀ n, n + 1 = k + 1 → ((F69.f (k + 1) a b kind t).bind fun bt => (if bt.2.2 = true then (F16.j1 (k + 1) (bt.1 == a && (bt.2.1 == b)) a b l bt.1 bt.2.1) else (F16.j1 (k + 1) true a b l bt.1 bt.2.1))) =
    some (if (P20 a b kind t.data.toList).2.2 = true ∧ ¬ ((P20 a b kind t.data.toList).1 = a ∧ (P20 a b kind t.data.toList).2.1 = b) then ((P20 a b kind t.data.toList).1, (P20 a b kind t.data.toList).2.1, P54 l a b, true) else (a, b, l, false)) := by
   intro n _
   rw [P277 _ _ _ _ h.1 ht (by omega)]; simp only [Option.bind_some, F16.j1]
   generalize P20 a b kind t.data.toList = v
   by_cases hv : v.2.2 = true
   ·rw [if_pos hv]
    by_cases he : v.1 = a ∧ v.2.1 = b
    ·rw [if_pos (by simp [he.1, he.2]), if_neg (fun x => x.2 he)]
    ·rw [if_neg (by simpa using he), if_pos (show l.length < 8796093022208 by omega), if_pos (show v.2.2 = true ∧ ¬ (v.1 = a ∧ v.2.1 = b) from ⟨hv, he⟩)]
     exact P278 l a b v.1 v.2.1
   ·rw [if_neg hv, if_pos trivial, if_neg (fun x => hv x.1)]
  unfold dov
  rw [P194]
  by_cases h4 : kind = 4 ∧ t.data.toList = []
  ·rw [if_pos (by simp [h4.1, h4.2])]
   by_cases h5 : l = []
   ·rw [if_neg (by simp [h5]), if_neg (fun x => x.2.2 h5)]
    exact go k rfl
   ·have hl0 : 0 < l.length := List.length_pos_iff.2 h5
    rw [if_pos (by simpa using hl0), P1 (by omega) (by omega), if_pos (by omega), if_pos (by omega), if_pos (by omega), if_pos ⟨h4.1, h4.2, h5⟩, show (l.length : Int) - 1 = ((l.length - 1 : Nat) : Int) by omega]
    rfl
  ·rw [if_neg (by simpa using h4), if_neg (by decide), if_neg (fun x => h4 ⟨x.1, x.2.1⟩)]
   exact go k rfl
 ·rw [if_neg h, if_neg h]
theorem P196 {s : List Int} (hs : P42 s) (x1 : Int) (n : Nat) : ∀ (p a b : Int) (l : List S31) (k : Nat), 0 ≤ p → p + 400 * n ≤ 600000 → l.length ≤ 8 → n + 300000010 ≤ k →
  ∃ a' b' l' q, F24.l0 k x1 (n : Int) s p a b l = some (a', b', l', q) ∧ l'.length ≤ 9 ∧ p ≤ q ∧ q ≤ p + 400 * n + 20 := by
 induction n with
 | zero =>
  intro p a b l k hp hp' hl hk
  obtain ⟨k, rfl⟩ : ∃ m, k = m + 1 := ⟨k - 1, by omega⟩
  simp only [F24.l0]
  rw [if_neg (by omega)]
  obtain ⟨o, q, ho, r0, r1⟩ := P77 (k := k) (p := p) x1 hs (by omega) (by omega) (by omega)
  rw [ho]; simp only [Option.bind_some]
  split
  ·obtain ⟨w, hw, _⟩ := P23 (k := k) (p := q) 3 hs (by omega) (by omega) (by omega)
   rw [hw]; simp only [Option.bind_some]
   split
   ·exact ⟨_, _, _, _, rfl, by omega, by omega, by omega⟩
   ·split
    ·rw [if_pos (by omega)]
     exact ⟨_, _, _, _, rfl, by simp; omega, by omega, by omega⟩
    ·exact ⟨_, _, _, _, rfl, by simp, by omega, by omega⟩
  ·exact ⟨_, _, _, _, rfl, by omega, by omega, by omega⟩
 | succ n ih =>
  intro p a b l k hp hp' hl hk
  obtain ⟨k, rfl⟩ : ∃ m, k = m + 1 := ⟨k - 1, by omega⟩
  simp only [F24.l0]
  rw [if_pos (by omega)]
  obtain ⟨d, t, q, hd, ht, q0, q1⟩ := P175 (k := k) (p := p) hs (by omega) (by omega) (by omega)
  rw [hd]; simp only [Option.bind_some]
  rw [P195 _ _ _ _ _ (by omega) (by omega) (by omega), P1 (by omega) (by omega), show ((n + 1 : Nat) : Int) - 1 = (n : Int) by omega]; simp only [Option.bind_some]
  have hlen : (P69 a b l d t.data.toList).2.2.1.length ≤ 8 := by
   unfold P69
   split
   ·next h => exact (P133 h).2.1
   ·simp
  split
  ·obtain ⟨a', b', l', q', e, e1, e2, e3⟩ := ih q (P69 a b l d t.data.toList).1 (P69 a b l d t.data.toList).2.1 (P69 a b l d t.data.toList).2.2.1 k (by omega) (by omega) hlen (by omega)
   exact ⟨a', b', l', q', e, e1, by omega, by omega⟩
  ·obtain ⟨a', b', l', q', e, e1, e2, e3⟩ := ih q a b l k (by omega) (by omega) hl (by omega)
   exact ⟨a', b', l', q', e, e1, by omega, by omega⟩
theorem P279 {s : List Int} {p : Int} (n : Int) {k : Nat} (hs : P42 s) (hp : 0 ≤ p) (hp' : p ≤ 500000) (hk : 300001000 ≤ k) :
  ∃ a b l q, F24.f k s p n = some (a, b, l, q) ∧ l.length ≤ 9 ∧ p ≤ q ∧ q ≤ p + 4000 := by
 unfold F24.f F95.f
 obtain ⟨a, b, q, hf, hd, q0, q1⟩ := P168 (k := k) (p := p) 0 hs (by omega) (by omega) (by omega)
 rw [hf]; simp only [Option.bind_some]
 rw [P29 _ _ (by omega)]; simp only [Option.bind_some, decide_eq_true_eq]
 obtain ⟨w, hw, w0, w1, _⟩ := P23 (k := k) (p := q) 6 hs (by omega) (by omega) (by omega)
 have w1 := w1 (by omega)
 obtain ⟨m, rfl⟩ := Int.eq_ofNat_of_zero_le w0
 split
 ·simp only [Option.bind_some]
  rw [hw]; simp only [Option.bind_some]
  obtain ⟨a', b', l', q', e, e1, e2, e3⟩ := P196 hs n m (q + 1) a b [] k (by omega) (by omega) (by simp) (by omega)
  exact ⟨a', b', l', q', e, e1, by omega, by omega⟩
 ·simp only [Option.bind_some]
  rw [hw]; simp only [Option.bind_some]
  obtain ⟨a', b', l', q', e, e1, e2, e3⟩ := P196 hs n m (q + 1) 0 0 [] k (by omega) (by omega) (by simp) (by omega)
  exact ⟨a', b', l', q', e, e1, by omega, by omega⟩
def P8 (kind : Int) (t : List UInt8) : List UInt8 :=
 if kind = 0 ∧ P48 t then [100, 97, 110, 99, 101, 32] ++ t else if kind = 1 ∧ (P25 t).2.2 = true then [116, 97, 107, 101, 32] ++ t
 else if kind = 2 ∧ t = [] then [109, 105, 114, 114, 111, 114] else if kind = 3 ∧ t = [] then [117, 110, 116, 105, 101] else if kind = 4 ∧ t = [] then [98, 97, 99, 107] else []
theorem P107 (t : ByteArray) : (t.toList == ([] : List UInt8)) = decide (t.data.toList = []) := by
 rw [ByteArray.toList_eq]
 cases t.data.toList with
 | nil => rfl
 | cons a l => rfl
theorem P280 (k : Int) (t : List UInt8) : (P8 k t).length ≤ t.length + 6 := by
 unfold P8
 split
 ·simp
 ·split
  ·simp
  ·split
   ·simp
   ·split
    ·simp
    ·split
     ·simp
     ·simp
theorem P138 (rd : Bool) (kind : Int) (t : ByteArray) {k : Nat} (hk : 1 ≤ k) (ht : t.size ≤ 100000000) (h0 : ¬ (kind = 0 ∧ P48 t.data.toList)) (hr : rd = decide (kind = 1 ∧ (P25 t.data.toList).2.2 = true)) : F23.j1 k rd kind t = some (ba (P8 kind t.data.toList)) := by
 obtain ⟨k, rfl⟩ : ∃ m, k = m + 1 := ⟨k - 1, by omega⟩
 simp only [F23.j1]
 unfold P8
 rw [if_neg h0, P107, hr]
 by_cases h1 : kind = 1 ∧ (P25 t.data.toList).2.2 = true
 ·rw [decide_eq_true h1, if_pos rfl, if_pos h1, if_pos (by omega)]
  exact congrArg some (P19 [116, 97, 107, 101, 32] t.data.toList)
 ·rw [decide_eq_false h1, if_neg (by decide), if_neg h1]
  by_cases h2 : kind = 2 ∧ t.data.toList = []
  ·rw [if_pos (by simp [h2.1, h2.2]), if_pos h2]; rfl
  ·rw [if_neg (by simpa using h2), if_neg h2]
   by_cases h3 : kind = 3 ∧ t.data.toList = []
   ·rw [if_pos (by simp [h3.1, h3.2]), if_pos h3]; rfl
   ·rw [if_neg (by simpa using h3), if_neg h3]
    by_cases h4 : kind = 4 ∧ t.data.toList = []
    ·rw [if_pos (by simp [h4.1, h4.2]), if_pos h4]; rfl
    ·rw [if_neg (by simpa using h4), if_neg h4]; rfl
theorem P197 (kind : Int) (t : ByteArray) {k : Nat} (ht : t.size ≤ 100000000) (hk : 300000010 ≤ k) : F23.f k kind t = some (ba (P8 kind t.data.toList)) := by
 obtain ⟨k, rfl⟩ : ∃ m, k = m + 1 := ⟨k - 1, by omega⟩
 unfold F23.f
 rw [P192 t ht (by omega)]; simp only [Option.bind_some]
 by_cases h0 : kind = 0
 ·rw [if_pos h0, P185 t (by omega) (by omega)]; simp only [Option.bind_some, F23.j0]
  by_cases hd : P63 t
  ·rw [decide_eq_true hd, if_pos rfl, if_pos (by omega)]
   unfold P8
   rw [if_pos ⟨h0, hd⟩]
   exact congrArg some (P19 [100, 97, 110, 99, 101, 32] t.data.toList)
  ·rw [decide_eq_false hd, if_neg (by decide), if_neg (by omega)]
   exact P138 _ _ _ (by omega) ht (fun x => hd x.2) (by rw [h0]; rfl)
 ·rw [if_neg h0]; simp only [F23.j0]
  rw [if_neg (by decide)]
  by_cases h1 : kind = 1
  ·rw [if_pos h1]
   refine P138 _ _ _ (by omega) ht (fun x => h0 x.1) ?_
   rw [h1]; simp
  ·rw [if_neg h1]
   exact P138 _ _ _ (by omega) ht (fun x => h0 x.1) (by simp [h1])
theorem P281 {s : List Int} {p : Int} {k : Nat} (hs : P42 s) (hp : 0 ≤ p) (hp' : p ≤ 600000) (hk : 400000000 ≤ k) : ∃ t q, F58.f k s p = some (t, q) ∧ t.size ≤ 1000 ∧ p ≤ q ∧ q ≤ p + 400 := by
 unfold F58.f
 obtain ⟨v, hv, v0, v1, _⟩ := P23 (k := k) (p := p) 6 hs (by omega) (by omega) (by omega)
 rw [hv]; simp only [Option.bind_some]
 obtain ⟨k, rfl⟩ : ∃ m, k = m + 1 := ⟨k - 1, by omega⟩
 have J : ∀ b : Bool, ∃ t q, F58.j0 (k + 1) v b s (p + 1) = some (t, q) ∧ t.size ≤ 1000 ∧ p ≤ q ∧ q ≤ p + 400 := by
  intro b
  simp only [F58.j0, Option.bind_some]
  by_cases hb : b = true
  ·rw [if_pos hb]
   obtain ⟨w, hw, w0, w1, _⟩ := P23 (k := k) (p := p + 1) 7 hs (by omega) (by omega) (by omega)
   have w1 := w1 (by omega)
   rw [hw]; simp only [Option.bind_some]
   rw [if_pos w0, if_pos (by simp; omega)]
   exact ⟨_, _, rfl, Nat.le_trans (P103 (B := 100) (by decide) w) (by decide), by omega, by omega⟩
  ·rw [if_neg hb]
   by_cases h2 : v = 2
   ·rw [if_pos h2]
    obtain ⟨w, hw, w0, w1, _⟩ := P23 (k := k) (p := p + 1) 12 hs (by omega) (by omega) (by omega)
    have w1 := w1 (by omega)
    rw [hw]; simp only [Option.bind_some]
    rw [if_pos w0, if_pos (by simp; omega)]
    exact ⟨_, _, rfl, Nat.le_trans (P103 (B := 100) (by decide) w) (by decide), by omega, by omega⟩
   ·rw [if_neg h2]
    by_cases h3 : v = 3
    ·rw [if_pos h3]
     obtain ⟨w, hw, w0, w1, _⟩ := P23 (k := k) (p := p + 1) 12 hs (by omega) (by omega) (by omega)
     have w1 := w1 (by omega)
     rw [hw]; simp only [Option.bind_some]
     rw [P1 (by omega) (by omega), P86 (by omega) (by omega)]; simp only [Option.bind_some]
     have hl := P36 (n := 1 + w) (by omega)
     rw [P7, if_pos (by omega)]
     refine ⟨_, _, rfl, ?_, by omega, by omega⟩
     rw [ByteArray.size_append, P7]
     have : (⟨#[99, 111, 108, 111, 117, 114, 115, 32]⟩ : ByteArray).size = 8 := rfl
     omega
    ·rw [if_neg h3]
     obtain ⟨d, t, q, hd, ht, q0, q1⟩ := P175 (k := k) (p := p + 1) hs (by omega) (by omega) (by omega)
     rw [hd]; simp only [Option.bind_some]
     rw [P197 d t (by omega) (by omega)]; simp only [Option.bind_some]
     refine ⟨_, _, rfl, ?_, by omega, by omega⟩
     have := P280 d t.data.toList
     have hsz : t.data.toList.length = t.size := rfl
     rw [P7]; omega
 split <;> exact J _
theorem P282 {s : List Int} (hs : P42 s) (a b : Int) (l : List S31) (hl : l.length ≤ 9) (n : Nat) : ∀ (out : List ByteArray) (p : Int) (k : Nat), 0 ≤ p → p + 400 * n ≤ 600000 → out.length + n ≤ 40 → (∀ c ∈ out, c.size ≤ 1000) → n + 400000010 ≤ k →
  ∃ C, F54.l0 k out (n : Int) s p a b l = some (a, b, l, C) ∧ C.length ≤ 41 ∧ ∀ c ∈ C, c.size ≤ 1000 := by
 induction n with
 | zero =>
  intro out p k hp hp' ho hz hk
  obtain ⟨k, rfl⟩ : ∃ m, k = m + 1 := ⟨k - 1, by omega⟩
  simp only [F54.l0]
  rw [if_neg (by omega)]
  obtain ⟨o, q, h1, r0, r1⟩ := P77 (k := k) (p := p) 30 hs (by omega) (by omega) (by omega)
  rw [h1]; simp only [Option.bind_some]
  split
  ·rw [if_pos (by decide)]
   refine ⟨_, rfl, by simp, fun c hc => ?_⟩
   rw [List.eq_of_mem_replicate hc]; decide
  ·exact ⟨_, rfl, by omega, hz⟩
 | succ n ih =>
  intro out p k hp hp' ho hz hk
  obtain ⟨k, rfl⟩ : ∃ m, k = m + 1 := ⟨k - 1, by omega⟩
  simp only [F54.l0]
  rw [if_pos (by omega)]
  obtain ⟨t, q, ht, hsz, q0, q1⟩ := P281 (k := k) (p := p) hs (by omega) (by omega) (by omega)
  rw [ht]; simp only [Option.bind_some]
  rw [if_pos (by omega), P1 (by omega) (by omega), show ((n + 1 : Nat) : Int) - 1 = (n : Int) by omega]
  refine ih (out ++ [t]) q k (by omega) (by omega) (by simp; omega) ?_ (by omega)
  intro c hc
  rcases List.mem_append.1 hc with h | h
  ·exact hz c h
  ·rw [List.mem_singleton.1 h]; exact hsz
def cl (a b : Int) : Int := -((-a) / b)
theorem P139 (a : Int) {b : Int} (hb : 0 < b) : 0 ≤ cl a b * b - a ∧ cl a b * b - a < b := by
 have h1 := Int.emod_nonneg (-a) (show b ≠ 0 by omega)
 have h2 := Int.emod_lt_of_pos (-a) hb
 have h3 := Int.mul_ediv_add_emod (-a) b
 unfold cl
 rw [Int.neg_mul, Int.mul_comm]; omega
theorem P90 (x : Int) {b : Int} (hb : 0 < b) (hx : -60 ≤ x ∧ x ≤ 60) : -60 ≤ x / b ∧ x / b ≤ 60 := by
 have := Int.natAbs_ediv_le_natAbs x b
 omega
theorem P283 {a b : Int} (hb : 0 < b) (ha : -60 ≤ a ∧ a ≤ 60) : -60 ≤ cl a b ∧ cl a b ≤ 60 := by
 have := P90 (-a) hb (by omega)
 unfold cl; omega
theorem P284 (x b : Int) : Int.tdiv x b = -(Int.tdiv (-x) b) := by rw [Int.neg_tdiv]; omega
theorem P198 (x : Int) {b : Int} (hb : 0 < b) : (if Int.tdiv x b * b > x then Int.tdiv x b - 1 else Int.tdiv x b) = x / b := by
 have h1 := Int.emod_nonneg x (show b ≠ 0 by omega)
 have h2 := Int.emod_lt_of_pos x hb
 have h3 := Int.mul_ediv_add_emod x b
 by_cases hx : 0 ≤ x
 ·rw [Int.tdiv_eq_ediv_of_nonneg hx, if_neg (by rw [Int.mul_comm]; omega)]
 ·have g1 := Int.emod_nonneg (-x) (show b ≠ 0 by omega)
  have g2 := Int.emod_lt_of_pos (-x) hb
  have g3 := Int.mul_ediv_add_emod (-x) b
  have e : Int.tdiv x b = -((-x) / b) := by rw [P284, Int.tdiv_eq_ediv_of_nonneg (by omega)]
  rw [e, Int.neg_mul, Int.mul_comm]
  by_cases hz : (-x) % b = 0
  ·rw [if_neg (by omega)]
   symm
   exact Int.ediv_eq_of_eq_mul_left (by omega) (by rw [Int.neg_mul, Int.mul_comm]; omega)
  ·rw [if_pos (by omega)]
   symm
   exact ((Int.ediv_emod_unique hb (r := b - (-x) % b)).2 ⟨by rw [Int.mul_sub, Int.mul_neg]; omega, by omega, by omega⟩).1
theorem P285 (a : Int) {b : Int} (hb : 0 < b) : (if Int.tdiv a b * b < a then Int.tdiv a b + 1 else Int.tdiv a b) = cl a b := by
 have h := P198 (-a) hb
 rw [Int.neg_tdiv, Int.neg_mul] at h
 unfold cl
 rw [← h]
 by_cases hc : Int.tdiv a b * b < a
 ·rw [if_pos hc, if_pos (by omega)]; omega
 ·rw [if_neg hc, if_neg (by omega)]; omega
theorem P199 (x : Int) (b : Int) (hx : -60 ≤ x ∧ x ≤ 60) : -60 ≤ Int.tdiv x b ∧ Int.tdiv x b ≤ 60 := by
 have : (Int.tdiv x b).natAbs ≤ x.natAbs := by rw [Int.natAbs_tdiv]; exact Nat.div_le_self _ _
 omega
theorem P200 (x : Int) (b : Int) (hx : -60 ≤ x ∧ x ≤ 60) : -60 ≤ Int.tdiv x b * b ∧ Int.tdiv x b * b ≤ 60 := by
 have : (Int.tdiv x b * b).natAbs ≤ x.natAbs := by
  rw [Int.natAbs_mul, Int.natAbs_tdiv]; exact Nat.div_mul_le_self _ _
 omega
def P16 : Nat → Int → Int → List Int
 | 0, _, _ => []
 | n + 1, a, b => if b ≤ 0 then [] else cl a b :: P16 n b (cl a b * b - a)
theorem P201 : ∀ (n : Nat) (a b : Int), (P16 n a b).length ≤ n
 | 0, _, _ => by simp [P16]
 | n + 1, a, b => by
  simp only [P16]
  split
  ·simp
  ·simp only [List.length_cons]; have := P201 n b (cl a b * b - a); omega
theorem P202 : ∀ (n : Nat) (a b : Int), (-60 ≤ a ∧ a ≤ 60) → (0 ≤ b ∧ b ≤ 60) → ∀ x ∈ P16 n a b, -60 ≤ x ∧ x ≤ 60
 | 0, _, _, _, _, x, h => by simp [P16] at h
 | n + 1, a, b, ha, hb, x, h => by
  simp only [P16] at h
  split at h
  ·simp at h
  ·have hb' : 0 < b := by omega
   have h1 := P139 a hb'
   rcases List.mem_cons.1 h with rfl | h2
   ·exact P283 hb' ha
   ·exact P202 n b (cl a b * b - a) (by omega) (by omega) x h2
theorem P286 (n : Nat) (a : Int) : P16 n a 0 = [] := by cases n <;> simp [P16]
theorem P287 {n : Nat} (a : Int) {b : Int} (hn : 1 ≤ n) (hb : 0 < b) : P16 n a b ≠ [] := by
 obtain ⟨n, rfl⟩ : ∃ m, n = m + 1 := ⟨n - 1, by omega⟩
 simp only [P16]; rw [if_neg (by omega)]; simp
def P30 (a b : Int) : List Int × Bool := if P10 a b 60 ∧ b ≠ 0 then (P16 60 a b, true) else ([], false)
def P13 (l : List Int) : List UInt8 := Go.Lib.join (l.map Go.Lib.itoa) [44]
theorem P288 (x : List UInt8) (sep : List UInt8) : ∀ (y : List UInt8) (xs : List (List UInt8)), Go.Lib.join ((y :: xs) ++ [x]) sep = Go.Lib.join (y :: xs) sep ++ sep ++ x := by
 intro y xs
 rw [List.cons_append, Go.Lib.join_cons, Go.Lib.join_cons]
 simp [Go.Lib.joinTail]
theorem P203 (l : List Int) (x : Int) : P13 (l ++ [x]) = if l = [] then Go.Lib.itoa x else P13 l ++ [44] ++ Go.Lib.itoa x := by
 cases l with
 | nil => simp [P13, Go.Lib.join_one]
 | cons y l => rw [if_neg (by simp)]; unfold P13; rw [List.map_append, List.map_cons]; exact P288 _ _ _ _
theorem P108 : ∀ (n : Nat) (l : List Int), l.length = n → (∀ x ∈ l, -60 ≤ x ∧ x ≤ 60) → (P13 l).length ≤ 9 * n := by
 intro n
 induction n with
 | zero => intro l hl _; rw [List.eq_nil_of_length_eq_zero hl]; simp [P13, Go.Lib.join_nil]
 | succ n ih =>
  intro l hl hb
  have e := List.dropLast_concat_getLast (l := l) (by intro x; rw [x] at hl; simp at hl)
  have hi := ih l.dropLast (by simp [hl]) (fun x hx => hb x (List.dropLast_subset _ hx))
  have hx := hb (l.getLast (by intro x; rw [x] at hl; simp at hl)) (List.getLast_mem _)
  have h1 := P36 (n := l.getLast (by intro x; rw [x] at hl; simp at hl)) (by omega)
  rw [← e, P203]
  split
  ·omega
  ·simp only [List.length_append, List.length_singleton]; omega
theorem P289 (l : List Int) (i : Nat) (h : i < l.length) : P13 (l.take (i + 1)) = if i = 0 then Go.Lib.itoa l[i] else P13 (l.take i) ++ [44] ++ Go.Lib.itoa l[i] := by
 rw [List.take_succ_eq_append_getElem h, P203]
 by_cases hi : i = 0
 ·subst hi; simp
 ·rw [if_neg hi, if_neg]
  intro x
  have := congrArg List.length x
  rw [List.length_take, List.length_nil] at this
  omega
def P64 (l : List Int) : List UInt8 := if l = [] then [110, 111, 110, 101] else P13 l
def P41 (a b : Int) : List Int := if Int.tmod a 2 = 0 then [1, 0, 3, 2] else if Int.tmod b 2 = 0 then [2, 3, 0, 1] else [3, 2, 1, 0]
def P65 (a : Int) : Int := if Int.tmod a 2 = 0 then 2 else 1
theorem P109 (a b : Int) : (P41 a b).length ≤ 100 ∧ (∀ x ∈ P41 a b, -60 ≤ x ∧ x ≤ 60) ∧ P41 a b ≠ [] := by
 unfold P41
 split
 ·decide
 ·split <;> decide
def P31 (a b : Int) : Prop := (a = 0 ∧ b = 1) ∨ (a = 1 ∧ b = 0) ∨ ((2 ≤ a ∧ a ≤ 60) ∧ (1 ≤ b ∧ b < a) ∧ Int.gcd a b = 1)
instance (a b : Int) : Decidable (P31 a b) := by unfold P31; infer_instance
theorem P140 (b : Int) : P31 0 b ↔ b = 1 := by unfold P31; omega
theorem P204 (b : Int) : P31 1 b ↔ b = 0 := by unfold P31; omega
theorem P91 {a b : Int} (h : a ≠ 0) (h' : a ≠ 1) : P31 a b ↔ ((2 ≤ a ∧ a ≤ 60) ∧ (1 ≤ b ∧ b < a) ∧ Int.gcd a b = 1) := by
 unfold P31; constructor
 ·rintro (x | x | x)
  ·exact absurd x.1 h
  ·exact absurd x.1 h'
  ·exact x
 ·exact fun x => .inr (.inr x)
theorem P141 {a b : Int} (h : P31 a b) : 0 ≤ a ∧ a ≤ 60 ∧ 0 ≤ b ∧ b ≤ 59 := by
 unfold P31 at h; omega
theorem P290 (a b : Int) : (((Int.gcd a b : Nat) : Int) == 1) = decide (Int.gcd a b = 1) := by
 rw [Bool.eq_iff_iff]; simp; omega
def P76 : Nat → Nat → Nat → Nat → Nat
 | 0, _, _, b => b
 | n + 1, x, a, b => if x < b then (if x * b % a = 1 then x else P76 n (x + 1) a b) else b
def P92 : Nat → Nat → Nat → Nat → Nat
 | 0, _, _, _ => 0
 | n + 1, x, l, a => if x < a then (if x * l % a = 1 then x else P92 n (x + 1) l a) else 0
def P93 (a b : Nat) : Nat := P76 60 1 a b
def P55 (a b : Int) : Int := (P93 a.toNat b.toNat : Nat)
theorem P94 (m n : Nat) : Int.tmod (m : Int) (n : Int) = ((m % n : Nat) : Int) := by
 rw [Int.tmod_eq_emod_of_nonneg (by omega)]; omega
theorem P142 : ((List.range 61).all fun a => (List.range 61).all fun b => !(decide (2 ≤ a) && decide (1 ≤ b) && decide (b < a) && decide (Nat.gcd a b = 1)) || decide (min b (P92 60 1 b a) = P93 a b)) = true := by decide +kernel
theorem P291 {a b : Nat} (h1 : 2 ≤ a) (h2 : a ≤ 60) (h3 : 1 ≤ b) (h4 : b < a) (h5 : Nat.gcd a b = 1) : min b (P92 60 1 b a) = P93 a b := by
 have h := P142
 rw [List.all_eq_true] at h
 have h := h a (List.mem_range.2 (by omega))
 rw [List.all_eq_true] at h
 have h := h b (List.mem_range.2 (by omega))
 simpa [h1, h3, h4, h5] using h
def P66 (a b : Int) : Int × Int × Bool := if P31 a b then (a, P55 a b, true) else (0, 0, false)
def P14 (a b : Int) : Int × Int × Bool :=
 if P0 a b ∧ (-60 ≤ a ∧ a ≤ 60) then
  if a = 0 then (0, 1, true) else if a < 0 then ((a.natAbs : Int), ((a.natAbs : Int) - b % a.natAbs) % a.natAbs, true) else (a, b % a, true)
 else (0, 0, false)
theorem P205 {a b : Int} (h : P0 a b) (ha : -60 ≤ a ∧ a ≤ 60) (h0 : a ≠ 0) :
  (if (mx a (wrap64 (-a))) = 0 then (none : Option (Int × Int × Bool)) else (if a < 0 then (some (mx a (wrap64 (-a)), Int.tmod (wrap64 ((mx a (wrap64 (-a))) - (Int.tmod b (mx a (wrap64 (-a)))))) (mx a (wrap64 (-a))), true)) else (some (mx a (wrap64 (-a)), Int.tmod b (mx a (wrap64 (-a))), true))))
   = some (P14 a b) := by
 unfold P14
 rw [if_pos (show P0 a b ∧ (-60 ≤ a ∧ a ≤ 60) from ⟨h, ha⟩), P70 (by omega) (by omega), if_neg h0, if_neg (by omega)]
 have hb := h.2.1
 have e1 : Int.tmod b (a.natAbs : Int) = b % (a.natAbs : Int) := Int.tmod_eq_emod_of_nonneg (by omega)
 have r1 := Int.emod_nonneg b (show ((a.natAbs : Nat) : Int) ≠ 0 by omega)
 have r2 := Int.emod_lt_of_pos b (show (0 : Int) < (a.natAbs : Int) by omega)
 rw [e1]
 by_cases hn : a < 0
 ·rw [if_pos hn, if_pos hn, P1 (by omega) (by omega), Int.tmod_eq_emod_of_nonneg (by omega)]
 ·rw [if_neg hn, if_neg hn]
  have : ((a.natAbs : Nat) : Int) = a := by omega
  rw [this]
theorem P292 (b : Int) {n : Int} (hn : 0 < n) : (n - b % n) % n = (-b) % n := by
 have e : n - b % n = -b + n * (b / n + 1) := by
  have := Int.mul_ediv_add_emod b n
  rw [Int.mul_add, Int.mul_one]; omega
 rw [e, Int.add_mul_emod_self_left]
theorem P206 (n x : Int) : Int.gcd n (x % n) = Int.gcd n x := by
 have e : x % n = x + n * (-(x / n)) := by
  have := Int.mul_ediv_add_emod x n
  rw [Int.mul_neg]; omega
 rw [e, Int.gcd_add_mul_left_right]
theorem P293 {a b : Int} (h : P0 a b) (ha : -60 ≤ a ∧ a ≤ 60) : P31 (P14 a b).1 (P14 a b).2.1 := by
 unfold P14
 rw [if_pos (show P0 a b ∧ (-60 ≤ a ∧ a ≤ 60) from ⟨h, ha⟩)]
 by_cases h0 : a = 0
 ·rw [if_pos h0]; exact .inl ⟨rfl, rfl⟩
 ·rw [if_neg h0]
  have hg := h.2.2.1
  have key : ∀ r : Int, 0 ≤ r → r < (a.natAbs : Int) → Int.gcd (a.natAbs : Int) r = 1 → P31 (a.natAbs : Int) r := by
   intro r r0 r1 r2
   by_cases h1 : a.natAbs = 1
   ·right; left; exact ⟨by omega, by omega⟩
   ·right; right
    refine ⟨by omega, ⟨?_, r1⟩, r2⟩
    by_cases hr : r = 0
    ·subst hr; rw [Int.gcd_zero_right] at r2; simp at r2; omega
    ·omega
  have gn : Int.gcd (a.natAbs : Int) b = 1 := by
   unfold Int.gcd at hg ⊢; simpa using hg
  by_cases hn : a < 0
  ·rw [if_pos hn]; simp only
   refine key _ (Int.emod_nonneg _ (by omega)) (Int.emod_lt_of_pos _ (by omega)) ?_
   rw [P292 b (by omega), P206]
   simpa using gn
  ·rw [if_neg hn]; simp only
   have e : ((a.natAbs : Nat) : Int) = a := by omega
   have := key (b % a) (Int.emod_nonneg _ h0) (by rw [e]; exact Int.emod_lt_of_pos _ (by omega)) (by rw [e, P206]; exact hg)
   rw [e] at this
   exact this
def P56 (a b c : Int) : Int := if P0 a b ∧ (1 ≤ c ∧ c ≤ 12) then c * (Int.gcd c a : Int) else -1
theorem P207 {e : Int} (n : Int) (h1 : 1 ≤ e) (h2 : e ≤ 12) : wrap64 (e * (Int.gcd e n : Int)) = e * (Int.gcd e n : Int) := by
 have hg : Int.gcd e n ≤ 12 := by
  have := Int.gcd_le_natAbs_left (b := n) (show e ≠ 0 by omega); omega
 have := P122 (a := e) (b := ((Int.gcd e n : Nat) : Int)) (m := 12) (n := 12) (by omega) (by omega)
 exact P1 (by omega) (by omega)
def P5 (a b : Nat) : List Int := if h : b = 0 then [] else ((a / b : Nat) : Int) :: P5 b (a % b)
termination_by b
decreasing_by exact Nat.mod_lt _ (by omega)
theorem P57 (a : Nat) : P5 a 0 = [] := by rw [P5]; simp
theorem P95 (a : Nat) {b : Nat} (h : b ≠ 0) : P5 a b = ((a / b : Nat) : Int) :: P5 b (a % b) := by rw [P5]; simp [h]
theorem P208 (m n : Nat) : Int.tdiv (m : Int) (n : Int) = ((m / n : Nat) : Int) := by
 rw [Int.tdiv_eq_ediv_of_nonneg (by omega)]; omega
theorem P209 (m n : Nat) : Int.tmod (m : Int) (n : Int) = ((m % n : Nat) : Int) := by
 rw [Int.tmod_eq_emod_of_nonneg (by omega)]; omega
def P143 (a b : Int) : List Int := if P0 a b then P5 a.natAbs b.natAbs else []
theorem P210 (n : Nat) : ∀ a b : Nat, b ≤ n → (P5 a b).length ≤ b := by
 induction n with
 | zero =>
  intro a b h
  obtain rfl : b = 0 := by omega
  rw [P57]; simp
 | succ n ih =>
  intro a b h
  by_cases h0 : b = 0
  ·rw [h0, P57]; simp
  ·have := Nat.mod_lt a (show b > 0 by omega)
   have := ih b (a % b) (by omega)
   rw [P95 a h0, List.length_cons]; omega
theorem P144 (n : Nat) : ∀ a b : Nat, b ≤ n → ∀ x ∈ P5 a b, 0 ≤ x := by
 induction n with
 | zero =>
  intro a b h x hx
  obtain rfl : b = 0 := by omega
  rw [P57] at hx; simp at hx
 | succ n ih =>
  intro a b h x hx
  by_cases h0 : b = 0
  ·rw [h0, P57] at hx; simp at hx
  ·have := Nat.mod_lt a (show b > 0 by omega)
   rw [P95 a h0] at hx
   rcases List.mem_cons.1 hx with hx | hx
   ·rw [hx]; exact Int.natCast_nonneg _
   ·exact ih b (a % b) (by omega) x hx
theorem P145 (n : Nat) : ∀ a b : Nat, b ≤ n → 0 ≤ (P5 a b).sum ∧ (P5 a b).sum ≤ a + b := by
 induction n with
 | zero =>
  intro a b h
  obtain rfl : b = 0 := by omega
  rw [P57]; simp
 | succ n ih =>
  intro a b h
  by_cases h0 : b = 0
  ·rw [h0, P57]; simp
  ·have h1 := Nat.mod_lt a (show b > 0 by omega)
   have h2 := ih b (a % b) (by omega)
   have h3 := Nat.div_add_mod a b
   have h7 : (0 : Int) ≤ ((a / b : Nat) : Int) := Int.natCast_nonneg _
   rw [P95 a h0, List.sum_cons]
   by_cases h5 : a % b = 0
   ·rw [h5, P57]
    have := Nat.div_le_self a b
    generalize a / b = q at *
    simp; omega
   ·by_cases h6 : a / b = 0
    ·rw [h6] at h3 ⊢; simp at h3 ⊢; omega
    ·have h4 : a / b + b ≤ b * (a / b) + 1 := by
      obtain ⟨x, hx⟩ : ∃ x, a / b = x + 1 := ⟨a / b - 1, by omega⟩
      obtain ⟨y, hy⟩ : ∃ y, b = y + 1 := ⟨b - 1, by omega⟩
      rw [hx, hy, Nat.mul_succ, Nat.succ_mul]; omega
     generalize a / b = q at *
     generalize b * q = c at *
     omega
def P146 (a b : Nat) : Int := (P5 a b).sum
def P58 (a b : Int) : Int := if P0 a b then P146 a.natAbs b.natAbs else -1
theorem P110 (l : List Int) (i : Nat) (h : i < l.length) : l.drop i = rd l (i : Int) :: l.drop (i + 1) := by
 rw [List.drop_eq_getElem_cons h]; unfold rd; simp [h]
theorem P147 (l : List Int) (h : ∀ x ∈ l, 0 ≤ x) : 0 ≤ l.sum := by
 induction l with
 | nil => simp
 | cons x l ih => rw [List.sum_cons]; have := h x (by simp); have := ih (fun y hy => h y (by simp [hy])); omega
theorem P211 (c : UInt8) : ∀ l : List UInt8, (∀ x ∈ l, x ≠ c) → Go.Lib.index l [c] = -1
 | [], _ => rfl
 | x :: l, h => by
  have hx := h x (by simp)
  simp only [Go.Lib.index]
  rw [P211 c l (fun y hy => h y (by simp [hy]))]
  have : ([c] : List UInt8).isPrefixOf (x :: l) = false := by
   simp only [List.isPrefixOf, Bool.and_true]
   simpa using fun e => hx e.symm
  rw [this]; rfl
theorem P212 (c : UInt8) : ∀ (a b : List UInt8), (∀ x ∈ a, x ≠ c) → Go.Lib.index (a ++ c :: b) [c] = (a.length : Int)
 | [], b, _ => by simp [Go.Lib.index, List.isPrefixOf]
 | x :: a, b, h => by
  have hx := h x (by simp)
  have ih := P212 c a b (fun y hy => h y (by simp [hy]))
  simp only [List.cons_append, Go.Lib.index]
  have : ([c] : List UInt8).isPrefixOf (x :: (a ++ c :: b)) = false := by
   simp only [List.isPrefixOf, Bool.and_true]
   simpa using fun e => hx e.symm
  rw [this, ih]
  simp
theorem P96 {c : UInt8} {l : List UInt8} (h : ∀ x ∈ l, x ≠ c) : Go.Lib.cut l [c] = (l, [], false) := by
 unfold Go.Lib.cut; rw [P211 c l h]; rfl
theorem P111 {c : UInt8} {a : List UInt8} (b : List UInt8) (h : ∀ x ∈ a, x ≠ c) : Go.Lib.cut (a ++ c :: b) [c] = (a, b, true) := by
 unfold Go.Lib.cut
 rw [P212 c a b h, if_pos (by omega)]
 simp
theorem P112 (c : UInt8) : ∀ l : List UInt8, (∀ x ∈ l, x ≠ c) ∨ ∃ a b, l = a ++ c :: b ∧ ∀ x ∈ a, x ≠ c
 | [] => .inl (by simp)
 | x :: l => by
  by_cases h : x = c
  ·subst h; exact .inr ⟨[], l, rfl, by simp⟩
  ·rcases P112 c l with h1 | ⟨a, b, rfl, h2⟩
   ·exact .inl (fun y hy => (List.mem_cons.1 hy).elim (fun e => e ▸ h) (h1 y))
   ·exact .inr ⟨x :: a, b, rfl, fun y hy => (List.mem_cons.1 hy).elim (fun e => e ▸ h) (h2 y)⟩
theorem P213 : ∀ (l : List UInt8) (a : Nat), (∀ c ∈ l, P17 c) → Go.Lib.decFrom a l = some (P18 a l)
 | [], a, _ => rfl
 | c :: r, a, h => by
  have hc := h c (by simp)
  unfold P17 at hc
  simp only [Go.Lib.decFrom, Go.Lib.digitVal]
  rw [if_pos hc]; simp only
  rw [P213 r _ (fun x hx => h x (by simp [hx])), Nat.mul_comm]; rfl
theorem P214 (u : Nat) : Go.Lib.decNat (Go.Lib.decDigits u) = some u := by
 unfold Go.Lib.decNat
 have h1 := P169 u
 have : (Go.Lib.decDigits u).isEmpty = false := by
  cases h : Go.Lib.decDigits u with
  | nil => rw [h] at h1; simp at h1
  | cons a l => rfl
 rw [this, P213 _ _ (P73 u), P105]; rfl
theorem P294 (n : Int) : Go.Lib.atoi (Go.Lib.itoa n) = some n := by
 unfold Go.Lib.itoa
 split
 ·simp only [Go.Lib.atoi]
  rw [P214]; simp; omega
 ·obtain ⟨c, r, e, hc, _⟩ := P120 n.toNat
  have h := P214 n.toNat
  rw [e] at h ⊢
  simp only [Go.Lib.atoi]
  have h1 : (c == 45) = false := by
   rw [beq_eq_false_iff_ne]; intro x; rw [x] at hc; exact absurd hc (by decide)
  have h2 : (c == 43) = false := by
   rw [beq_eq_false_iff_ne]; intro x; rw [x] at hc; exact absurd hc (by decide)
  rw [h1, h2, h]; simp; omega
theorem P113 {n : Int} (h : n.natAbs < 10000000) : strconv_Atoi.f (ba (Go.Lib.itoa n)) = some (n, none) := by
 have hl := P36 h
 unfold strconv_Atoi.f
 rw [if_pos (by rw [P7]; omega), P52, Go.Lib.atoiAll_short _ (by omega), P294]; rfl
theorem P215 (s : ByteArray) (h : s.size ≤ 100000000) : ∃ v e, strconv_Atoi.f s = some (v, e) := by
 unfold strconv_Atoi.f
 rw [if_pos (by omega)]
 split <;> exact ⟨_, _, rfl⟩
theorem P114 {n : Int} (h : -9223372036854775808 ≤ n ∧ n ≤ 9223372036854775807) : strconv_Itoa.f n = some (ba (Go.Lib.itoa n)) := by
 unfold strconv_Itoa.f; rw [if_pos h]; rfl
theorem P295 (n : Nat) : ∀ l : List UInt8, l.length = n + 1 → (∀ c ∈ l, P17 c) → (l.head? = some 48 → n = 0) → Go.Lib.decDigits (P18 0 l) = l := by
 induction n with
 | zero =>
  intro l hl hd _
  match l, hl with
  | [c], _ =>
   have hc := hd c (by simp)
   unfold P17 at hc
   have e : P18 0 [c] = c.toNat - 48 := by simp [P18]
   rw [e, P51 (by omega), show 48 + (c.toNat - 48) = c.toNat by omega]
   simp
 | succ n ih =>
  intro l hl hd hz
  have hne : l ≠ [] := by intro x; rw [x] at hl; simp at hl
  have e := List.dropLast_concat_getLast hne
  generalize l.getLast hne = c at e
  generalize hm : l.dropLast = m at e
  subst e
  have hml : m.length = n + 1 := by simp at hl; omega
  have hmd : ∀ x ∈ m, P17 x := fun x hx => hd x (by simp [hx])
  have hc := hd c (by simp)
  unfold P17 at hc
  obtain ⟨y, r, rfl⟩ : ∃ y r, m = y :: r := by
   cases m with
   | nil => simp at hml
   | cons y r => exact ⟨y, r, rfl⟩
  have hy : y ≠ 48 := fun x => by
   have := hz (by rw [x]; rfl)
   omega
  have i := ih (y :: r) hml hmd (fun x => by simp at x; exact absurd x hy)
  have hv : 1 ≤ P18 0 (y :: r) := by
   by_cases h0 : 1 ≤ P18 0 (y :: r)
   ·exact h0
   ·rw [show P18 0 (y :: r) = 0 by omega, P51 (by omega)] at i
    injection i with i1 i2
    exact absurd i1.symm hy
  have e2 : P18 0 ((y :: r) ++ [c]) = 10 * P18 0 (y :: r) + (c.toNat - 48) := by rw [P170]; rfl
  rw [e2, P72 (by omega), show (10 * P18 0 (y :: r) + (c.toNat - 48)) / 10 = P18 0 (y :: r) by omega, i, show 48 + (10 * P18 0 (y :: r) + (c.toNat - 48)) % 10 = c.toNat by omega]
  simp
theorem P216 : ∀ (l : List UInt8) (a : Int), (P24 a l).2 = true → ∀ c ∈ l, P17 c
 | [], _, _, c, h => by simp at h
 | x :: r, a, h, c, hc => by
  simp only [P24] at h
  split at h
  ·next hx =>
   rcases List.mem_cons.1 hc with rfl | h1
   ·exact hx
   ·exact P216 r _ h c h1
  ·simp at h
theorem P296 {l : List UInt8} (h : (P21 l).2 = true) : ∃ u : Nat, u < 10000000 ∧ l = Go.Lib.decDigits u := by
 unfold P21 at h
 split at h
 ·next hc =>
  have hd := P216 l 0 h
  have := P295 (l.length - 1) l (by omega) hd (fun x => by
   by_cases h1 : 1 < l.length
   ·exact absurd ⟨h1, x⟩ hc.2
   ·omega)
  refine ⟨P18 0 l, ?_, this.symm⟩
  have hl : ∀ (m : List UInt8) (B a : Nat), (∀ c ∈ m, P17 c) → a < 10 ^ B → P18 a m < 10 ^ (B + m.length) := by
   intro m
   induction m with
   | nil => intro B a _ ha; simpa [P18] using ha
   | cons c r ih =>
    intro B a hm ha
    have hc := hm c (by simp)
    unfold P17 at hc
    have := ih (B + 1) (10 * a + (c.toNat - 48)) (fun x hx => hm x (by simp [hx])) (by rw [Nat.pow_succ]; omega)
    rw [List.length_cons, show B + (r.length + 1) = B + 1 + r.length by omega]
    exact this
  have h2 := hl l 0 0 hd (by decide)
  have h3 : 10 ^ (0 + l.length) ≤ 10 ^ 7 := Nat.pow_le_pow_right (by decide) (by omega)
  omega
 ·simp at h
theorem P217 {l : List UInt8} (h : (P4 l).2 = true) (h0 : 0 ≤ (P4 l).1) : ∃ u : Nat, u < 10000000 ∧ l = Go.Lib.itoa (u : Int) := by
 have plain : ∀ m, (P21 m).2 = true → ∃ u : Nat, u < 10000000 ∧ m = Go.Lib.itoa (u : Int) := by
  intro m hm
  obtain ⟨u, h1, h2⟩ := P296 hm
  refine ⟨u, h1, ?_⟩
  unfold Go.Lib.itoa
  rw [if_neg (by omega), h2]; rfl
 match l, h, h0 with
 | [], h, _ => exact plain _ h
 | [c], h, _ => exact plain _ h
 | c :: d :: r, h, h0 =>
  simp only [P4] at h h0
  split at h
  ·next hc =>
   rw [if_pos hc] at h0
   simp at h h0
   omega
  ·exact plain _ h
theorem P297 (n : Int) : ∀ x ∈ Go.Lib.itoa n, x ≠ 32 := by
 intro x hx h
 rcases P121 hx with h1 | h1
 ·rw [h] at h1; exact absurd h1 (by decide)
 ·rw [h] at h1; exact absurd h1 (by decide)
def P15 (l : List UInt8) : Option Int :=
 if Go.Lib.hasPrefix l [99, 111, 108, 111, 117, 114, 115, 32] = true ∧ (P4 (l.drop 8)).2 = true ∧ 0 ≤ (P4 (l.drop 8)).1 then some (P4 (l.drop 8)).1 else none
theorem P115 {l : List UInt8} {n : Int} (h : P15 l = some n) : 0 ≤ n ∧ n < 10000000 ∧ l = [99, 111, 108, 111, 117, 114, 115, 32] ++ Go.Lib.itoa n := by
 unfold P15 at h
 split at h
 ·next hc =>
  injection h with h; subst h
  obtain ⟨u, h1, h2⟩ := P217 hc.2.1 hc.2.2
  have h3 := P67 (n := (u : Int)) (by omega)
  rw [← h2] at h3
  refine ⟨hc.2.2, by rw [h3]; simp; omega, ?_⟩
  have hp := hc.1
  unfold Go.Lib.hasPrefix at hp
  obtain ⟨t, rfl⟩ := List.isPrefixOf_iff_prefix.1 hp
  rw [h3]
  simp only [List.append_cancel_left_eq]
  simpa using h2
 ·cases h
theorem P218 {n : Int} (h : 0 ≤ n) (h' : n < 10000000) : P15 ([99, 111, 108, 111, 117, 114, 115, 32] ++ Go.Lib.itoa n) = some n := by
 have e : ([99, 111, 108, 111, 117, 114, 115, 32] ++ Go.Lib.itoa n).drop 8 = Go.Lib.itoa n := rfl
 unfold P15
 rw [e, P67 (by omega), if_pos ⟨rfl, rfl, h⟩]
theorem P148 (a b : Int) : (P30 a b).1.length ≤ 100 ∧ (∀ x ∈ (P30 a b).1, -60 ≤ x ∧ x ≤ 60) ∧ ((P30 a b).2 = true → (P30 a b).1 ≠ []) ∧ ((P30 a b).2 = false → (P30 a b).1 = []) := by
 unfold P30
 split
 ·next h =>
  have h1 := h.1.2
  have h2 := h.1.1.2.1
  have h3 := h.2
  have := P201 60 a b
  exact ⟨by simp only; omega, P202 60 a b h1.1 (by omega), fun _ => P287 a (by omega) (by omega), fun x => by cases x⟩
 ·exact ⟨by simp, by simp, by simp, by simp⟩
theorem P149 (a b : Int) : (P58 a b).natAbs < 10000000 := by
 unfold P58
 split
 ·next h =>
  have h1 := h.1
  have h2 := h.2.1
  have hs := P145 b.natAbs a.natAbs b.natAbs (Nat.le_refl _)
  have h0 := P147 (P5 a.natAbs b.natAbs) (P144 b.natAbs _ _ (Nat.le_refl _))
  unfold P146
  omega
 ·decide
theorem P150 (a b c : Int) : (P56 a b c).natAbs < 10000000 := by
 unfold P56
 split
 ·next h =>
  have hc := h.2
  have hg : Int.gcd c a ≤ 12 := by
   have := Int.gcd_le_natAbs_left (b := a) (show c ≠ 0 by omega); omega
  have := P122 (a := c) (b := ((Int.gcd c a : Nat) : Int)) (m := 12) (n := 12) (by omega) (by omega)
  omega
 ·decide
theorem P116 (a b : Int) : (P11 a b).1.length ≤ 1000 := by
 unfold P11
 split
 ·next h =>
  obtain ⟨r, hr⟩ := P131 h
  have := P130 100 [] a b r hr
  rw [hr]; simp at this ⊢; omega
 ·simp
theorem P151 {a b : Int} (h : P31 a b) : (P66 a b).1.natAbs < 10000000 ∧ (P66 a b).2.1.natAbs < 10000000 := by
 have hr := P141 h
 unfold P66
 rw [if_pos h]
 have key : ∀ n x a b : Nat, x ≤ 100 → b ≤ 100 → P76 n x a b ≤ 200 + n := by
  intro n
  induction n with
  | zero => intro x a b _ hb; simp only [P76]; omega
  | succ n ih =>
   intro x a b hx hb
   simp only [P76]
   split
   ·split
    ·omega
    ·by_cases h1 : x + 1 ≤ 100
     ·have := ih (x + 1) a b h1 hb; omega
     ·next hlt _ => omega
   ·omega
 have := key 60 1 a.toNat b.toNat (by omega) (by omega)
 refine ⟨by simp only; omega, ?_⟩
 show (P55 a b).natAbs < 10000000
 unfold P55 P93
 omega
def P60 (a b : Int) (s : List UInt8) : List UInt8 :=
 if s = [116, 101, 120, 116] then P9 a b
 else if s = [109, 111, 118, 101, 115] then (if (P11 a b).2 = true then 58 :: (P11 a b).1 else [110, 111, 110, 101])
 else if s = [116, 101, 114, 109, 115] then P64 (P30 a b).1
 else if s = [99, 114, 111, 115, 115, 105, 110, 103, 115] then Go.Lib.itoa (P58 a b)
 else if s = [101, 110, 100, 115] then P13 (P41 a b)
 else if s = [114, 105, 110, 103, 115] then Go.Lib.itoa (P65 a)
 else if s = [108, 105, 110, 107] then (if (P14 a b).2.2 = true then Go.Lib.itoa (P66 (P14 a b).1 (P14 a b).2.1).1 ++ 58 :: Go.Lib.itoa (P66 (P14 a b).1 (P14 a b).2.1).2.1 else [110, 111, 110, 101])
 else match P15 s with
  | none => [119, 104, 97, 116]
  | some n => if 1 ≤ n ∧ n ≤ 12 then Go.Lib.itoa (P56 a b n) else [110, 111, 110, 101]
theorem P152 {a b : Int} (h : (P14 a b).2.2 = true) : P31 (P14 a b).1 (P14 a b).2.1 := by
 by_cases hc : P0 a b ∧ (-60 ≤ a ∧ a ≤ 60)
 ·exact P293 hc.1 hc.2
 ·unfold P14 at h; rw [if_neg hc] at h; cases h
theorem P298 {a b : Int} (hf : P0 a b) (s : List UInt8) : (P60 a b s).length ≤ 2000 := by
 have it : ∀ {n : Int}, n.natAbs < 10000000 → (Go.Lib.itoa n).length ≤ 8 := fun h => P36 h
 have ht := P148 a b
 have he := P109 a b
 have hr : (P64 (P30 a b).1).length ≤ 900 := by
  unfold P64
  split
  ·simp
  ·have := P108 _ _ rfl ht.2.1; omega
 have hr2 := P108 _ _ rfl he.2.1
 have hq : (P65 a).natAbs < 10000000 := by unfold P65; split <;> decide
 unfold P60
 repeat' split
 all_goals first
  | (have := P173 hf; omega)
  | (have := P116 a b; simp; omega)
  | (simp; done)
  | omega
  | (have := it (P149 a b); omega)
  | (have := it hq; omega)
  | (refine Nat.le_trans (it (P150 a b _)) (by decide))
  | (next h => have := P151 (P152 h); have h1 := it this.1; have h2 := it this.2; simp; omega)
def rdv (l : List UInt8) : Int × List UInt8 × Bool :=
 if l = [109, 105, 114, 114, 111, 114] then (2, [], true) else if l = [117, 110, 116, 105, 101] then (3, [], true) else if l = [98, 97, 99, 107] then (4, [], true)
 else if l.take 6 = [100, 97, 110, 99, 101, 32] ∧ P48 (l.drop 6) then (0, l.drop 6, true)
 else if l.take 5 = [116, 97, 107, 101, 32] ∧ (P25 (l.drop 5)).2.2 = true then (1, l.drop 5, true) else (0, [], false)
theorem P219 {k : Int} {t : List UInt8} (h : P8 k t ≠ []) : rdv (P8 k t) = (k, t, true) := by
 unfold P8 at h ⊢
 by_cases h0 : k = 0 ∧ P48 t
 ·rw [if_pos h0]
  unfold rdv
  rw [if_neg (by intro x; have := congrArg List.head? x; simp at this), if_neg (by intro x; have := congrArg List.head? x; simp at this), if_neg (by intro x; have := congrArg List.head? x; simp at this)]
  have e1 : ([100, 97, 110, 99, 101, 32] ++ t : List UInt8).take 6 = [100, 97, 110, 99, 101, 32] := by simp
  have e2 : ([100, 97, 110, 99, 101, 32] ++ t : List UInt8).drop 6 = t := by simp
  rw [e1, e2, if_pos ⟨rfl, h0.2⟩, h0.1]
 ·rw [if_neg h0] at h ⊢
  by_cases h1 : k = 1 ∧ (P25 t).2.2 = true
  ·rw [if_pos h1]
   unfold rdv
   rw [if_neg (by intro x; have := congrArg List.head? x; simp at this), if_neg (by intro x; have := congrArg List.head? x; simp at this), if_neg (by intro x; have := congrArg List.head? x; simp at this), if_neg (by intro x; have := congrArg List.head? x.1; simp at this)]
   have e1 : ([116, 97, 107, 101, 32] ++ t : List UInt8).take 5 = [116, 97, 107, 101, 32] := by simp
   have e2 : ([116, 97, 107, 101, 32] ++ t : List UInt8).drop 5 = t := by simp
   rw [e1, e2, if_pos ⟨rfl, h1.2⟩, h1.1]
  ·rw [if_neg h1] at h ⊢
   by_cases h2 : k = 2 ∧ t = []
   ·rw [if_pos h2, h2.1, h2.2]; rfl
   ·rw [if_neg h2] at h ⊢
    by_cases h3 : k = 3 ∧ t = []
    ·rw [if_pos h3, h3.1, h3.2]; rfl
    ·rw [if_neg h3] at h ⊢
     by_cases h4 : k = 4 ∧ t = []
     ·rw [if_pos h4, h4.1, h4.2]; rfl
     ·rw [if_neg h4] at h; exact absurd rfl h
theorem P220 (l : List UInt8) : (∃ k t, l ≠ [] ∧ P8 k t = l ∧ rdv l = (k, t, true)) ∨ ((∀ k t, P8 k t = l → l = []) ∧ rdv l = (0, [], false)) := by
 by_cases h : ∃ k t, P8 k t = l ∧ l ≠ []
 ·obtain ⟨k, t, h1, h2⟩ := h
  refine .inl ⟨k, t, h2, h1, ?_⟩
  rw [← h1] at h2 ⊢
  exact P219 h2
 ·have hn : ∀ k t, P8 k t = l → l = [] := fun k t hk => Classical.byContradiction fun hl => h ⟨k, t, hk, hl⟩
  refine .inr ⟨hn, ?_⟩
  by_cases hl : l = []
  ·subst hl; rfl
  ·have no : ∀ k t, P8 k t ≠ l := fun k t hk => hl (hn k t hk)
   unfold rdv
   rw [if_neg (fun x => no 2 [] (by rw [x]; rfl)), if_neg (fun x => no 3 [] (by rw [x]; rfl)), if_neg (fun x => no 4 [] (by rw [x]; rfl)),
    if_neg (fun x => no 0 (l.drop 6) (by unfold P8; rw [if_pos ⟨rfl, x.2⟩, ← x.1, List.take_append_drop])), if_neg (fun x => no 1 (l.drop 5) (by unfold P8; rw [if_neg (fun y => absurd y.1 (by decide)), if_pos ⟨rfl, x.2⟩, ← x.1, List.take_append_drop]))]
theorem P299 {t : List UInt8} (h : P48 t) : ∀ x ∈ t, x ≠ 32 := by
 intro x hx e
 have := h.2 x hx
 rw [e] at this
 exact absurd this (by decide)
theorem P300 {t : List UInt8} (h : (P25 t).2.2 = true) : ∀ x ∈ t, x ≠ 32 := by
 rcases P125 t with ⟨a, b, _, ht, _⟩ | ⟨_, hr⟩
 ·intro x hx e
  rw [← ht] at hx
  have key : ∀ n : Int, x ∈ Go.Lib.itoa n → False := by
   intro n hn
   rcases P121 hn with h1 | h1
   ·rw [e] at h1; exact absurd h1 (by decide)
   ·rw [e] at h1; exact absurd h1 (by decide)
  unfold P9 at hx
  split at hx
  ·exact key a hx
  ·rcases List.mem_append.1 hx with h1 | h1
   ·exact key a h1
   ·rcases List.mem_cons.1 h1 with h2 | h2
    ·rw [e] at h2; exact absurd h2 (by decide)
    ·exact key b h2
 ·rw [hr] at h; exact absurd h (by decide)
theorem P153 {k : Int} {t l : List UInt8} (h : P8 k t = l) (hl : l ≠ []) :
  (k = 0 ∧ l = [100, 97, 110, 99, 101] ++ 32 :: t ∧ ∀ x ∈ t, x ≠ 32) ∨ (k = 1 ∧ l = [116, 97, 107, 101] ++ 32 :: t ∧ ∀ x ∈ t, x ≠ 32) ∨ (k = 2 ∧ t = [] ∧ l = [109, 105, 114, 114, 111, 114]) ∨ (k = 3 ∧ t = [] ∧ l = [117, 110, 116, 105, 101]) ∨ (k = 4 ∧ t = [] ∧ l = [98, 97, 99, 107]) := by
 unfold P8 at h
 split at h
 ·next h0 => exact .inl ⟨h0.1, h.symm, P299 h0.2⟩
 ·split at h
  ·next h1 => exact .inr (.inl ⟨h1.1, h.symm, P300 h1.2⟩)
  ·split at h
   ·next h2 => exact .inr (.inr (.inl ⟨h2.1, h2.2, h.symm⟩))
   ·split at h
    ·next h3 => exact .inr (.inr (.inr (.inl ⟨h3.1, h3.2, h.symm⟩)))
    ·split at h
     ·next h4 => exact .inr (.inr (.inr (.inr ⟨h4.1, h4.2, h.symm⟩)))
     ·exact absurd h.symm hl
def P6 (a b : Int) (l : List S31) (s : List UInt8) : Int × Int × List S31 × List UInt8 :=
 if (rdv s).2.2 = true then ((dov a b l (rdv s).1 (rdv s).2.1).1, (dov a b l (rdv s).1 (rdv s).2.1).2.1, (dov a b l (rdv s).1 (rdv s).2.1).2.2.1, if (dov a b l (rdv s).1 (rdv s).2.1).2.2.2 = true then [111, 107] else [110, 111, 116])
 else (a, b, l, P60 a b s)
def P26 (a b : Int) (l : List S31) (s : List UInt8) : Int × Int × List S31 × List UInt8 := if P12 a b l then P6 a b l s else (0, 0, [], [])
theorem P97 {a b : Int} {l : List S31} (h : P12 a b l) (s : List UInt8) : P12 (P6 a b l s).1 (P6 a b l s).2.1 (P6 a b l s).2.2.1 := by
 unfold P6
 split
 ·exact P133 h
 ·exact h
theorem P301 {a b : Int} {l : List S31} (h : P12 a b l) (s : List UInt8) : (P6 a b l s).2.2.1.length ≤ 8 ∧ (P6 a b l s).2.2.2.length ≤ 2000 := by
 unfold P6
 split
 ·refine ⟨(P133 h).2.1, ?_⟩
  simp only; split <;> simp
 ·exact ⟨h.2.1, P298 h.1 s⟩
theorem P221 (l : List UInt8) : (rdv l).2.1.length ≤ l.length := by
 unfold rdv
 repeat' split
 all_goals simp
theorem P302 {a b : Int} (ha : -60 ≤ a ∧ a ≤ 60) (hb : 0 < b) : F76.f a b = some (cl a b) := by
 unfold F76.f F94.f
 have h1 := P199 (-a) b (by omega)
 have h2 := P200 (-a) b (by omega)
 have h3 := P198 (-a) hb
 have h4 := P90 (-a) hb (by omega)
 rw [P1 (n := -a) (by omega) (by omega), if_neg (by omega), P1 (n := Int.tdiv (-a) b) (by omega) (by omega), P1 (n := Int.tdiv (-a) b * b) (by omega) (by omega), P1 (n := Int.tdiv (-a) b - 1) (by omega) (by omega)]
 have h5 : (if Int.tdiv (-a) b * b > -a then (some (Int.tdiv (-a) b - 1)) else (some (Int.tdiv (-a) b))) = some ((-a) / b) := by rw [← h3]; split <;> rfl
 rw [h5]; simp only [Option.bind_some]
 rw [P1 (by omega) (by omega)]; rfl
theorem P303 (n : Nat) : ∀ (out : List Int) (a b : Int), out.length + n ≤ 1000 → (-60 ≤ a ∧ a ≤ 60) → (0 ≤ b ∧ b ≤ 60) → b ≤ n → ∀ k, n < k → F47.l0 k out a b = some (out ++ P16 n a b) := by
 induction n with
 | zero =>
  intro out a b _ _ hb hn k hk
  obtain ⟨k, rfl⟩ : ∃ m, k = m + 1 := ⟨k - 1, by omega⟩
  simp only [F47.l0]
  rw [if_neg (by omega)]; simp [P16]
 | succ n ih =>
  intro out a b ho ha hb hn k hk
  obtain ⟨k, rfl⟩ : ∃ m, k = m + 1 := ⟨k - 1, by omega⟩
  simp only [F47.l0, P16]
  by_cases h : b > 0
  ·have h1 := P139 a h
   rw [if_pos h, if_neg (by omega), P302 ha h]; simp only [Option.bind_some]
   rw [if_pos (by omega), P1 (n := cl a b * b) (by omega) (by omega), P1 (by omega) (by omega), ih (out ++ [cl a b]) b (cl a b * b - a) (by simp; omega) (by omega) (by omega) (by omega) k (by omega)]
   simp
  ·rw [if_neg h, if_pos (by omega)]; simp
theorem P304 (a b : Int) {k : Nat} (hk : 1000001 ≤ k) : F79.f k a b = some (P30 a b) := by
 unfold F79.f P30 F47.f
 rw [P29 _ _ (by omega)]; simp only [Option.bind_some, decide_eq_true_eq, P47]
 by_cases h : P0 a b
 ·rw [if_pos h]
  by_cases h1 : -60 ≤ a ∧ a ≤ 60
  ·rw [if_pos h1]
   by_cases h2 : 1 ≤ b ∧ b ≤ 60
   ·rw [if_pos h2, if_pos ⟨⟨h, by omega, by omega⟩, by omega⟩, P303 60 [] a b (by simp) h1 (by omega) (by omega) k (by omega)]; rfl
   ·have := h.2.1
    rw [if_neg h2, if_neg (fun x => h2 (by have := x.1.2.2; have := x.2; omega))]
  ·rw [if_neg h1, if_neg (fun x => h1 (by have := x.1.2.1; omega))]
 ·rw [if_neg h, if_neg (fun x => h x.1.1)]
theorem P305 (l : List Int) (hl : l.length ≤ 100) (hb : ∀ x ∈ l, -60 ≤ x ∧ x ≤ 60) (n : Nat) : ∀ i : Nat, i + n = l.length → ∀ k, n + 40 < k → F33.l0 k l (ba (P13 (l.take i))) (i : Int) = some (ba (P64 l)) := by
 induction n with
 | zero =>
  intro i hi k hk
  obtain ⟨k, rfl⟩ : ∃ m, k = m + 1 := ⟨k - 1, by omega⟩
  simp only [F33.l0]
  unfold P64
  rw [if_neg (by omega)]
  by_cases h : l = []
  ·rw [if_pos h, if_pos (by rw [h]; rfl)]; rfl
  ·have : 0 < l.length := List.length_pos_iff.2 h
   rw [if_neg h, if_neg (by omega), List.take_of_length_le (by omega)]
 | succ n ih =>
  intro i hi k hk
  obtain ⟨k, rfl⟩ : ∃ m, k = m + 1 := ⟨k - 1, by omega⟩
  have hil : i < l.length := by omega
  simp only [F33.l0]
  have hd := P110 l i hil
  have hr : rd l (i : Int) = l[i] := by
   have e := List.drop_eq_getElem_cons hil
   rw [e] at hd; injection hd with h1 _; exact h1.symm
  have hx := hb l[i] (List.getElem_mem hil)
  have hlen := P36 (n := l[i]) (by omega)
  have h1 := P108 i (l.take i) (by rw [List.length_take]; omega) (fun x h => hb x (List.mem_of_mem_take h))
  have h2 := P289 l i hil
  have goOn := ih (i + 1) (by omega) k (by omega)
  have num : F4.f k l[i] = some (ba (Go.Lib.itoa l[i])) := P86 (by omega) (by omega)
  rw [if_pos (by omega), hr, P1 (by omega) (by omega), num]; simp only [Option.bind_some]
  have comma : (ba (P13 (l.take i))) ++ (⟨#[44]⟩ : ByteArray) = ba (P13 (l.take i) ++ [44]) := P19 _ [44]
  by_cases h : i = 0
  ·subst h
   rw [if_neg (by omega), if_pos (by omega)]
   have e0 : P13 (l.take 0) = [] := rfl
   rw [e0, P7, P7, if_pos (by simp; omega), P19, List.nil_append]
   rw [if_pos rfl] at h2
   rw [h2] at goOn; exact goOn
  ·rw [if_pos (by omega), P7, if_pos (by omega), if_pos (by omega), comma, P7, P7, if_pos (by simp; omega), P19]
   rw [if_neg h] at h2
   rw [h2] at goOn; exact goOn
theorem P222 (l : List Int) (hl : l.length ≤ 100) (hb : ∀ x ∈ l, -60 ≤ x ∧ x ≤ 60) {k : Nat} (hk : 200 ≤ k) : F33.f k l = some (ba (P64 l)) := by
 unfold F33.f
 exact P305 l hl hb l.length 0 (Nat.zero_add _) k (by omega)
theorem P306 {a b : Int} (h : P0 a b) {k : Nat} (hk : 1000001 ≤ k) : F77.f k a b = some (P41 a b) := by
 unfold F77.f F84.f P41
 rw [P29 _ _ hk]; simp only [Option.bind_some, decide_eq_true_eq]
 rw [if_pos h]
 by_cases h1 : Int.tmod a 2 = 0
 ·rw [if_pos h1, if_pos h1]; rfl
 ·rw [if_neg h1, if_neg h1]
  by_cases h2 : Int.tmod b 2 = 0
  ·rw [if_pos h2, if_pos h2]; rfl
  ·rw [if_neg h2, if_neg h2]; rfl
theorem P307 {a b : Int} (h : P0 a b) {k : Nat} (hk : 1000001 ≤ k) : F83.f k a b = some (P65 a) := by
 unfold F83.f P65
 rw [P29 _ _ hk]; simp only [Option.bind_some, decide_eq_true_eq]
 rw [if_pos h]; split <;> rfl
theorem P308 (l : List S38) (i : Nat) (h : i < l.length) : l.drop i = rd_T38 l (i : Int) :: l.drop (i + 1) := by
 rw [List.drop_eq_getElem_cons h]
 unfold rd_T38
 simp [h]
def P27 (l : List UInt8) : List S38 → Int × ByteArray × Bool
 | [] => (0, ⟨#[]⟩, false)
 | c :: r => if P8 c.f0 c.f1.data.toList = l then (c.f0, c.f1, true) else P27 l r
theorem P309 (s : ByteArray) (hne : s.data.toList ≠ []) (C : List S38) (hC : C.length ≤ 10) (hsz : ∀ c ∈ C, c.f1.size ≤ 100000000) (n : Nat) : ∀ i : Nat, i + n = C.length → ∀ k, n + 300000011 ≤ k →
  F7.l0 k s C (i : Int) = some (P27 s.data.toList (C.drop i)) := by
 induction n with
 | zero =>
  intro i hi k hk
  obtain ⟨k, rfl⟩ : ∃ m, k = m + 1 := ⟨k - 1, by omega⟩
  simp only [F7.l0]
  rw [if_neg (by omega), List.drop_of_length_le (by omega)]; rfl
 | succ n ih =>
  intro i hi k hk
  obtain ⟨k, rfl⟩ : ∃ m, k = m + 1 := ⟨k - 1, by omega⟩
  have hd := P308 C i (by omega)
  have hm : rd_T38 C (i : Int) ∈ C := List.mem_of_mem_drop (i := i) (by rw [hd]; simp)
  simp only [F7.l0]
  rw [if_pos (by omega), ByteArray.toList_eq, if_neg hne, if_pos (by omega), P197 _ _ (hsz _ hm) (by omega), P1 (by omega) (by omega), show ((i : Int) + 1) = ((i + 1 : Nat) : Int) by omega, ih (i + 1) (by omega) k (by omega), hd]
  simp only [Option.bind_some, P27]
  rw [P74]
  split <;> rfl
theorem P223 {l : List UInt8} : ∀ {C : List S38}, (P27 l C).2.2 = true → ∃ c ∈ C, P8 c.f0 c.f1.data.toList = l ∧ P27 l C = (c.f0, c.f1, true)
 | [], h => by simp [P27] at h
 | c :: r, h => by
  simp only [P27] at h ⊢
  by_cases hc : P8 c.f0 c.f1.data.toList = l
  ·exact ⟨c, by simp, hc, by rw [if_pos hc]⟩
  ·rw [if_neg hc] at h ⊢
   obtain ⟨d, h1, h2, h3⟩ := P223 h
   exact ⟨d, by simp [h1], h2, h3⟩
theorem P224 {l : List UInt8} : ∀ {C : List S38}, ¬ (P27 l C).2.2 = true → P27 l C = (0, ⟨#[]⟩, false) ∧ ∀ c ∈ C, P8 c.f0 c.f1.data.toList ≠ l
 | [], _ => ⟨rfl, by simp⟩
 | c :: r, h => by
  simp only [P27] at h ⊢
  by_cases hc : P8 c.f0 c.f1.data.toList = l
  ·rw [if_pos hc] at h; exact absurd rfl h
  ·rw [if_neg hc] at h ⊢
   obtain ⟨h1, h2⟩ := P224 h
   refine ⟨h1, fun d hd => ?_⟩
   rcases List.mem_cons.1 hd with rfl | hd
   ·exact hc
   ·exact h2 d hd
theorem P225 {l : List UInt8} (hne : l ≠ []) (C : List S38) (h : ∀ k t, P8 k t = l → (⟨k, ba t⟩ : S38) ∈ C) : P27 l C = ((rdv l).1, ba (rdv l).2.1, (rdv l).2.2) := by
 by_cases hf : (P27 l C).2.2 = true
 ·obtain ⟨c, _, h2, h3⟩ := P223 hf
  have := P219 (k := c.f0) (t := c.f1.data.toList) (by rw [h2]; exact hne)
  rw [h2] at this
  rw [h3, this]; rfl
 ·obtain ⟨h1, h2⟩ := P224 hf
  rcases P220 l with ⟨k, t, _, hd, _⟩ | ⟨_, hr⟩
  ·exact absurd hd (h2 _ (h k t hd))
  ·rw [h1, hr]; rfl
theorem P310 (s : ByteArray) {k : Nat} (hs : s.size ≤ 100000000) (hk : 300000100 ≤ k) : F7.f k s = some ((rdv s.data.toList).1, ba (rdv s.data.toList).2.1, (rdv s.data.toList).2.2) := by
 obtain ⟨k, rfl⟩ : ∃ m, k = m + 1 := ⟨k - 1, by omega⟩
 have hl : s.data.toList.length = s.size := rfl
 unfold F7.f
 have hc := P135 s 32 (k := k + 1) hs (by omega)
 rw [show (((32 : UInt8).toNat : Nat) : Int) = 32 from rfl] at hc
 rw [hc]; simp only [Option.bind_some, List.length_map, F7.j0]
 have hsub := P89 32 s.data.toList []
 by_cases hne : s.data.toList = []
 ·have L0 : ∀ (C : List S38) (n i k : Nat), i + n = C.length → C.length ≤ 10 → n < k → F7.l0 k s C (i : Int) = some (0, ⟨#[]⟩, false) := by
   intro C n
   induction n with
   | zero =>
    intro i k hi hC hk
    obtain ⟨k, rfl⟩ : ∃ m, k = m + 1 := ⟨k - 1, by omega⟩
    simp only [F7.l0]
    rw [if_neg (by omega)]
   | succ n ih =>
    intro i k hi hC hk
    obtain ⟨k, rfl⟩ : ∃ m, k = m + 1 := ⟨k - 1, by omega⟩
    simp only [F7.l0]
    rw [if_pos (by omega), ByteArray.toList_eq, if_pos hne, P1 (by omega) (by omega), show ((i : Int) + 1) = ((i + 1 : Nat) : Int) by omega]
    exact ih (i + 1) k (by omega) hC (by omega)
  rw [hne]
  have e : (P2 32 [] ([] : List UInt8)).length = 1 := rfl
  rw [e, if_neg (by decide)]
  exact L0 _ 3 0 k rfl (by decide) (by omega)
 ·have L := fun (C : List S38) (hC : C.length ≤ 10) (hsz : ∀ c ∈ C, c.f1.size ≤ 100000000) => P309 s hne C hC hsz C.length 0 (by omega) k (by omega)
  by_cases h2 : (P2 32 [] s.data.toList).length = 2
  ·obtain ⟨x, y, hxy⟩ : ∃ x y, P2 32 [] s.data.toList = [x, y] := by
    match h : P2 32 [] s.data.toList, h2 with
    | [x, y], _ => exact ⟨x, y, rfl⟩
   have hy := hsub y (by rw [hxy]; simp)
   rw [hxy, if_pos (by rfl), if_pos (by simp), if_pos (by simp)]
   have e1 : rdOf ByteArray.empty (List.map ba [x, y]) 1 = ba y := rfl
   rw [e1]
   refine (L _ (by simp) ?_).trans (congrArg some ?_)
   ·intro c hc
    have hy2 : (ba y).size ≤ 100000000 := by rw [P7]; simp at hy; omega
    simp at hc
    rcases hc with rfl | rfl | rfl | rfl | rfl
    ·decide
    ·decide
    ·decide
    ·exact hy2
    ·exact hy2
   ·rw [List.drop_zero]
    refine P225 hne _ fun k' t hd => ?_
    rcases P153 hd hne with ⟨rfl, hs', hx⟩ | ⟨rfl, hs', hx⟩ | ⟨rfl, rfl, hs'⟩ | ⟨rfl, rfl, hs'⟩ | ⟨rfl, rfl, hs'⟩
    ·have : y = t := by
      rw [hs', P62 _ _ _ (by decide), P59 _ _ hx] at hxy
      simp at hxy; exact hxy.2.symm
     rw [this]; simp
    ·have : y = t := by
      rw [hs', P62 _ _ _ (by decide), P59 _ _ hx] at hxy
      simp at hxy; exact hxy.2.symm
     rw [this]; simp
    ·exact .head _
    ·exact .tail _ (.head _)
    ·exact .tail _ (.tail _ (.head _))
  ·rw [if_neg (by omega)]
   refine (L _ (by decide) ?_).trans (congrArg some ?_)
   ·intro c hc
    simp at hc
    rcases hc with rfl | rfl | rfl <;> decide
   ·rw [List.drop_zero]
    refine P225 hne _ fun k' t hd => ?_
    rcases P153 hd hne with ⟨rfl, hs', hx⟩ | ⟨rfl, hs', hx⟩ | ⟨rfl, rfl, hs'⟩ | ⟨rfl, rfl, hs'⟩ | ⟨rfl, rfl, hs'⟩
    ·exact absurd (by rw [hs', P62 _ _ _ (by decide), P59 _ _ hx]; rfl) h2
    ·exact absurd (by rw [hs', P62 _ _ _ (by decide), P59 _ _ hx]; rfl) h2
    ·exact .head _
    ·exact .tail _ (.head _)
    ·exact .tail _ (.tail _ (.head _))
theorem P311 (u v : Int) (hf : P0 u v) (n : Nat) : ∀ (acc : List Int) (a b : Nat), b ≤ n → acc.length + b < 17592186044416 → a ≤ 9223372036854775807 → b ≤ 9223372036854775807 → ∀ k, n + 1000001 < k → F32.l0 k acc (a : Int) (b : Int) u v = some (acc ++ P5 a b) := by
 induction n with
 | zero =>
  intro acc a b hb hl ha _ k hk
  obtain ⟨k, rfl⟩ : ∃ m, k = m + 1 := ⟨k - 1, by omega⟩
  obtain rfl : b = 0 := by omega
  simp only [F32.l0]
  rw [if_neg (by omega), P57, List.append_nil]
 | succ n ih =>
  intro acc a b hb hl ha hb' k hk
  obtain ⟨k, rfl⟩ : ∃ m, k = m + 1 := ⟨k - 1, by omega⟩
  simp only [F32.l0]
  by_cases h : b = 0
  ·rw [if_neg (by omega), h, P57, List.append_nil]
  ·have h1 := Nat.mod_lt a (show b > 0 by omega)
   have h2 := Nat.div_le_self a b
   have h3 : (0 : Int) ≤ ((a / b : Nat) : Int) := Int.natCast_nonneg _
   rw [if_pos (by omega), P29 _ _ (by omega)]; simp only [Option.bind_some, decide_eq_true_eq]
   rw [if_pos hf, if_neg (by omega), if_pos (by omega), P208, P209, P1 (by omega) (by omega), ih _ b (a % b) (by omega) (by rw [List.length_append]; simp; omega) hb' (by omega) k (by omega), P95 a h]
   simp
theorem P312 (a b : Int) {k : Nat} (hk : 3000000 ≤ k) : F32.f k a b = some (P143 a b) := by
 unfold F32.f P143
 by_cases h : P0 a b
 ·have h1 := h.1
  have h2 := h.2.1
  rw [P70 (by omega) (by omega), if_pos h]
  have e : b = ((b.natAbs : Nat) : Int) := by omega
  have := P311 a b h b.natAbs [] a.natAbs b.natAbs (Nat.le_refl _) (by simp; omega) (by omega) (by omega) k (by omega)
  rw [← e] at this
  rw [this]; rfl
 ·rw [if_neg h]
  obtain ⟨k, rfl⟩ : ∃ m, k = m + 1 := ⟨k - 1, by omega⟩
  simp only [F32.l0]
  by_cases h0 : b > 0
  ·rw [if_pos h0, P29 _ _ (by omega)]; simp only [Option.bind_some, decide_eq_true_eq]; rw [if_neg h]
  ·rw [if_neg h0]
theorem P313 (l : List Int) (hl : l.length ≤ 1000000) (hp : ∀ x ∈ l, 0 ≤ x) (n : Nat) : ∀ (s : Int) (i : Nat), i + n = l.length → 0 ≤ s → s + (l.drop i).sum ≤ 4611686018427387904 → ∀ k, n < k → F46.l0 k s l (i : Int) = some (s + (l.drop i).sum) := by
 induction n with
 | zero =>
  intro s i hi hs hb k hk
  obtain ⟨k, rfl⟩ : ∃ m, k = m + 1 := ⟨k - 1, by omega⟩
  simp only [F46.l0]
  rw [if_neg (by omega), List.drop_of_length_le (by omega)]; simp
 | succ n ih =>
  intro s i hi hs hb k hk
  obtain ⟨k, rfl⟩ : ∃ m, k = m + 1 := ⟨k - 1, by omega⟩
  simp only [F46.l0]
  have hd := P110 l i (by omega)
  have h0 := P147 (l.drop (i + 1)) (fun x hx => hp x (List.mem_of_mem_drop hx))
  have h1 : 0 ≤ rd l (i : Int) := hp _ (List.mem_of_mem_drop (i := i) (by rw [hd]; simp))
  rw [hd, List.sum_cons] at hb
  rw [if_pos (by omega), if_pos (by omega), P1 (by omega) (by omega), P1 (n := (i : Int) + 1) (by omega) (by omega)]
  have := ih (s + rd l (i : Int)) (i + 1) (by omega) (by omega) (by omega) k (by omega)
  rw [hd, List.sum_cons, ← Int.add_assoc, ← this]; rfl
theorem P314 (a b : Int) {k : Nat} (hk : 3000000 ≤ k) : F46.f k a b = some (P58 a b) := by
 unfold F46.f P58
 rw [P29 _ _ (by omega)]; simp only [Option.bind_some, decide_eq_true_eq]
 by_cases h : P0 a b
 ·have h1 := h.1
  have h2 := h.2.1
  rw [if_pos h, if_pos h, P312 _ _ hk]; simp only [Option.bind_some]; unfold P143 P146; rw [if_pos h]
  have hl := P210 b.natAbs a.natAbs b.natAbs (Nat.le_refl _)
  have hs := P145 b.natAbs a.natAbs b.natAbs (Nat.le_refl _)
  have := P313 (P5 a.natAbs b.natAbs) (by omega) (P144 b.natAbs _ _ (Nat.le_refl _)) _ 0 0 (Nat.zero_add _) (by omega) (by rw [List.drop_zero]; omega) k (by omega)
  rw [List.drop_zero, Int.zero_add] at this
  exact this
 ·rw [if_neg h, if_neg h]
theorem P315 (a b : Int) {k : Nat} (hk : 1000002 ≤ k) : F51.f k a b = some (P14 a b) := by
 obtain ⟨k, rfl⟩ : ∃ m, k = m + 1 := ⟨k - 1, by omega⟩
 unfold F51.f
 rw [P29 _ _ (by omega)]; simp only [P47, Option.bind_some, decide_eq_true_eq]
 have no : ¬ (P0 a b ∧ (-60 ≤ a ∧ a ≤ 60)) → F51.j0 (k + 1) true a b = some (P14 a b) := by
  intro h; simp only [F51.j0]; rw [if_pos trivial]; unfold P14; rw [if_neg h]
 by_cases h : P0 a b
 ·rw [if_pos h]
  by_cases h2 : -60 ≤ a ∧ a ≤ 60
  ·rw [decide_eq_true h2]; simp only [F51.j0]; rw [if_neg (by decide)]
   by_cases h0 : a = 0
   ·rw [if_pos h0]; unfold P14; rw [if_pos ⟨h, by omega⟩, if_pos h0]
   ·rw [if_neg h0]; exact P205 h (by omega) h0
  ·rw [decide_eq_false h2]; exact no (fun x => h2 x.2)
 ·rw [if_neg h]; exact no (fun x => h x.1)
theorem P316 (a b : Int) {k : Nat} (hk : 1000 ≤ k) : F68.f k a b = some (decide (P31 a b)) := by
 unfold F68.f
 by_cases h2 : a = 0
 ·rw [if_pos h2]; subst h2; exact P35 (P140 b).symm
 ·rw [if_neg h2]
  by_cases h3 : a = 1
  ·rw [if_pos h3]; subst h3; exact P35 (P204 b).symm
  ·rw [if_neg h3, P47]; simp only [Option.bind_some, decide_eq_true_eq]
   by_cases h1 : 2 ≤ a ∧ a ≤ 60
   ·rw [if_pos h1, P47, P1 (by omega) (by omega)]; simp only [Option.bind_some, decide_eq_true_eq]
    by_cases h4 : 1 ≤ b ∧ b ≤ a - 1
    ·rw [if_pos h4, P100 (by omega) (by omega) (by omega)]; simp only [Option.bind_some, P290]
     exact P35 ⟨fun x => (P91 h2 h3).2 ⟨h1, by omega, x⟩, fun x => ((P91 h2 h3).1 x).2.2⟩
    ·rw [if_neg h4]; exact (P22 (fun x => by have := (P91 h2 h3).1 x; omega)).symm
   ·rw [if_neg h1]; exact (P22 (fun x => h1 ((P91 h2 h3).1 x).1)).symm
theorem P317 (n : Nat) : ∀ (x a b : Nat), 0 < a → a ≤ x + n → x ≤ 100 → a ≤ 100 → b ≤ 100 → ∀ k, n < k → F53.l0 k (b : Int) (a : Int) (x : Int) = some ((P92 n x b a : Nat) : Int) := by
 induction n with
 | zero =>
  intro x a b ha hb hx _ _ k hk
  obtain ⟨k, rfl⟩ : ∃ m, k = m + 1 := ⟨k - 1, by omega⟩
  simp only [F53.l0]
  rw [if_neg (by omega)]; rfl
 | succ n ih =>
  intro x a b ha hb hx ha' hb' k hk
  obtain ⟨k, rfl⟩ : ∃ m, k = m + 1 := ⟨k - 1, by omega⟩
  simp only [F53.l0, P92]
  by_cases h : x < a
  ·have hm : x * b ≤ 100 * 100 := Nat.mul_le_mul hx hb'
   rw [if_pos (by omega), if_neg (by omega), if_pos h, ← Int.natCast_mul, P1 (n := ((x * b : Nat) : Int)) (by omega) (by omega), P94]
   by_cases h1 : x * b % a = 1
   ·rw [if_pos (by omega), if_pos h1]
   ·rw [if_neg (by omega), if_neg h1, P1 (by omega) (by omega)]
    have := ih (x + 1) a b ha (by omega) (by omega) ha' hb' k (by omega)
    rw [← this]; rfl
  ·rw [if_neg (by omega), if_neg h]; rfl
theorem P318 (a b : Int) {k : Nat} (hk : 1000 ≤ k) : F50.f k a b = some (P66 a b) := by
 unfold F50.f
 rw [P316 _ _ hk]; simp only [Option.bind_some, decide_eq_true_eq]
 unfold P66
 by_cases h : P31 a b
 ·rw [if_pos h, if_pos h]
  have hr := P141 h
  obtain ⟨a, rfl⟩ := Int.eq_ofNat_of_zero_le hr.1
  obtain ⟨b, rfl⟩ := Int.eq_ofNat_of_zero_le hr.2.2.1
  by_cases h0 : a = 0
  ·subst h0
   have := (P140 b).1 h
   obtain rfl : b = 1 := by omega
   rfl
  ·by_cases h1 : a = 1
   ·subst h1
    have := (P204 b).1 h
    obtain rfl : b = 0 := by omega
    rfl
   ·have hm := (P91 (by omega) (by omega)).1 h
    rw [if_neg (by omega)]
    unfold F53.f
    have e := P317 60 1 a b (by omega) (by omega) (by omega) (by omega) (by omega) k (by omega)
    rw [show ((1 : Nat) : Int) = 1 from rfl] at e
    rw [e]; simp only [Option.bind_some]
    have := P291 (a := a) (b := b) (by omega) (by omega) (by omega) (by omega) (by have := hm.2.2; simpa [Int.gcd] using this)
    unfold P55
    rw [show (((a : Nat) : Int)).toNat = a from rfl, show (((b : Nat) : Int)).toNat = b from rfl, ← this]
    congr 3
    unfold mn; split <;> omega
 ·rw [if_neg h, if_neg h]
theorem P319 (a b c : Int) {k : Nat} (hk : 1000001 ≤ k) : F81.f k a b c = some (P56 a b c) := by
 unfold F81.f P56
 rw [P29 _ _ hk]; simp only [Option.bind_some, decide_eq_true_eq, P47]
 by_cases h : P0 a b
 ·have h1 := h.1
  rw [if_pos h]
  by_cases c1 : 1 ≤ c ∧ c ≤ 12
  ·rw [if_pos c1, P100 (by omega) (by omega) (by omega), if_pos (show P0 a b ∧ (1 ≤ c ∧ c ≤ 12) from ⟨h, c1⟩)]; simp only [Option.bind_some]; rw [Int.gcd_comm, P207 a (by omega) (by omega)]
  ·rw [if_neg c1, if_neg (fun x => c1 x.2)]
 ·rw [if_neg h, if_neg (fun x => h x.1)]
theorem P117 {s : List UInt8} {n : Int} (h : P15 s = some n) : P2 32 [] s = [[99, 111, 108, 111, 117, 114, 115], Go.Lib.itoa n] := by
 obtain ⟨_, _, e⟩ := P115 h
 have e2 : s = [99, 111, 108, 111, 117, 114, 115] ++ 32 :: Go.Lib.itoa n := e
 rw [e2, P62 _ _ _ (by decide), P59 _ _ (P297 n)]; rfl
theorem P320 {s x : List UInt8} (h : P2 32 [] s = [[99, 111, 108, 111, 117, 114, 115], x]) (h1 : (P4 x).2 = true) (h2 : 0 ≤ (P4 x).1) : P15 s = some (P4 x).1 := by
 rcases P112 32 s with hn | ⟨p, q, e, hp⟩
 ·rw [P59 _ _ hn] at h; simp at h
 ·rw [e, P62 _ _ _ hp] at h
  injection h with e1 h
  rw [List.nil_append] at e1
  rcases P112 32 q with hn | ⟨p', q', e', hp'⟩
  ·rw [P59 _ _ hn, List.nil_append] at h
   injection h with e2 _
   subst e2
   obtain ⟨u, hu, hq⟩ := P217 h1 h2
   have hd := P67 (n := (u : Int)) (by omega)
   rw [e, e1, hq, hd]
   exact P218 (n := (u : Int)) (by omega) (by omega)
  ·rw [e', P62 _ _ _ hp'] at h
   injection h with _ h
   obtain ⟨y, r, e3⟩ := P124 32 q' []
   rw [e3] at h; cases h
theorem P321 (a b : Int) (l : List S31) (s : ByteArray) {k : Nat} (hl : l.length ≤ 100000000) (hs : s.size ≤ 100000000) (hk : 400000000 ≤ k) :
  F13.f k a b l s = some ((P26 a b l s.data.toList).1, (P26 a b l s.data.toList).2.1, (P26 a b l s.data.toList).2.2.1, ba (P26 a b l s.data.toList).2.2.2) := by
 have copy : F40.f a b l = some (a, b, l) := by unfold F40.f; simp only [Option.bind_some, List.nil_append]; rw [if_pos (by simp; omega)]
 unfold F13.f P26 P6
 rw [P106 a b l hl (by omega)]; simp only [Option.bind_some, decide_eq_true_eq]
 by_cases hd : P12 a b l
 ·have hf := hd.1
  rw [if_pos hd, if_pos hd, copy]; simp only [Option.bind_some]
  rw [P310 s hs (by omega)]; simp only [Option.bind_some]
  by_cases hr : (rdv s.data.toList).2.2 = true
  ·rw [if_pos hr, if_pos hr]
   have ht : (ba (rdv s.data.toList).2.1).size ≤ 100000000 := by
    have := P221 s.data.toList
    rw [P7]; have hsz : s.data.toList.length = s.size := rfl; omega
   rw [P195 a b l _ _ hl ht (by omega)]; simp only [Option.bind_some, P52]
   unfold P69
   rw [if_pos hd]
   split <;> rfl
  ·rw [if_neg hr, if_neg hr]
   simp only [ByteArray.toList_eq]
   unfold P60
   have hsz : s.data.toList.length = s.size := rfl
   generalize hz : s.data.toList = z at *
   have num : ∀ {n : Int} {k : Nat}, n.natAbs < 10000000 → 400000000 ≤ k + 10 → F4.f k n = some (ba (Go.Lib.itoa n)) := fun h h' => P86 (by omega) (by omega)
   have ht := P148 a b
   have he := P109 a b
   by_cases q0 : z = [116, 101, 120, 116]
   ·rw [if_pos q0, if_pos q0]
    rw [P127 a b (by omega)]; simp only [Option.bind_some]; unfold P68; rw [if_pos hf]
   ·rw [if_neg q0, if_neg q0]
    by_cases q1 : z = [109, 111, 118, 101, 115]
    ·rw [if_pos q1, if_pos q1]
     rw [P193 a b (by omega)]; simp only [Option.bind_some]
     split
     ·have := P116 a b
      rw [P7, if_pos (by omega)]
      have e : (⟨#[58]⟩ : ByteArray) ++ ba (P11 a b).1 = ba (58 :: (P11 a b).1) := P19 [58] _
      rw [e]
     ·rfl
    ·rw [if_neg q1, if_neg q1]
     by_cases q2 : z = [116, 101, 114, 109, 115]
     ·rw [if_pos q2, if_pos q2]
      rw [P304 a b (by omega)]; simp only [Option.bind_some]
      rw [P222 _ ht.1 ht.2.1 (by omega)]; rfl
     ·rw [if_neg q2, if_neg q2]
      by_cases q3 : z = [99, 114, 111, 115, 115, 105, 110, 103, 115]
      ·rw [if_pos q3, if_pos q3]
       rw [P314 a b (by omega)]; simp only [Option.bind_some]
       rw [num (P149 a b) (by omega)]; rfl
      ·rw [if_neg q3, if_neg q3]
       by_cases q4 : z = [101, 110, 100, 115]
       ·rw [if_pos q4, if_pos q4]
        rw [P306 hf (by omega)]; simp only [Option.bind_some]
        rw [P222 _ he.1 he.2.1 (by omega)]; unfold P64; rw [if_neg he.2.2]; rfl
       ·rw [if_neg q4, if_neg q4]
        by_cases q5 : z = [114, 105, 110, 103, 115]
        ·rw [if_pos q5, if_pos q5]
         rw [P307 hf (by omega)]; simp only [Option.bind_some]
         rw [num (by unfold P65; split <;> decide) (by omega)]; rfl
        ·rw [if_neg q5, if_neg q5]
         by_cases q6 : z = [108, 105, 110, 107]
         ·rw [if_pos q6, if_pos q6]
          rw [P315 a b (by omega)]; simp only [Option.bind_some]
          split
          ·next hlk =>
           have hb := P151 (P152 hlk)
           rw [P318 _ _ (by omega)]; simp only [Option.bind_some]
           have l1 := P36 hb.1
           have l2 := P36 hb.2
           rw [num hb.1 (by omega), num hb.2 (by omega)]; simp only [Option.bind_some]
           have e : ∀ x : List UInt8, ba x ++ (⟨#[58]⟩ : ByteArray) = ba (x ++ [58]) := fun x => P19 x [58]
           rw [P7, if_pos (by omega), e, P7, P7, if_pos (by simp; omega), P19]
           simp
          ·rfl
         ·rw [if_neg q6, if_neg q6]
          have hc := P135 s 32 (k := k) hs (by omega)
          rw [hz] at hc
          have hc' : F21.f k s 32 = some ((P2 32 [] z).map ba) := hc
          rw [hc']; simp only [Option.bind_some, List.length_map]
          obtain ⟨k, rfl⟩ : ∃ m, k = m + 2 := ⟨k - 2, by omega⟩
          have what : ∀ w : List ByteArray, F13.j0 (k + 2) w true a b l a b = some (a, b, l, ba [119, 104, 97, 116]) := by
           intro w; simp only [F13.j0]; rw [if_pos trivial]; rfl
          by_cases h2 : ((P2 32 [] z).length : Int) = 2
          ·rw [if_pos h2, if_pos (by omega)]
           obtain ⟨x, y, hw⟩ : ∃ x y, P2 32 [] z = [x, y] := by
            match hq : P2 32 [] z, h2 with
            | [x, y], _ => exact ⟨x, y, rfl⟩
            | [], h => simp at h
            | [x], h => simp at h
            | x :: y :: v :: r, h => simp at h; omega
           rw [hw]
           have r0 : rdOf ByteArray.empty ([x, y].map ba) 0 = ba x := rfl
           have r1 : rdOf ByteArray.empty ([x, y].map ba) 1 = ba y := rfl
           rw [r0, P52]
           by_cases hx : x = [99, 111, 108, 111, 117, 114, 115]
           ·subst hx
            rw [show (([99, 111, 108, 111, 117, 114, 115] : List UInt8) != [99, 111, 108, 111, 117, 114, 115]) = false by decide]
            have hy : y.length ≤ 100000000 := by
             have := P89 32 z [] y (by rw [hw]; simp)
             simp at this; omega
            simp only [F13.j0]
            rw [if_neg (by decide), if_pos (by simp), r1, P191 (ba y) (by rw [P7]; exact hy) (by omega)]; simp only [Option.bind_some, P52]
            have what1 : ∀ n : Int, F13.j1 (k + 1) n true a b l a b = some (a, b, l, ba [119, 104, 97, 116]) := by
             intro n; simp only [F13.j1]; rw [if_pos trivial]; rfl
            by_cases h3 : (P4 y).2 = true
            ·rw [if_pos h3]
             by_cases h4 : (P4 y).1 < 0
             ·have hno : P15 z = none := by
               cases hcn : P15 z with
               | none => rfl
               | some n =>
                have := P117 hcn
                rw [hw] at this; injection this with _ this; injection this with this _
                obtain ⟨b1, b2, _⟩ := P115 hcn
                rw [this, P67 (by omega)] at h4
                simp only at h4; omega
              rw [decide_eq_true h4, what1, hno]
             ·rw [decide_eq_false h4, P320 hw h3 (by omega)]
              simp only [F13.j1]
              rw [if_neg (by decide), P47]; simp only [Option.bind_some, decide_eq_true_eq]
              by_cases h5 : 1 ≤ (P4 y).1 ∧ (P4 y).1 ≤ 12
              ·rw [if_pos h5, if_pos h5, P319 _ _ _ (by omega)]; simp only [Option.bind_some]
               rw [num (P150 a b _) (by omega)]; rfl
              ·rw [if_neg h5, if_neg h5]; rfl
            ·have hno : P15 z = none := by
              cases hcn : P15 z with
              | none => rfl
              | some n =>
               have := P117 hcn
               rw [hw] at this; injection this with _ this; injection this with this _
               obtain ⟨b1, b2, _⟩ := P115 hcn
               rw [this, P67 (by omega)] at h3
               exact absurd rfl h3
             rw [if_neg h3, what1, hno]
           ·have hno : P15 z = none := by
             cases hcn : P15 z with
             | none => rfl
             | some n =>
              have := P117 hcn
              rw [hw] at this; injection this with this _
              exact absurd this hx
            rw [show (x != [99, 111, 108, 111, 117, 114, 115]) = true by simpa using hx, what, hno]
          ·have hno : P15 z = none := by
            cases hcn : P15 z with
            | none => rfl
            | some n =>
             have := P117 hcn
             rw [this] at h2; simp at h2
           rw [if_neg h2, what, hno]
 ·rw [if_neg hd, if_neg hd]; rfl
theorem P322 (a : Int) : F60.f a = some (decide (-1000000 ≤ a ∧ a ≤ 1000000)) := by
 unfold F60.f
 by_cases h : -1000000 ≤ a
 ·rw [if_pos h]; exact P35 ⟨fun x => ⟨h, x⟩, fun x => x.2⟩
 ·rw [if_neg h]; exact (P22 (fun x => h x.1)).symm
theorem P323 (n : Nat) : ∀ (a b : Int), b.natAbs ≤ n → a.natAbs ≤ 9223372036854775807 → b.natAbs ≤ 9223372036854775807 → ∀ k, n < k → F20.l0 k a b = some (Int.gcd a b : Int) := by
 induction n with
 | zero =>
  intro a b hb ha _ k hk
  obtain ⟨k, rfl⟩ : ∃ m, k = m + 1 := ⟨k - 1, by omega⟩
  obtain rfl : b = 0 := by omega
  simp only [F20.l0]
  rw [if_pos trivial, P70 (by omega) (by omega), Int.gcd_zero_right]
 | succ n ih =>
  intro a b hb ha hb' k hk
  obtain ⟨k, rfl⟩ : ∃ m, k = m + 1 := ⟨k - 1, by omega⟩
  simp only [F20.l0]
  by_cases h : b = 0
  ·subst h; rw [if_pos rfl, P70 (by omega) (by omega), Int.gcd_zero_right]
  ·have := P164 a h
   rw [if_neg h, ih b (Int.tmod a b) (by omega) hb' (by omega) k (by omega), P165]
theorem P154 {a b : Int} {k : Nat} (ha : a.natAbs ≤ 9223372036854775807) (hb : b.natAbs ≤ 9223372036854775807) (hk : b.natAbs < k) : F20.f k a b = some (Int.gcd a b : Int) :=
 P323 b.natAbs a b (Nat.le_refl _) ha hb k hk
theorem P49 (a b : Int) {k : Nat} (hk : 1000001 ≤ k) : F3.f k a b = some (decide (P0 a b)) := by
 unfold F3.f
 rw [P322]; simp only [Option.bind_some, decide_eq_true_eq]
 by_cases h1 : -1000000 ≤ a ∧ a ≤ 1000000
 ·rw [if_pos h1]
  by_cases h2 : b < 0
  ·rw [if_pos h2]; exact (P22 (fun x => by have := x.2.1; omega)).symm
  ·rw [if_neg h2]
   by_cases h2' : b > 1000000
   ·rw [if_pos h2']; exact (P22 (fun x => by have := x.2.1; omega)).symm
   ·rw [if_neg h2', P154 (by omega) (by omega) (by omega)]; simp only [Option.bind_some]
    have hb : (((Int.gcd a b : Nat) : Int) == 1) = decide (Int.gcd a b = 1) := by
     rw [Bool.eq_iff_iff]; simp; omega
    rw [hb]
    by_cases h4 : b = 0
    ·rw [if_pos h4]
     by_cases h5 : a = 1
     ·rw [if_pos h5]; exact P35 ⟨fun h => ⟨h1, by omega, h, fun _ => h5⟩, fun h => h.2.2.1⟩
     ·rw [if_neg h5]; exact (P22 (fun x => h5 (x.2.2.2 h4))).symm
    ·rw [if_neg h4]; exact P35 ⟨fun h => ⟨h1, by omega, h, fun h' => absurd h' h4⟩, fun h => h.2.2.1⟩
 ·rw [if_neg h1]; exact (P22 (fun x => h1 x.1)).symm
theorem P118 (a b m : Int) {k : Nat} (hk : 1000001 ≤ k) (hm : 0 ≤ m) (hm' : m ≤ 1000000) : F39.f k a b m = some (decide (P10 a b m)) := by
 unfold F39.f
 rw [P49 a b hk]; simp only [Option.bind_some, decide_eq_true_eq]
 by_cases h : P0 a b
 ·rw [if_pos h, P1 (by omega) (by omega)]
  by_cases h1 : a ≥ -m
  ·rw [if_pos h1]
   by_cases h2 : a ≤ m
   ·rw [if_pos h2]; exact P35 ⟨fun x => ⟨h, ⟨h1, h2⟩, x⟩, fun x => x.2.2⟩
   ·rw [if_neg h2]; exact (P22 (fun x => h2 x.2.1.2)).symm
  ·rw [if_neg h1]; exact (P22 (fun x => h1 x.2.1.1)).symm
 ·rw [if_neg h]; exact (P22 (fun x => h x.1)).symm
theorem P324 {a b : Int} (ha : -60 ≤ a ∧ a ≤ 60) (hb : 0 < b) : F70.f a b = some (cl a b) := by
 unfold F70.f
 have h1 := P199 a b ha
 have h2 := P200 a b ha
 have h3 := P285 a hb
 rw [if_neg (by omega), P1 (n := Int.tdiv a b) (by omega) (by omega), P1 (n := Int.tdiv a b * b) (by omega) (by omega), P1 (n := Int.tdiv a b + 1) (by omega) (by omega)]
 rw [← h3]; split <;> rfl
theorem P325 (n : Nat) : ∀ (out : List Int) (a b : Int), out.length + n ≤ 1000 → (-60 ≤ a ∧ a ≤ 60) → (0 < b ∧ b ≤ 60) → b ≤ n → ∀ k, n < k → F49.l0 k out a b = some (out ++ P16 n a b) := by
 induction n with
 | zero => intro out a b _ _ hb hn k hk; omega
 | succ n ih =>
  intro out a b ho ha hb hn k hk
  obtain ⟨k, rfl⟩ : ∃ m, k = m + 1 := ⟨k - 1, by omega⟩
  simp only [F49.l0, P16]
  have h1 := P139 a hb.1
  rw [if_neg (by omega), P324 ha hb.1]; simp only [Option.bind_some]
  rw [if_pos (by omega), P1 (n := cl a b * b) (by omega) (by omega), P1 (by omega) (by omega)]
  by_cases h : cl a b * b - a = 0
  ·rw [if_pos h, h, P286]
  ·rw [if_neg h, ih (out ++ [cl a b]) b (cl a b * b - a) (by simp; omega) (by omega) (by omega) (by omega) k (by omega)]
   simp
theorem P326 (a b : Int) {k : Nat} (hk : 1000001 ≤ k) : F71.f k a b = some (P30 a b) := by
 unfold F71.f P30 F49.f
 rw [P118 a b 60 hk (by omega) (by omega)]; simp only [Option.bind_some, decide_eq_true_eq]
 by_cases h : P10 a b 60
 ·have h2 := h.1.2.1
  have h3 := h.2
  rw [if_pos h]
  by_cases h0 : b = 0
  ·rw [if_pos h0, if_neg (fun x => x.2 h0)]
  ·rw [if_neg h0, if_pos ⟨h, h0⟩, P325 60 [] a b (by simp) h3.1 (by omega) (by omega) k (by omega)]; rfl
 ·rw [if_neg h, if_neg (fun x => h x.1)]
theorem P327 {a b : Int} (h : P0 a b) {k : Nat} (hk : 1000001 ≤ k) : F78.f k a b = some (P41 a b) := by
 unfold F78.f F63.f P41
 rw [P49 _ _ hk]; simp only [Option.bind_some, decide_eq_true_eq]
 rw [if_pos h]
 by_cases h1 : Int.tmod a 2 = 0
 ·rw [if_pos h1, if_pos h1]; rfl
 ·rw [if_neg h1, if_neg h1]
  by_cases h2 : Int.tmod b 2 = 0
  ·rw [if_pos h2, if_pos h2]; rfl
  ·rw [if_neg h2, if_neg h2]; rfl
theorem P328 {a b : Int} (h : P0 a b) {k : Nat} (hk : 1000001 ≤ k) : F86.f k a b = some (P65 a) := by
 unfold F86.f F63.f P65
 rw [P49 _ _ hk]; simp only [Option.bind_some, decide_eq_true_eq]
 rw [if_pos h]
 by_cases h1 : Int.tmod a 2 = 0
 ·rw [if_pos h1, if_pos h1]; rfl
 ·rw [if_neg h1, if_neg h1]
  by_cases h2 : Int.tmod b 2 = 0
  ·rw [if_pos h2]; rfl
  ·rw [if_neg h2]; rfl
theorem P329 (l : List Int) (hl : l.length ≤ 100) (hb : ∀ x ∈ l, -60 ≤ x ∧ x ≤ 60) (n : Nat) : ∀ i : Nat, i + n = l.length → ∀ k, n < k → F29.l0 k ((l.take i).map fun x => ba (Go.Lib.itoa x)) l (l.length : Int) (i : Int) = some (ba (P13 l)) := by
 induction n with
 | zero =>
  intro i hi k hk
  obtain ⟨k, rfl⟩ : ∃ m, k = m + 1 := ⟨k - 1, by omega⟩
  simp only [F29.l0]
  have hr := P108 l.length l rfl hb
  have e : (l.map fun x => ba (Go.Lib.itoa x)).map (fun s => s.data.toList) = l.map Go.Lib.itoa := by
   rw [List.map_map]; rfl
  rw [if_neg (by omega), List.take_of_length_le (by omega)]
  unfold strings_Join.f
  rw [e, List.length_map]
  have e2 : Go.Lib.join (l.map Go.Lib.itoa) (⟨#[44]⟩ : ByteArray).data.toList = P13 l := rfl
  rw [e2, if_pos ⟨by omega, by omega⟩]; rfl
 | succ n ih =>
  intro i hi k hk
  obtain ⟨k, rfl⟩ : ∃ m, k = m + 1 := ⟨k - 1, by omega⟩
  have hil : i < l.length := by omega
  simp only [F29.l0]
  have hd := P110 l i hil
  have hr : rd l (i : Int) = l[i] := by
   have e := List.drop_eq_getElem_cons hil
   rw [e] at hd; injection hd with h1 _; exact h1.symm
  have hx := hb l[i] (List.getElem_mem hil)
  rw [if_pos (by omega), if_pos (by omega), if_pos (by omega), hr, P114 (by omega)]; simp only [Option.bind_some]
  rw [if_pos (by simp; omega), P1 (by omega) (by omega)]
  have := ih (i + 1) (by omega) k (by omega)
  rw [List.take_succ_eq_append_getElem hil, List.map_append] at this
  exact this
theorem P226 (l : List Int) (hl : l.length ≤ 100) (hb : ∀ x ∈ l, -60 ≤ x ∧ x ≤ 60) {k : Nat} (hk : 200 ≤ k) : F29.f k l = some (ba (P13 l)) := by
 unfold F29.f
 exact P329 l hl hb l.length 0 (Nat.zero_add _) k (by omega)
theorem P227 {a b : Int} (h : P0 a b) : F35.f a b = some (ba (P9 a b)) := by
 have hb := P85 h
 have h1 := P36 hb.1
 have h2 := P36 hb.2
 unfold F35.f P9
 rw [P114 (by omega), P114 (by omega)]; simp only [Option.bind_some]
 by_cases h3 : b = 1
 ·rw [if_pos h3, if_pos h3]
 ·rw [if_neg h3, if_neg h3]
  rw [P7, if_pos (by omega)]
  have e : ba (Go.Lib.itoa a) ++ (⟨#[47]⟩ : ByteArray) = ba (Go.Lib.itoa a ++ [47]) := P19 _ [47]
  rw [e, P7, P7, if_pos (by simp; omega), P19]
  simp
theorem P155 (s : ByteArray) {k : Nat} (hk : 1000002 ≤ k) (a : Int) (e : Option Int) (b : Int) : F27.j0 k s a e b = some (if e.isNone = true ∧ P0 a b ∧ P9 a b = s.data.toList then (a, b, true) else (0, 0, false)) := by
 obtain ⟨k, rfl⟩ : ∃ m, k = m + 1 := ⟨k - 1, by omega⟩
 simp only [F27.j0]
 by_cases h : e.isNone = true
 ·rw [if_pos h, P49 _ _ (by omega)]; simp only [Option.bind_some, decide_eq_true_eq]
  by_cases hf : P0 a b
  ·rw [if_pos hf, P227 hf]; simp only [Option.bind_some]
   rw [P74, ByteArray.toList_eq]
   by_cases he : P9 a b = s.data.toList
   ·rw [if_pos he, if_pos ⟨h, hf, he⟩]
   ·rw [if_neg he, if_neg (fun x => he x.2.2)]
  ·rw [if_neg hf, if_neg (fun x => hf x.2.1)]
 ·rw [if_neg h, if_neg (fun x => h x.1)]
theorem P228 (s : ByteArray) (c : UInt8) (hs : s.size ≤ 100000000) : strings_Cut.f s ⟨#[c]⟩ = some (ba (Go.Lib.cut s.data.toList [c]).1, ba (Go.Lib.cut s.data.toList [c]).2.1, (Go.Lib.cut s.data.toList [c]).2.2) := by
 unfold strings_Cut.f
 rw [if_pos (by omega)]; rfl
theorem P229 (s : ByteArray) {k : Nat} (hs : s.size ≤ 100000000) (hk : 1000002 ≤ k) : F27.f k s = some (P25 s.data.toList) := by
 have hl : s.data.toList.length = s.size := rfl
 unfold F27.f
 rw [P228 s 47 hs]; simp only [Option.bind_some]
 rcases P125 s.data.toList with ⟨a, b, hf, ht, hr⟩ | ⟨hno, hr⟩
 ·rw [hr]
  have hb := P85 hf
  by_cases h1 : b = 1
  ·have e : s.data.toList = Go.Lib.itoa a := by rw [← ht]; unfold P9; rw [if_pos h1]
   rw [e, P96 (P84 a)]; simp only
   rw [P113 hb.1]; simp only [Option.bind_some]
   rw [if_neg (by decide), P155 s hk, if_pos ⟨rfl, by rw [← h1]; exact hf, by rw [← ht, h1]⟩, h1]
  ·have e : s.data.toList = Go.Lib.itoa a ++ 47 :: Go.Lib.itoa b := by rw [← ht]; unfold P9; rw [if_neg h1]
   rw [e, P111 _ (P84 a)]; simp only
   rw [P113 hb.1, P113 hb.2]; simp only [Option.bind_some]
   rw [if_pos trivial, if_pos (by rfl), P155 s hk, if_pos ⟨rfl, hf, ht⟩]
 ·rw [hr]
  have J : ∀ a e b, F27.j0 k s a e b = some (0, 0, false) := by
   intro a e b
   rw [P155 s hk, if_neg (fun x => hno a b x.2.1 x.2.2)]
  have L : ∀ w : List UInt8, w.length ≤ s.data.toList.length → ∃ v e, strconv_Atoi.f (ba w) = some (v, e) := fun w hw => P215 (ba w) (by rw [P7]; omega)
  rcases P112 47 s.data.toList with h | ⟨x, y, e, h⟩
  ·rw [P96 h]; simp only
   obtain ⟨v, er, h1⟩ := L s.data.toList (Nat.le_refl _)
   rw [h1]; simp only [Option.bind_some]
   rw [if_neg (by decide), J]
  ·obtain ⟨v, er, h1⟩ := L x (by rw [e]; simp)
   obtain ⟨v', er', h2⟩ := L y (by rw [e]; simp; omega)
   rw [e, P111 _ h]; simp only
   rw [h1, h2]; simp only [Option.bind_some]
   rw [if_pos trivial]
   split
   ·rw [J]
   ·rfl
theorem P98 {α : Type} (p : α → Bool) : ∀ l : List α, (∀ x ∈ l.dropWhile p, p x = true) → ∀ x ∈ l, p x = true
 | [], _ => fun x hx => by simp at hx
 | a :: l, h => by
  intro x hx
  by_cases ha : p a = true
  ·rw [List.dropWhile_cons_of_pos ha] at h
   rcases List.mem_cons.1 hx with rfl | hx
   ·exact ha
   ·exact P98 p l h x hx
  ·rw [List.dropWhile_cons_of_neg ha] at h
   exact h x hx
theorem P230 {α : Type} (p : α → Bool) : ∀ l : List α, (∀ x ∈ l, p x = true) → l.dropWhile p = []
 | [], _ => rfl
 | a :: l, h => by
  rw [List.dropWhile_cons_of_pos (h a (by simp))]
  exact P230 p l fun x hx => h x (by simp [hx])
theorem P330 {α : Type} (p : α → Bool) : ∀ l : List α, l.dropWhile p = [] → ∀ x ∈ l, p x = true :=
 fun l h => P98 p l (by rw [h]; simp)
theorem P331 (l cs : List UInt8) : Go.Lib.trimS l cs = [] ↔ ∀ c ∈ l, c ∈ cs := by
 unfold Go.Lib.trimS Go.Lib.trimLeftS Go.Lib.trimRightS
 constructor
 ·intro h
  have h1 := P330 _ _ h
  have h2 := P98 (cs.contains ·) l.reverse (fun x hx => h1 x (by simpa using hx))
  intro c hc
  simpa using h2 c (by simpa using hc)
 ·intro h
  rw [P230 (cs.contains ·) l.reverse (fun x hx => by simpa using h x (by simpa using hx))]
  rfl
theorem P332 {s : ByteArray} {cs : List UInt8} (hs : s.size ≤ 100000000) (hl : cs.length < 4294967281) (ha : cs.all (fun b => decide (b.toNat < 128)) = true) :
  strings_Trim.f s ⟨⟨cs⟩⟩ = some ⟨⟨Go.Lib.trimS s.data.toList cs⟩⟩ := by
 unfold strings_Trim.f
 rw [if_pos ⟨by omega, by simpa [ByteArray.size] using hl, ha⟩]
theorem P333 (s : ByteArray) (hs : s.size ≤ 100000000) : F75.f s = some (decide (P39 s.data.toList)) := by
 unfold F75.f
 rw [P332 hs (by decide) (by decide)]; simp only [Option.bind_some]
 have e : P39 s.data.toList ↔ Go.Lib.trimS s.data.toList [84, 116, 82] = [] := by
  rw [P331]; unfold P39 P79; simp
 by_cases h : P39 s.data.toList
 ·rw [decide_eq_true h, e.1 h, ByteArray.toList_eq]; rfl
 ·rw [decide_eq_false h]
  have h' : Go.Lib.trimS s.data.toList [84, 116, 82] ≠ [] := fun x => h (e.2 x)
  cases h2 : Go.Lib.trimS s.data.toList [84, 116, 82] with
  | nil => exact absurd h2 h'
  | cons a l => rw [ByteArray.toList_eq]; rfl
theorem P231 (s : ByteArray) (hs : s.size ≤ 100000000) : F62.f s = some (decide (P63 s)) := by
 unfold F62.f
 rw [P333 s hs]; simp only [Option.bind_some]
 have e : s.data.toList.length = s.size := rfl
 by_cases h : (s.size : Int) ≤ 40
 ·rw [if_pos h]; exact P35 ⟨fun x => ⟨by omega, x⟩, fun x => x.2⟩
 ·rw [if_neg h]; exact (P22 (fun x => by have := x.1; omega)).symm
theorem P156 (rd : Bool) (kind : Int) (t : ByteArray) {k : Nat} (hk : 1 ≤ k) (ht : t.size ≤ 100000000) (h0 : ¬ (kind = 0 ∧ P48 t.data.toList)) (hr : rd = decide (kind = 1 ∧ (P25 t.data.toList).2.2 = true)) : F30.j1 k rd kind t = some (ba (P8 kind t.data.toList)) := by
 obtain ⟨k, rfl⟩ : ∃ m, k = m + 1 := ⟨k - 1, by omega⟩
 simp only [F30.j1]
 unfold P8
 rw [if_neg h0, P107, hr]
 by_cases h1 : kind = 1 ∧ (P25 t.data.toList).2.2 = true
 ·rw [decide_eq_true h1, if_pos rfl, if_pos h1, if_pos (by omega)]
  exact congrArg some (P19 [116, 97, 107, 101, 32] t.data.toList)
 ·rw [decide_eq_false h1, if_neg (by decide), if_neg h1]
  by_cases h2 : kind = 2 ∧ t.data.toList = []
  ·rw [if_pos (by simp [h2.1, h2.2]), if_pos h2]; rfl
  ·rw [if_neg (by simpa using h2), if_neg h2]
   by_cases h3 : kind = 3 ∧ t.data.toList = []
   ·rw [if_pos (by simp [h3.1, h3.2]), if_pos h3]; rfl
   ·rw [if_neg (by simpa using h3), if_neg h3]
    by_cases h4 : kind = 4 ∧ t.data.toList = []
    ·rw [if_pos (by simp [h4.1, h4.2]), if_pos h4]; rfl
    ·rw [if_neg (by simpa using h4), if_neg h4]; rfl
theorem P334 (kind : Int) (t : ByteArray) {k : Nat} (ht : t.size ≤ 100000000) (hk : 300000010 ≤ k) : F30.f k kind t = some (ba (P8 kind t.data.toList)) := by
 obtain ⟨k, rfl⟩ : ∃ m, k = m + 1 := ⟨k - 1, by omega⟩
 unfold F30.f
 rw [P229 t ht (by omega)]; simp only [Option.bind_some]
 by_cases h0 : kind = 0
 ·rw [if_pos h0, P231 t (by omega)]; simp only [Option.bind_some, F30.j0]
  by_cases hd : P63 t
  ·rw [decide_eq_true hd, if_pos rfl, if_pos (by omega)]
   unfold P8
   rw [if_pos ⟨h0, hd⟩]
   exact congrArg some (P19 [100, 97, 110, 99, 101, 32] t.data.toList)
  ·rw [decide_eq_false hd, if_neg (by decide), if_neg (by omega)]
   exact P156 _ _ _ (by omega) ht (fun x => hd x.2) (by rw [h0]; rfl)
 ·rw [if_neg h0]; simp only [F30.j0]
  rw [if_neg (by decide)]
  by_cases h1 : kind = 1
  ·rw [if_pos h1]
   refine P156 _ _ _ (by omega) ht (fun x => h0 x.1) ?_
   rw [h1]; simp
  ·rw [if_neg h1]
   exact P156 _ _ _ (by omega) ht (fun x => h0 x.1) (by simp [h1])
def P157 (w : List UInt8) : Int := if w = [100, 97, 110, 99, 101] then 0 else if w = [116, 97, 107, 101] then 1 else if w = [109, 105, 114, 114, 111, 114] then 2 else if w = [117, 110, 116, 105, 101] then 3 else if w = [98, 97, 99, 107] then 4 else -1
theorem P335 (x : ByteArray) {k : Nat} (hk : 10 ≤ k) : F56.f k [(⟨#[100, 97, 110, 99, 101]⟩ : ByteArray), (⟨#[116, 97, 107, 101]⟩ : ByteArray), (⟨#[109, 105, 114, 114, 111, 114]⟩ : ByteArray), (⟨#[117, 110, 116, 105, 101]⟩ : ByteArray), (⟨#[98, 97, 99, 107]⟩ : ByteArray)] x
  = some (P157 x.data.toList) := by
 obtain ⟨k, rfl⟩ : ∃ m, k = m + 6 := ⟨k - 6, by omega⟩
 have w : ∀ i : Int, 0 ≤ i → i ≤ 10 → wrap64 (i + 1) = i + 1 := fun i h0 h1 => P1 (by omega) (by omega)
 unfold F56.f P157
 simp only [F56.l0, List.length_cons, List.length_nil, ByteArray.toList_eq]
 rw [w 0 (by omega) (by omega)]
 rw [w (0 + 1) (by omega) (by omega)]
 rw [w (0 + 1 + 1) (by omega) (by omega)]
 rw [w (0 + 1 + 1 + 1) (by omega) (by omega)]
 rw [w (0 + 1 + 1 + 1 + 1) (by omega) (by omega)]
 by_cases h0 : x.data.toList = [100, 97, 110, 99, 101]
 ·simp [h0, rdOf]
 ·by_cases h1 : x.data.toList = [116, 97, 107, 101]
  ·simp [h1, rdOf]
  ·by_cases h2 : x.data.toList = [109, 105, 114, 114, 111, 114]
   ·simp [h2, rdOf]
   ·by_cases h3 : x.data.toList = [117, 110, 116, 105, 101]
    ·simp [h3, rdOf]
    ·by_cases h4 : x.data.toList = [98, 97, 99, 107]
     ·simp [h4, rdOf]
     ·simp [h0, h1, h2, h3, h4, rdOf]
theorem P336 (s : ByteArray) {k : Nat} (hs : s.size ≤ 100000000) (hk : 300000010 ≤ k) : F82.f k s = some ((rdv s.data.toList).1, ba (rdv s.data.toList).2.1, (rdv s.data.toList).2.2) := by
 have hl : s.data.toList.length = s.size := rfl
 unfold F82.f
 rw [P228 s 32 hs]; simp only [Option.bind_some]
 rw [P335 _ (by omega)]; simp only [Option.bind_some]
 rw [ByteArray.toList_eq, P52]
 by_cases h0 : s.data.toList = []
 ·rw [if_pos h0, h0]; rfl
 ·rw [if_neg h0]
  generalize hw : Go.Lib.cut s.data.toList [32] = c
  generalize hkd : P157 c.1 = kd
  have hc2 : c.2.1.length ≤ s.data.toList.length := by
   rw [← hw]; unfold Go.Lib.cut; split
   ·simp
   ·simp
  rw [P334 _ _ (by rw [P7]; omega) (by omega)]; simp only [Option.bind_some]
  rw [P74, P52]
  rcases P220 s.data.toList with ⟨k', t, hne, hd, hr⟩ | ⟨hno, hr⟩
  ·rw [hr]
   have e : kd = k' ∧ c.2.1 = t := by
    rcases P153 hd hne with ⟨rfl, hs', hx⟩ | ⟨rfl, hs', hx⟩ | ⟨rfl, rfl, hs'⟩ | ⟨rfl, rfl, hs'⟩ | ⟨rfl, rfl, hs'⟩
    ·rw [hs', P111 t (by decide)] at hw; subst hw; exact ⟨by rw [← hkd]; rfl, rfl⟩
    ·rw [hs', P111 t (by decide)] at hw; subst hw; exact ⟨by rw [← hkd]; rfl, rfl⟩
    ·rw [hs', P96 (by decide)] at hw; subst hw; exact ⟨by rw [← hkd]; rfl, rfl⟩
    ·rw [hs', P96 (by decide)] at hw; subst hw; exact ⟨by rw [← hkd]; rfl, rfl⟩
    ·rw [hs', P96 (by decide)] at hw; subst hw; exact ⟨by rw [← hkd]; rfl, rfl⟩
   rw [e.1, e.2, if_pos hd]
  ·rw [hr, if_neg (fun x => h0 (hno _ _ x))]; rfl
theorem P232 {a b n : Int} {k : Nat} (hk : 1000001 ≤ k) (h : P0 a b) (hn : -1000000 ≤ n ∧ n ≤ 1000000) : F61.f k a b n = some (P44 a b n) := by
 unfold F61.f
 rw [P179 h hn, P49 _ _ hk]; simp only [Option.bind_some, decide_eq_true_eq]
 unfold P44; split <;> rfl
theorem P233 {a b : Int} {k : Nat} (h : ¬ (a = 0 ∧ b = 0)) (ha : a.natAbs ≤ 1000000) (hb : b.natAbs ≤ 1000000) (hk : 1000001 ≤ k) : F25.f k a b = some (P46 a b) := by
 unfold F25.f
 rw [P154 (by omega) (by omega) (by omega)]; simp only [Option.bind_some]
 have hg := P81 h
 have hl := P167 h
 rw [P1 (n := -((Int.gcd a b : Nat) : Int)) (by omega) (by omega)]
 unfold P46
 by_cases h1 : b < 0
 ·rw [if_pos h1, if_neg (by omega), if_pos (.inl h1), P33 (by omega), P33 (by omega)]
 ·rw [if_neg h1]
  by_cases h2 : b = 0
  ·rw [if_pos h2]
   by_cases h3 : a < 0
   ·rw [if_pos h3, if_neg (by omega), if_pos (.inr ⟨h2, h3⟩), P33 (by omega), P33 (by omega)]
   ·rw [if_neg h3, if_neg (by omega), if_neg (by omega), P33 (by omega), P33 (by omega)]
  ·rw [if_neg h2, if_neg (by omega), if_neg (by omega), P33 (by omega), P33 (by omega)]
theorem P337 {a b : Int} : P44 a b 1 = P40 (if P0 (a + b) b then some (a + b, b) else none) := by
 unfold P44; rw [Int.one_mul]; split <;> rfl
theorem P338 {a b : Int} : P44 a b (-1) = P40 (if P0 (a - b) b then some (a - b, b) else none) := by
 unfold P44; rw [show a + -1 * b = a - b by omega]; split <;> rfl
theorem P339 (s : ByteArray) (hs : s.size ≤ 40) (n : Nat) : ∀ (i : Nat) (f : Int × Int), i + n = s.size → P0 f.1 f.2 → ∀ k, n + 1000002 ≤ k →
  F42.l0 k s (s.size : Int) (i : Int) f.1 f.2 = some (P40 (P45 (s.data.toList.drop i) f)) := by
 induction n with
 | zero =>
  intro i f hi hf k hk
  obtain ⟨k, rfl⟩ : ∃ m, k = m + 1 := ⟨k - 1, by omega⟩
  simp only [F42.l0]
  rw [if_neg (by omega), P83 (by omega)]; rfl
 | succ n ih =>
  intro i f hi hf k hk
  obtain ⟨k, rfl⟩ : ∃ m, k = m + 1 := ⟨k - 1, by omega⟩
  obtain ⟨m, hd, hb⟩ := P78 (s := s) (i := i) (by omega)
  have e1 : (((m.toNat : Nat) : Int) = 84) ↔ m = 84 := P61 (n := 84) (by omega)
  have e2 : (((m.toNat : Nat) : Int) = 116) ↔ m = 116 := P61 (n := 116) (by omega)
  obtain ⟨a, b⟩ := f
  have IH := fun g hg => ih (i + 1) g (by omega) hg k (by omega)
  simp only at hf
  simp only [F42.l0]
  rw [if_pos (by omega), if_pos (by omega), if_pos (by omega), hb, hd, P1 (n := (i : Int) + 1) (by omega) (by omega), show ((i : Int) + 1) = ((i + 1 : Nat) : Int) by omega]
  simp only [P45]
  unfold P53
  simp only
  by_cases h1 : m = 84
  ·rw [if_pos (e1.2 h1), if_pos h1, P232 (by omega) hf (by omega), P337]; simp only [Option.bind_some]
   by_cases hp : P0 (a + b) b
   ·rw [if_pos hp]; simp only [P40, Option.bind_some]
    exact IH (a + b, b) hp
   ·rw [if_neg hp]; rfl
  ·rw [if_neg (fun x => h1 (e1.1 x)), if_neg h1]
   by_cases h2 : m = 116
   ·rw [if_pos (e2.2 h2), if_pos h2, P232 (by omega) hf (by omega), P338]; simp only [Option.bind_some]
    by_cases hp : P0 (a - b) b
    ·rw [if_pos hp]; simp only [P40, Option.bind_some]
     exact IH (a - b, b) hp
    ·rw [if_neg hp]; rfl
   ·have g1 := hf.1
    have g2 := hf.2.1
    have g4 := hf.2.2.2
    rw [if_neg (fun x => h2 (e2.1 x)), if_neg h2, P1 (n := -b) (by omega) (by omega), P233 (by omega) (by omega) (by omega) (by omega), P88 hf]; simp only [Option.bind_some]
    exact IH (P37 a b) (P129 hf)
theorem P340 (s : ByteArray) (hs : s.size ≤ 40) {a b : Int} (hf : P0 a b) {k : Nat} (hk : 1000100 ≤ k) : F42.f k a b s = some (P40 (P45 s.data.toList (a, b))) := by
 unfold F42.f
 have := P339 s hs s.size 0 (a, b) (by omega) hf k (by omega)
 rw [List.drop_zero] at this
 exact this
theorem P341 {a b : Int} (h : P0 a b) : F85.f a b = some (P43 a b) := by
 unfold F85.f P43
 have h1 := h.1
 split
 ·rw [P1 (by omega) (by omega)]
 ·rfl
theorem P342 (a b : Int) (t : ByteArray) {k : Nat} (ht : t.size ≤ 100000000) (hk : 1000100 ≤ k) : F73.f k a b t = some (P75 a b t.data.toList) := by
 unfold F73.f P75
 rw [P49 _ _ (by omega)]; simp only [Option.bind_some, decide_eq_true_eq]
 by_cases h : P0 a b
 ·rw [if_pos h, P231 t ht]; simp only [Option.bind_some, decide_eq_true_eq]
  by_cases h2 : P63 t
  ·have h3 : P48 t.data.toList := h2
   rw [if_pos h2, if_pos ⟨h3, h⟩, P340 t h2.1 h hk]; rfl
  ·rw [if_neg h2, if_neg (fun x => h2 x.1)]
 ·rw [if_neg h, if_neg (fun x => h x.2)]
theorem P234 (a b : Int) : decide (P10 a b 12) = (P11 a b).2 := by
 unfold P11
 by_cases h : P34 a b
 ·rw [if_pos h]; exact decide_eq_true (show P10 a b 12 from ⟨h.1, h.2.1, h.2.2⟩)
 ·rw [if_neg h]; exact decide_eq_false (fun x : P10 a b 12 => h ⟨x.1, x.2.1, x.2.2⟩)
theorem P343 (a b kind : Int) (t : ByteArray) {k : Nat} (hf : P0 a b) (ht : t.size ≤ 100000000) (hk : 1000200 ≤ k) :
  ∃ v : Int × Int × Bool, F55.f k a b kind t = some v ∧ v.2.2 = (P20 a b kind t.data.toList).2.2 ∧ (v.2.2 = true → v = P20 a b kind t.data.toList) := by
 obtain ⟨k, rfl⟩ : ∃ m, k = m + 1 := ⟨k - 1, by omega⟩
 unfold F55.f P20
 rw [P107]
 by_cases h0 : kind = 0
 ·rw [if_pos h0, if_pos h0, P342 _ _ _ ht (by omega)]
  exact ⟨_, rfl, rfl, fun _ => rfl⟩
 ·rw [if_neg h0, if_neg h0]
  by_cases h1 : kind = 1
  ·rw [if_pos h1, if_pos h1, P229 _ ht (by omega)]
   exact ⟨_, rfl, rfl, fun _ => rfl⟩
  ·rw [if_neg h1, if_neg h1]
   have j : ∀ z : Bool, F55.j0 (k + 1) z a b kind t = if z = true then some ((P43 a b).1, (P43 a b).2, true) else (if kind = 3 then (if t.toList = ([] : List UInt8) then some (0, 1, decide (P10 a b 12)) else some (0, 0, false)) else some (0, 0, false)) := by
    intro z
    simp only [F55.j0]
    rw [P341 hf, P118 a b 12 (by omega) (by omega) (by omega)]; rfl
   by_cases h2 : kind = 2
   ·rw [if_pos h2, j]
    by_cases h3 : t.data.toList = []
    ·rw [if_pos (by simpa using h3), if_pos ⟨h2, h3⟩]
     exact ⟨_, rfl, rfl, fun _ => rfl⟩
    ·rw [if_neg (by simpa using h3), if_neg (show ¬ (kind = 2 ∧ t.data.toList = []) from fun x => h3 x.2), if_neg (show ¬ kind = 3 by omega), if_neg (show ¬ (kind = 3 ∧ t.data.toList = []) from fun x => h3 x.2)]
     exact ⟨_, rfl, rfl, fun x => by cases x⟩
   ·rw [if_neg h2, j, if_neg (by decide), if_neg (show ¬ (kind = 2 ∧ t.data.toList = []) from fun x => h2 x.1)]
    by_cases h3 : kind = 3
    ·rw [if_pos h3]
     by_cases h4 : t.data.toList = []
     ·rw [if_pos (show t.toList = [] by rw [ByteArray.toList_eq]; exact h4), if_pos ⟨h3, h4⟩, P234]
      exact ⟨_, rfl, rfl, fun _ => rfl⟩
     ·rw [if_neg (show ¬ t.toList = [] by rw [ByteArray.toList_eq]; exact h4), if_neg (show ¬ (kind = 3 ∧ t.data.toList = []) from fun x => h4 x.2)]
      exact ⟨_, rfl, rfl, fun x => by cases x⟩
    ·rw [if_neg h3, if_neg (show ¬ (kind = 3 ∧ t.data.toList = []) from fun x => h3 x.1)]
     exact ⟨_, rfl, rfl, fun x => by cases x⟩
theorem P80 (a b : Int) (l : List S31) (hl : l.length ≤ 100000000) : F12.f a b l = some (a, b, l) := by
 unfold F12.f
 simp only [Option.bind_some, List.nil_append]
 rw [if_pos (by simp; omega)]
theorem P344 (a b : Int) (l : List S31) (kind : Int) (t : ByteArray) {k : Nat} (hf : P0 a b) (hl : l.length ≤ 10000000) (ht : t.size ≤ 100000000) (hk : 1000300 ≤ k) :
  F31.f k a b l kind t = some (dov a b l kind t.data.toList) := by
 obtain ⟨k, rfl⟩ : ∃ m, k = m + 1 := ⟨k - 1, by omega⟩
 unfold F31.f dov
 rw [P80 a b l (by omega)]; simp only [Option.bind_some]
 rw [P107]
 obtain ⟨v, hv, hv2, hv3⟩ := P343 a b kind t (k := k + 1) hf ht (by omega)
 by_cases h4 : kind = 4 ∧ t.data.toList = []
 ·rw [if_pos (by simp [h4.1, h4.2])]
  by_cases h5 : l = []
  ·subst h5
   have e0 : wrap64 ((([] : List S31).length : Int) - 1) = -1 := by rw [P1 (by simp) (by simp)]; simp
   rw [e0, if_pos (show (-1 : Int) < 0 by decide), if_neg (show ¬ (kind = 4 ∧ t.data.toList = [] ∧ ([] : List S31) ≠ []) from fun x => x.2.2 rfl)]
   have e : (P20 a b kind t.data.toList).2.2 = false := by
    unfold P20
    rw [if_neg (by omega), if_neg (by omega), if_neg (by omega), if_neg (by omega)]
   rw [if_neg (fun x => by rw [e] at x; exact absurd x.1 (by decide))]
  ·have hl0 : 0 < l.length := List.length_pos_iff.2 h5
   rw [P1 (by omega) (by omega), if_neg (by omega), if_pos (by omega), if_pos (by omega), if_pos (by omega), if_pos ⟨h4.1, h4.2, h5⟩, P80 _ _ _ (by rw [List.length_take]; omega), show (l.length : Int) - 1 = ((l.length - 1 : Nat) : Int) by omega]; rfl
 ·rw [if_neg (by simpa using h4), if_neg (fun x => h4 ⟨x.1, x.2.1⟩), hv]; simp only [Option.bind_some, F31.j0]
  by_cases h5 : v.2.2 = true
  ·have e := hv3 h5
   rw [if_pos h5, ← e]
   by_cases h6 : v.1 = a ∧ v.2.1 = b
   ·rw [if_pos (by simp [h6.1, h6.2]), if_neg (show ¬ (v.2.2 = true ∧ ¬ (v.1 = a ∧ v.2.1 = b)) from fun x => x.2 h6)]
   ·rw [if_neg (by simpa using h6), if_pos (by omega), if_pos (show v.2.2 = true ∧ ¬ (v.1 = a ∧ v.2.1 = b) from ⟨h5, h6⟩)]
    have e1 : (l ++ [(⟨a, b⟩ : S31)]).length = l.length + 1 := by simp
    unfold P54
    rw [e1]
    by_cases h9 : l.length + 1 > 8
    ·rw [if_pos (show ((l.length + 1 : Nat) : Int) > 8 by omega), if_pos (show 1 ≤ ((l.length + 1 : Nat) : Int) by omega), if_pos h9, P80 _ _ _ (by rw [List.length_drop, e1]; omega)]; rfl
    ·rw [if_neg (show ¬ ((l.length + 1 : Nat) : Int) > 8 by omega), if_neg h9, P80 _ _ _ (by rw [e1]; omega)]; rfl
  ·rw [if_neg h5, if_pos trivial, if_neg (fun x => h5 (hv2.trans x.1))]
theorem P345 (n : Nat) : ∀ (acc : List Int) (a b : Nat), b ≤ n → acc.length + b < 17592186044416 → a ≤ 9223372036854775807 → b ≤ 9223372036854775807 → ∀ k, n < k → F34.l0 k acc (a : Int) (b : Int) = some (acc ++ P5 a b) := by
 induction n with
 | zero =>
  intro acc a b hb hl ha _ k hk
  obtain ⟨k, rfl⟩ : ∃ m, k = m + 1 := ⟨k - 1, by omega⟩
  obtain rfl : b = 0 := by omega
  simp only [F34.l0]
  rw [if_neg (by omega), P57, List.append_nil]
 | succ n ih =>
  intro acc a b hb hl ha hb' k hk
  obtain ⟨k, rfl⟩ : ∃ m, k = m + 1 := ⟨k - 1, by omega⟩
  simp only [F34.l0]
  by_cases h : b = 0
  ·rw [if_neg (by omega), h, P57, List.append_nil]
  ·have h1 := Nat.mod_lt a (show b > 0 by omega)
   have h2 := Nat.div_le_self a b
   have h3 : (0 : Int) ≤ ((a / b : Nat) : Int) := Int.natCast_nonneg _
   rw [if_pos (by omega), if_neg (by omega), if_pos (by omega), P208, P209, P1 (by omega) (by omega), ih _ b (a % b) (by omega) (by rw [List.length_append]; simp; omega) hb' (by omega) k (by omega), P95 a h]
   simp
theorem P346 {a b : Int} {k : Nat} (ha : a.natAbs ≤ 9223372036854775807) (hb : 0 ≤ b) (hb' : b ≤ 1000000) (hk : 1000001 ≤ k) : F34.f k a b = some (P5 a.natAbs b.natAbs) := by
 unfold F34.f
 rw [P70 (by omega) (by omega)]
 have e : b = ((b.natAbs : Nat) : Int) := by omega
 have := P345 b.natAbs [] a.natAbs b.natAbs (Nat.le_refl _) (by simp; omega) ha (by omega) k (by omega)
 rw [← e] at this
 rw [this]; rfl
theorem P347 (l : List Int) (hl : l.length ≤ 1000000) (hp : ∀ x ∈ l, 0 ≤ x) (n : Nat) : ∀ (s : Int) (i : Nat), i + n = l.length → 0 ≤ s → s + (l.drop i).sum ≤ 4611686018427387904 → ∀ k, n < k → F44.l0 k s l (l.length : Int) (i : Int) = some (s + (l.drop i).sum) := by
 induction n with
 | zero =>
  intro s i hi hs hb k hk
  obtain ⟨k, rfl⟩ : ∃ m, k = m + 1 := ⟨k - 1, by omega⟩
  simp only [F44.l0]
  rw [if_neg (by omega), List.drop_of_length_le (by omega)]; simp
 | succ n ih =>
  intro s i hi hs hb k hk
  obtain ⟨k, rfl⟩ : ∃ m, k = m + 1 := ⟨k - 1, by omega⟩
  simp only [F44.l0]
  have hd := P110 l i (by omega)
  have h0 := P147 (l.drop (i + 1)) (fun x hx => hp x (List.mem_of_mem_drop hx))
  have h1 : 0 ≤ rd l (i : Int) := hp _ (List.mem_of_mem_drop (i := i) (by rw [hd]; simp))
  rw [hd, List.sum_cons] at hb
  rw [if_pos (by omega), if_pos (by omega), if_pos (by omega), P1 (by omega) (by omega), P1 (n := (i : Int) + 1) (by omega) (by omega)]
  have := ih (s + rd l (i : Int)) (i + 1) (by omega) (by omega) (by omega) k (by omega)
  rw [hd, List.sum_cons, ← Int.add_assoc, ← this]; rfl
theorem P348 (a b : Int) {k : Nat} (hk : 1000002 ≤ k) : F44.f k a b = some (P58 a b) := by
 unfold F44.f P58
 rw [P49 _ _ (by omega)]; simp only [Option.bind_some, decide_eq_true_eq]
 by_cases h : P0 a b
 ·have h1 := h.1
  have h2 := h.2.1
  rw [if_pos h, if_pos h, P346 (by omega) (by omega) (by omega) (by omega)]; simp only [Option.bind_some]
  have hl := P210 b.natAbs a.natAbs b.natAbs (Nat.le_refl _)
  have hs := P145 b.natAbs a.natAbs b.natAbs (Nat.le_refl _)
  have := P347 (P5 a.natAbs b.natAbs) (by omega) (P144 b.natAbs _ _ (Nat.le_refl _)) _ 0 0 (Nat.zero_add _) (by omega) (by rw [List.drop_zero]; omega) k (by omega)
  rw [List.drop_zero, Int.zero_add] at this
  exact this
 ·rw [if_neg h, if_neg h]
theorem P349 (a b : Int) {k : Nat} (hk : 1000002 ≤ k) : F45.f k a b = some (P14 a b) := by
 obtain ⟨k, rfl⟩ : ∃ m, k = m + 1 := ⟨k - 1, by omega⟩
 unfold F45.f
 rw [P49 _ _ (by omega)]; simp only [Option.bind_some, decide_eq_true_eq]
 have no : ¬ (P0 a b ∧ (-60 ≤ a ∧ a ≤ 60)) → F45.j0 (k + 1) true a b = some (P14 a b) := by
  intro h; simp only [F45.j0]; rw [if_pos trivial]; unfold P14; rw [if_neg h]
 by_cases h : P0 a b
 ·rw [if_pos h]
  by_cases h1 : a < -60
  ·rw [if_pos h1]; exact no (fun x => by omega)
  ·rw [if_neg h1]
   by_cases h2 : a > 60
   ·rw [decide_eq_true h2]; exact no (fun x => by omega)
   ·rw [decide_eq_false h2]; simp only [F45.j0]; rw [if_neg (by decide)]
    by_cases h0 : a = 0
    ·rw [if_pos h0]; unfold P14; rw [if_pos ⟨h, by omega⟩, if_pos h0]
    ·rw [if_neg h0]; exact P205 h (by omega) h0
 ·rw [if_neg h]; exact no (fun x => h x.1)
theorem P350 (n : Nat) : ∀ (x a b : Nat), 0 < a → b ≤ x + n → x ≤ 100 → a ≤ 100 → b ≤ 100 → ∀ k, n + 1 < k → F36.l0 k (x : Int) (a : Int) (b : Int) = some ((a : Int), ((P76 n x a b : Nat) : Int)) := by
 induction n with
 | zero =>
  intro x a b ha hb hx _ _ k hk
  obtain ⟨k, rfl⟩ : ∃ m, k = m + 1 := ⟨k - 1, by omega⟩
  simp only [F36.l0]
  rw [if_neg (by omega)]; rfl
 | succ n ih =>
  intro x a b ha hb hx ha' hb' k hk
  obtain ⟨k, rfl⟩ : ∃ m, k = m + 1 := ⟨k - 1, by omega⟩
  simp only [F36.l0, P76]
  by_cases h : x < b
  ·have hm : x * b ≤ 100 * 100 := Nat.mul_le_mul hx hb'
   rw [if_pos (by omega), if_neg (by omega), if_pos h, ← Int.natCast_mul, P1 (n := ((x * b : Nat) : Int)) (by omega) (by omega), P94]
   by_cases h1 : x * b % a = 1
   ·rw [if_pos (by omega), if_pos h1, P1 (by omega) (by omega)]
    obtain ⟨k, rfl⟩ : ∃ m, k = m + 1 := ⟨k - 1, by omega⟩
    simp only [F36.l0]
    rw [if_neg (by omega)]
   ·rw [if_neg (by omega), if_neg h1, P1 (by omega) (by omega)]
    have := ih (x + 1) a b ha (by omega) (by omega) ha' hb' k (by omega)
    rw [← this]; rfl
  ·rw [if_neg (by omega), if_neg h]
theorem P351 {a b : Int} {k : Nat} (h : P31 a b) (hk : 1000 ≤ k) : F36.f k a b = some (a, P55 a b) := by
 have hr := P141 h
 unfold F36.f P55 P93
 obtain ⟨a, rfl⟩ := Int.eq_ofNat_of_zero_le hr.1
 obtain ⟨b, rfl⟩ := Int.eq_ofNat_of_zero_le hr.2.2.1
 by_cases ha : a = 0
 ·subst ha
  have := (P140 b).1 h
  obtain rfl : b = 1 := by omega
  obtain ⟨k, rfl⟩ : ∃ m, k = m + 1 := ⟨k - 1, by omega⟩
  simp only [F36.l0]
  rw [if_neg (by omega)]; rfl
 ·exact P350 60 1 a b (by omega) (by omega) (by omega) (by omega) (by omega) k (by omega)
theorem P352 (a b c : Int) {k : Nat} (hk : 1000001 ≤ k) : F74.f k a b c = some (P56 a b c) := by
 unfold F74.f P56
 rw [P49 _ _ hk]; simp only [Option.bind_some, decide_eq_true_eq]
 by_cases h : P0 a b
 ·have h1 := h.1
  rw [if_pos h]
  by_cases c1 : c < 1
  ·rw [if_pos c1, if_neg (by omega)]
  ·rw [if_neg c1]
   by_cases c2 : c > 12
   ·rw [if_pos c2, if_neg (by omega)]
   ·rw [if_neg c2, P154 (by omega) (by omega) (by omega), if_pos (show P0 a b ∧ (1 ≤ c ∧ c ≤ 12) from ⟨h, by omega, by omega⟩)]; simp only [Option.bind_some]; rw [P207 a (by omega) (by omega)]
 ·rw [if_neg h, if_neg (fun x => h x.1)]
theorem P353 (n : Nat) : ∀ (t : List UInt8) (a b : Int) (r : List UInt8), P34 a b → t.length + n ≤ 1000 → unt n t a b = some r → ∀ k, n + 1000003 ≤ k → F37.l0 k (ba t) a b = some (ba r) := by
 induction n with
 | zero => intro t a b r _ _ h; simp [unt] at h
 | succ n ih =>
  intro t a b r hs ht h k hk
  obtain ⟨k, rfl⟩ : ∃ m, k = m + 1 := ⟨k - 1, by omega⟩
  simp only [F37.l0]
  simp only [unt] at h
  have h1 := hs.2
  have h2 := hs.1.2.1
  by_cases h0 : a = 0
  ·rw [if_pos h0] at h ⊢; cases h; rfl
  ·rw [if_neg h0] at h ⊢
   by_cases h1 : a < 0
   ·rw [if_pos h1] at h ⊢
    have hp := P181 hs h1
    rw [P7, if_pos (by omega), P1 (by omega) (by omega)]
    have := ih (t ++ [84]) (a + b) b r hp (by simp; omega) h k (by omega)
    rw [← P19] at this
    exact this
   ·rw [if_neg h1] at h ⊢
    rw [P7, if_pos (by omega), P1 (by omega) (by omega), P233 (by omega) (by omega) (by omega) (by omega), P88 hs.1]; simp only [Option.bind_some]
    have := ih (t ++ [82]) _ _ r (P180 hs) (by simp; omega) h k (by omega)
    rw [← P19] at this
    exact this
theorem P235 {a b : Int} (h : (P11 a b).2 = true) {k : Nat} (hk : 1001000 ≤ k) : F37.f k a b = some (ba (P11 a b).1) := by
 unfold F37.f
 unfold P11 at h ⊢
 by_cases hS : P34 a b
 ·rw [if_pos hS]
  obtain ⟨r, hr⟩ := P131 hS
  have := P353 100 [] a b r hS (by simp) hr k (by omega)
  rw [hr]; exact this
 ·rw [if_neg hS] at h; cases h
theorem P354 {a b : Int} (hf : P0 a b) (s : ByteArray) {k : Nat} (hs : s.size ≤ 100000000) (hk : 400000000 ≤ k) : F9.f k a b s = some (ba (P60 a b s.data.toList)) := by
 unfold F9.f P60
 simp only [ByteArray.toList_eq]
 have hsz : s.data.toList.length = s.size := rfl
 generalize hz : s.data.toList = z at *
 have num : ∀ {n : Int}, n.natAbs < 10000000 → strconv_Itoa.f n = some (ba (Go.Lib.itoa n)) := fun h => P114 (by omega)
 have ht := P148 a b
 have he := P109 a b
 by_cases q0 : z = [116, 101, 120, 116]
 ·rw [if_pos q0, if_pos q0]
  rw [P227 hf]; rfl
 ·rw [if_neg q0, if_neg q0]
  by_cases q1 : z = [109, 111, 118, 101, 115]
  ·rw [if_pos q1, if_pos q1]
   rw [P118 a b 12 (by omega) (by omega) (by omega), P234]; simp only [Option.bind_some]
   split
   ·next hu =>
    have := P116 a b
    rw [P235 hu (by omega)]; simp only [Option.bind_some]
    rw [P7, if_pos (by omega)]
    have e : (⟨#[58]⟩ : ByteArray) ++ ba (P11 a b).1 = ba (58 :: (P11 a b).1) := P19 [58] _
    rw [e]
   ·rfl
  ·rw [if_neg q1, if_neg q1]
   by_cases q2 : z = [116, 101, 114, 109, 115]
   ·rw [if_pos q2, if_pos q2]
    rw [P326 a b (by omega)]; simp only [Option.bind_some]
    unfold P64
    by_cases h : (P30 a b).2 = true
    ·rw [if_pos h, if_neg (ht.2.2.1 h), P226 _ ht.1 ht.2.1 (by omega)]; rfl
    ·rw [if_neg h, if_pos (ht.2.2.2 (by simpa using h))]; rfl
   ·rw [if_neg q2, if_neg q2]
    by_cases q3 : z = [99, 114, 111, 115, 115, 105, 110, 103, 115]
    ·rw [if_pos q3, if_pos q3]
     rw [P348 a b (by omega)]; simp only [Option.bind_some]
     rw [num (P149 a b)]; rfl
    ·rw [if_neg q3, if_neg q3]
     by_cases q4 : z = [101, 110, 100, 115]
     ·rw [if_pos q4, if_pos q4]
      rw [P327 hf (by omega)]; simp only [Option.bind_some]
      rw [P226 _ he.1 he.2.1 (by omega)]; rfl
     ·rw [if_neg q4, if_neg q4]
      by_cases q5 : z = [114, 105, 110, 103, 115]
      ·rw [if_pos q5, if_pos q5]
       rw [P328 hf (by omega)]; simp only [Option.bind_some]
       rw [num (by unfold P65; split <;> decide)]; rfl
      ·rw [if_neg q5, if_neg q5]
       by_cases q6 : z = [108, 105, 110, 107]
       ·rw [if_pos q6, if_pos q6]
        rw [P349 a b (by omega)]; simp only [Option.bind_some]
        split
        ·next hlk =>
         have hP := P152 hlk
         have hb := P151 hP
         have e0 : P66 (P14 a b).1 (P14 a b).2.1 = ((P14 a b).1, P55 (P14 a b).1 (P14 a b).2.1, true) := by unfold P66; rw [if_pos hP]
         rw [e0] at hb ⊢
         simp only at hb ⊢
         rw [P351 hP (by omega)]; simp only [Option.bind_some]
         have l1 := P36 hb.1
         have l2 := P36 hb.2
         rw [num hb.1, num hb.2]; simp only [Option.bind_some]
         have e : ∀ x : List UInt8, ba x ++ (⟨#[58]⟩ : ByteArray) = ba (x ++ [58]) := fun x => P19 x [58]
         rw [P7, if_pos (by omega), e, P7, P7, if_pos (by simp; omega), P19]
         simp
        ·rfl
       ·rw [if_neg q6, if_neg q6]
        obtain ⟨k, rfl⟩ : ∃ m, k = m + 2 := ⟨k - 2, by omega⟩
        have what : ∀ n : Int, F9.j0 (k + 2) n true a b = some (ba [119, 104, 97, 116]) := by
         intro n; simp only [F9.j0]; rw [if_pos trivial]; rfl
        unfold strings_CutPrefix.f
        simp only [Option.bind_some]
        rw [hz]
        have ez : (⟨(Go.Lib.trimPrefix z [99, 111, 108, 111, 117, 114, 115, 32]).toArray⟩ : ByteArray) = ba (Go.Lib.trimPrefix z [99, 111, 108, 111, 117, 114, 115, 32]) := rfl
        rw [ez]
        have hlen : (Go.Lib.trimPrefix z [99, 111, 108, 111, 117, 114, 115, 32]).length ≤ z.length := by
         unfold Go.Lib.trimPrefix; split <;> simp
        obtain ⟨v, er, hv⟩ := P215 (ba (Go.Lib.trimPrefix z [99, 111, 108, 111, 117, 114, 115, 32])) (by rw [P7]; omega)
        cases hcn : P15 z with
        | some n =>
         obtain ⟨b1, b2, e⟩ := P115 hcn
         have hp : Go.Lib.hasPrefix z [99, 111, 108, 111, 117, 114, 115, 32] = true := by
          unfold Go.Lib.hasPrefix; rw [e]; exact List.isPrefixOf_iff_prefix.2 ⟨_, rfl⟩
         have htp : Go.Lib.trimPrefix z [99, 111, 108, 111, 117, 114, 115, 32] = Go.Lib.itoa n := by
          unfold Go.Lib.trimPrefix; rw [if_pos hp, e]; rfl
         rw [htp, P113 (by omega)]; simp only [Option.bind_some]
         rw [if_pos hp, if_pos (by rfl), if_neg (by omega), if_neg (by omega), num (by omega)]; simp only [Option.bind_some, P74, ByteArray.toList_eq, P52]
         rw [show (Go.Lib.itoa n != Go.Lib.itoa n) = false by simp]
         simp only [F9.j0]
         rw [if_neg (by decide)]
         by_cases h1 : n < 1
         ·rw [if_pos h1, if_neg (by omega)]; simp only [F9.j1]; rw [if_pos trivial]; rfl
         ·rw [if_neg h1]
          by_cases h2 : n > 12
          ·rw [decide_eq_true h2, if_neg (by omega)]; simp only [F9.j1]; rw [if_pos trivial]; rfl
          ·rw [decide_eq_false h2, if_pos (by omega)]; simp only [F9.j1]
           rw [if_neg (by decide), P352 _ _ _ (by omega)]; simp only [Option.bind_some]
           rw [num (P150 a b n)]; rfl
        | none =>
         rw [hv]; simp only [Option.bind_some]
         by_cases hp : Go.Lib.hasPrefix z [99, 111, 108, 111, 117, 114, 115, 32] = true
         ·rw [if_pos hp]
          split
          ·split
           ·rw [what]
           ·split
            ·rw [what]
            ·next h1 h2 =>
             rw [num (by omega)]; simp only [Option.bind_some, P74, ByteArray.toList_eq, P52]
             by_cases he : Go.Lib.itoa v = Go.Lib.trimPrefix z [99, 111, 108, 111, 117, 114, 115, 32]
             ·have hz2 : z = [99, 111, 108, 111, 117, 114, 115, 32] ++ Go.Lib.itoa v := by
               rw [he]
               unfold Go.Lib.trimPrefix
               rw [if_pos hp]
               unfold Go.Lib.hasPrefix at hp
               obtain ⟨t, rfl⟩ := List.isPrefixOf_iff_prefix.1 hp
               simp
              rw [hz2, P218 (by omega) (by omega)] at hcn
              cases hcn
             ·rw [show (Go.Lib.itoa v != Go.Lib.trimPrefix z [99, 111, 108, 111, 117, 114, 115, 32]) = true by simpa using he, what]
          ·rw [what]
         ·rw [if_neg hp, what]
theorem P236 {a b : Int} {l : List S31} (hd : P12 a b l) (s : ByteArray) {k : Nat} (hs : s.size ≤ 100000000) (hk : 400000000 ≤ k) :
  F43.f k a b l s = some ((P6 a b l s.data.toList).1, (P6 a b l s.data.toList).2.1, (P6 a b l s.data.toList).2.2.1, ba (P6 a b l s.data.toList).2.2.2) := by
 have hf := hd.1
 have h8 := hd.2.1
 unfold F43.f P6
 rw [P336 s hs (by omega)]; simp only [Option.bind_some]
 by_cases hr : (rdv s.data.toList).2.2 = true
 ·have ht : (ba (rdv s.data.toList).2.1).size ≤ 100000000 := by
   have := P221 s.data.toList
   rw [P7]; have hsz : s.data.toList.length = s.size := rfl; omega
  rw [if_pos hr, if_pos hr, P344 a b l _ _ hf (by omega) ht (by omega)]; simp only [Option.bind_some, P52]
  split <;> rfl
 ·rw [if_neg hr, if_neg hr, P80 a b l (by omega)]; simp only [Option.bind_some]
  rw [P354 hf s hs hk]; rfl
theorem P355 (l : List S31) (hl : l.length ≤ 1000000000) (n : Nat) : ∀ i : Nat, i + n = l.length → ∀ k, n + 1000001 ≤ k → ∃ r, F59.l0 k l (l.length : Int) (i : Int) = some r ∧ (r ≥ 0 ↔ ¬ P38 (l.drop i)) := by
 induction n with
 | zero =>
  intro i hi k hk
  obtain ⟨k, rfl⟩ : ∃ m, k = m + 1 := ⟨k - 1, by omega⟩
  simp only [F59.l0]
  rw [if_neg (by omega), List.drop_of_length_le (by omega)]
  refine ⟨-1, rfl, ?_⟩
  constructor
  ·intro h; omega
  ·intro h; exact absurd (by intro x hx; simp at hx) h
 | succ n ih =>
  intro i hi k hk
  obtain ⟨k, rfl⟩ : ∃ m, k = m + 1 := ⟨k - 1, by omega⟩
  obtain ⟨r, h1, h2⟩ := ih (i + 1) (by omega) k (by omega)
  simp only [F59.l0]
  unfold F90.f
  rw [if_pos (by omega), if_pos (by omega), if_pos (by omega), P49 _ _ (by omega), P128 l i (by omega)]; simp only [Option.bind_some]
  by_cases h : P0 (rd_T31 l (i : Int)).f0 (rd_T31 l (i : Int)).f1
  ·rw [decide_eq_true h, if_neg (by decide), P1 (by omega) (by omega), show ((i : Int) + 1) = ((i + 1 : Nat) : Int) by omega]
   refine ⟨r, h1, ?_⟩
   rw [h2, P87]
   exact ⟨fun x y => x y.2, fun x y => x ⟨h, y⟩⟩
  ·rw [decide_eq_false h, if_pos (by decide)]
   refine ⟨_, rfl, ?_⟩
   rw [P87]
   exact ⟨fun _ y => h y.1, fun _ => by omega⟩
theorem P356 (l : List S31) (hl : l.length ≤ 1000000000) (z : Int) {k : Nat} (hk : l.length + 1000001 ≤ k) : F92.f k l z = some (decide (¬ P38 l)) := by
 unfold F92.f F59.f
 obtain ⟨r, h1, h2⟩ := P355 l hl l.length 0 (by omega) k (by omega)
 rw [List.drop_zero] at h2
 rw [show ((0 : Nat) : Int) = 0 from rfl] at h1
 rw [h1]; simp only [Option.bind_some]
 exact P35 h2
theorem P237 (a b : Int) (l : List S31) (hl : l.length ≤ 1000000000) {k : Nat} (hk : 1001000 ≤ k) : F38.f k a b l = some (decide (P12 a b l)) := by
 unfold F38.f
 rw [P49 _ _ (by omega)]; simp only [Option.bind_some, decide_eq_true_eq]
 by_cases h : P0 a b
 ·rw [if_pos h]
  by_cases h1 : (l.length : Int) ≤ 8
  ·rw [if_pos h1, P356 l hl _ (by omega)]; simp only [Option.bind_some]
   by_cases h2 : P38 l
   ·rw [decide_eq_false (not_not_intro h2), decide_eq_true (show P12 a b l from ⟨h, by omega, h2⟩)]; rfl
   ·rw [decide_eq_true h2, decide_eq_false (fun x : P12 a b l => h2 x.2.2)]; rfl
  ·rw [if_neg h1]; exact (P22 (fun x => by have := x.2.1; omega)).symm
 ·rw [if_neg h]; exact (P22 (fun x => h x.1)).symm
theorem P357 (l : List ByteArray) (i : Nat) (h : i < l.length) : rdOf ByteArray.empty l (i : Int) = l[i] := by unfold rdOf; simp [h]
theorem P158 (l : List ByteArray) (i : Nat) (h : i < l.length) : l.drop i = rdOf ByteArray.empty l (i : Int) :: l.drop (i + 1) := by
 rw [List.drop_eq_getElem_cons h, P357 l i h]
def P3 : List ByteArray → Int → Int → List S31 → Int × Int × List S31 × List ByteArray
 | [], a, b, l => (a, b, l, [])
 | s :: r, a, b, l => ((P3 r (P6 a b l s.data.toList).1 (P6 a b l s.data.toList).2.1 (P6 a b l s.data.toList).2.2.1).1, (P3 r (P6 a b l s.data.toList).1 (P6 a b l s.data.toList).2.1 (P6 a b l s.data.toList).2.2.1).2.1, (P3 r (P6 a b l s.data.toList).1 (P6 a b l s.data.toList).2.1 (P6 a b l s.data.toList).2.2.1).2.2.1, ba (P6 a b l s.data.toList).2.2.2 :: (P3 r (P6 a b l s.data.toList).1 (P6 a b l s.data.toList).2.1 (P6 a b l s.data.toList).2.2.1).2.2.2)
def P32 (a b : Int) (l : List S31) (C : List ByteArray) : Int × Int × List S31 × List ByteArray := if P12 a b l ∧ C.length ≤ 40 then P3 C a b l else (0, 0, [], [])
theorem P159 : ∀ (C : List ByteArray) {a b : Int} {l : List S31}, P12 a b l → (P3 C a b l).2.2.1.length ≤ 8 ∧ (P3 C a b l).2.2.2.length = C.length
 | [], a, b, l, h => ⟨h.2.1, rfl⟩
 | s :: r, a, b, l, h => by
  have := P159 r (P97 h s.data.toList)
  simp only [P3, List.length_cons]
  exact ⟨this.1, by omega⟩
theorem P358 (a b : Int) (l : List S31) (C : List ByteArray) : (P32 a b l C).2.2.1.length ≤ 8 ∧ (P32 a b l C).2.2.2.length ≤ 40 := by
 unfold P32
 split
 ·next h => have := P159 C h.1; exact ⟨this.1, by omega⟩
 ·simp
theorem P359 (C : List ByteArray) (hC : C.length ≤ 40) (hz : ∀ c ∈ C, c.size ≤ 100000000) (m : Nat) : ∀ (i : Nat) (out : List ByteArray) (a b : Int) (l : List S31), i + m = C.length → out.length = i → P12 a b l → ∀ k, m + 400000000 < k →
  F10.l0 k C out (i : Int) a b l = some ((P3 (C.drop i) a b l).1, (P3 (C.drop i) a b l).2.1, (P3 (C.drop i) a b l).2.2.1, out ++ (P3 (C.drop i) a b l).2.2.2) := by
 induction m with
 | zero =>
  intro i out a b l hi ho hd k hk
  obtain ⟨k, rfl⟩ : ∃ q, k = q + 1 := ⟨k - 1, by omega⟩
  simp only [F10.l0]
  rw [if_neg (by omega), List.drop_of_length_le (by omega)]; simp [P3]
 | succ m ih =>
  intro i out a b l hi ho hd k hk
  obtain ⟨k, rfl⟩ : ∃ q, k = q + 1 := ⟨k - 1, by omega⟩
  have hdr := P158 C i (by omega)
  have hm := hz _ (List.mem_of_mem_drop (i := i) (by rw [hdr]; simp) : rdOf ByteArray.empty C (i : Int) ∈ C)
  have h8 := hd.2.1
  simp only [F10.l0]
  rw [hdr]
  simp only [P3]
  generalize rdOf ByteArray.empty C (i : Int) = c at *
  rw [if_pos (by omega), if_pos (by omega), P321 a b l c (by omega) hm (by omega)]; simp only [Option.bind_some]
  have e : P26 a b l c.data.toList = P6 a b l c.data.toList := by unfold P26; rw [if_pos hd]
  rw [e, if_pos (by omega), P1 (n := (i : Int) + 1) (by omega) (by omega), show ((i : Int) + 1) = ((i + 1 : Nat) : Int) by omega]
  rw [ih (i + 1) _ _ _ _ (by omega) (by simp; omega) (P97 hd _) k (by omega)]
  simp
theorem P360 (C : List ByteArray) (hC : C.length ≤ 40) (hz : ∀ c ∈ C, c.size ≤ 100000000) (m : Nat) : ∀ (i : Nat) (out : List ByteArray) (a b : Int) (l : List S31), i + m = C.length → out.length = i → P12 a b l → ∀ k, m + 400000000 < k →
  F8.l0 k out C (C.length : Int) (i : Int) a b l = some ((P3 (C.drop i) a b l).1, (P3 (C.drop i) a b l).2.1, (P3 (C.drop i) a b l).2.2.1, out ++ (P3 (C.drop i) a b l).2.2.2) := by
 induction m with
 | zero =>
  intro i out a b l hi ho hd k hk
  obtain ⟨k, rfl⟩ : ∃ q, k = q + 1 := ⟨k - 1, by omega⟩
  simp only [F8.l0]
  rw [if_neg (by omega), List.drop_of_length_le (by omega)]; simp [P3]
 | succ m ih =>
  intro i out a b l hi ho hd k hk
  obtain ⟨k, rfl⟩ : ∃ q, k = q + 1 := ⟨k - 1, by omega⟩
  have hdr := P158 C i (by omega)
  have hm := hz _ (List.mem_of_mem_drop (i := i) (by rw [hdr]; simp) : rdOf ByteArray.empty C (i : Int) ∈ C)
  have h8 := hd.2.1
  simp only [F8.l0]
  rw [hdr]
  simp only [P3]
  generalize rdOf ByteArray.empty C (i : Int) = c at *
  rw [if_pos (by omega), if_pos (by omega), if_pos (by omega), P236 hd c hm (by omega)]; simp only [Option.bind_some]
  rw [if_pos (by omega), P1 (n := (i : Int) + 1) (by omega) (by omega), show ((i : Int) + 1) = ((i + 1 : Nat) : Int) by omega]
  rw [ih (i + 1) _ _ _ _ (by omega) (by simp; omega) (P97 hd _) k (by omega)]
  simp
theorem P361 (a b : Int) (l : List S31) (C : List ByteArray) {k : Nat} (hl : l.length ≤ 100000000) (hz : ∀ c ∈ C, c.size ≤ 100000000) (hk : 400000100 ≤ k) : F10.f k a b l C = some (P32 a b l C) := by
 obtain ⟨k, rfl⟩ : ∃ q, k = q + 1 := ⟨k - 1, by omega⟩
 unfold F10.f P32
 rw [P106 a b l hl (by omega)]; simp only [Option.bind_some, decide_eq_true_eq]
 by_cases h : P12 a b l
 ·have h8 := h.2.1
  rw [if_pos h]; simp only [F10.j0, decide_eq_true_eq]
  by_cases h2 : (C.length : Int) > 40
  ·rw [if_pos h2, if_neg (fun x => by have := x.2; omega)]
  ·rw [if_neg h2, if_pos ⟨h, by omega⟩]
   unfold F40.f
   simp only [Option.bind_some, List.nil_append]
   rw [if_pos (by simp; omega)]; simp only [Option.bind_some]
   have := P359 C (by omega) hz C.length 0 [] a b l (by omega) rfl h k (by omega)
   rw [List.drop_zero, List.nil_append] at this
   exact this
 ·rw [if_neg h]; simp only [F10.j0]
  rw [if_pos trivial, if_neg (fun x => h x.1)]
theorem P160 (a b : Int) (l : List S31) (C : List ByteArray) {k : Nat} (hl : l.length ≤ 100000000) (hz : ∀ c ∈ C, c.size ≤ 100000000) (hk : 400000100 ≤ k) : F8.f k a b l C = some (P32 a b l C) := by
 obtain ⟨k, rfl⟩ : ∃ q, k = q + 1 := ⟨k - 1, by omega⟩
 unfold F8.f P32
 rw [P237 a b l (by omega) (by omega)]; simp only [Option.bind_some, decide_eq_true_eq]
 by_cases h : P12 a b l
 ·have h8 := h.2.1
  rw [if_pos h]; simp only [F8.j0, decide_eq_true_eq]
  by_cases h2 : (C.length : Int) > 40
  ·rw [if_pos h2, if_neg (fun x => by have := x.2; omega)]
  ·rw [if_neg h2, if_pos ⟨h, by omega⟩, P80 a b l hl]; simp only [Option.bind_some]
   have := P360 C (by omega) hz C.length 0 [] a b l (by omega) rfl h k (by omega)
   rw [List.drop_zero, List.nil_append] at this
   exact this
 ·rw [if_neg h]; simp only [F8.j0]
  rw [if_pos trivial, if_neg (fun x => h x.1)]
theorem P238 : ∀ (A B : List ByteArray) (a b : Int) (l : List S31), P3 (A ++ B) a b l = ((P3 B (P3 A a b l).1 (P3 A a b l).2.1 (P3 A a b l).2.2.1).1, (P3 B (P3 A a b l).1 (P3 A a b l).2.1 (P3 A a b l).2.2.1).2.1, (P3 B (P3 A a b l).1 (P3 A a b l).2.1 (P3 A a b l).2.2.1).2.2.1, (P3 A a b l).2.2.2 ++ (P3 B (P3 A a b l).1 (P3 A a b l).2.1 (P3 A a b l).2.2.1).2.2.2)
 | [], B, a, b, l => by simp [P3]
 | s :: r, B, a, b, l => by
  rw [List.cons_append]
  simp only [P3]
  rw [P238 r B]
  rfl
theorem P161 : ∀ (C : List ByteArray) {a b : Int} {l : List S31}, P12 a b l → P12 (P3 C a b l).1 (P3 C a b l).2.1 (P3 C a b l).2.2.1
 | [], a, b, l, h => h
 | s :: r, a, b, l, h => by simp only [P3]; exact P161 r (P97 h s.data.toList)
theorem P239 (n : Int) : Go.Lib.itoa n ≠ [] := by
 unfold Go.Lib.itoa
 split
 ·simp
 ·rw [Go.Lib.decDigits]; split <;> simp
theorem P240 {l : List Int} (h : l ≠ []) : P13 l ≠ [] := by
 cases l with
 | nil => exact absurd rfl h
 | cons x r => unfold P13; rw [List.map_cons, Go.Lib.join_cons]; simp [P239]
theorem P362 (a b : Int) (l : List S31) (s : List UInt8) : (P6 a b l s).2.2.2 ≠ [] := by
 have he := (P109 a b).2.2
 unfold P6
 split
 ·simp only; split <;> simp
 ·simp only
  unfold P60 P64 P9
  repeat' split
  all_goals first
   | (simp [P239]; done)
   | exact P240 he
   | exact P240 (by assumption)
theorem P241 : ∀ (C : List ByteArray) (a b : Int) (l : List S31), ∀ x ∈ (P3 C a b l).2.2.2, x.toList ≠ []
 | [], a, b, l => fun x hx => by simp [P3] at hx
 | s :: r, a, b, l => fun x hx => by
  simp only [P3, List.mem_cons] at hx
  rcases hx with rfl | hx
  ·rw [P74]; exact P362 a b l _
  ·exact P241 r _ _ _ x hx
theorem P363 (l : List ByteArray) (hl : l.length ≤ 1000000000) (n : Nat) : ∀ (i : Nat), i + n = l.length → ∀ k, n < k → F41.l0 k l l (i : Int) = some true := by
 induction n with
 | zero =>
  intro i hi k hk
  obtain ⟨k, rfl⟩ : ∃ m, k = m + 1 := ⟨k - 1, by omega⟩
  simp only [F41.l0]
  rw [if_neg (by omega)]
 | succ n ih =>
  intro i hi k hk
  obtain ⟨k, rfl⟩ : ∃ m, k = m + 1 := ⟨k - 1, by omega⟩
  simp only [F41.l0]
  rw [if_pos (by omega), if_pos (by omega), if_pos (by omega), if_pos trivial, P1 (by omega) (by omega)]
  exact ih (i + 1) (by omega) k (by omega)
theorem P242 (l : List ByteArray) {k : Nat} (hl : l.length ≤ 1000000000) (hk : l.length < k) : F41.f k l l = some true := by
 unfold F41.f
 rw [if_pos rfl]
 exact P363 l hl _ 0 (Nat.zero_add _) k hk
theorem P364 (a b : Int) (l : List S31) (hl : l.length ≤ 1000000) (n : Nat) : ∀ i : Nat, i + n = l.length → ∀ k, n < k → F22.l0 k (i : Int) a b l a b l = some true := by
 induction n with
 | zero =>
  intro i hi k hk
  obtain ⟨k, rfl⟩ : ∃ m, k = m + 1 := ⟨k - 1, by omega⟩
  simp only [F22.l0]
  rw [if_neg (by omega)]
 | succ n ih =>
  intro i hi k hk
  obtain ⟨k, rfl⟩ : ∃ m, k = m + 1 := ⟨k - 1, by omega⟩
  simp only [F22.l0]
  rw [if_pos (by omega), if_pos (by omega), if_pos (by omega), if_neg (by simp), P1 (by omega) (by omega), show ((i : Int) + 1) = ((i + 1 : Nat) : Int) by omega]
  exact ih (i + 1) (by omega) k (by omega)
theorem P162 (a b : Int) (l : List S31) {k : Nat} (hl : l.length ≤ 1000000) (hk : l.length + 2 ≤ k) : F22.f k a b l a b l = some true := by
 obtain ⟨k, rfl⟩ : ∃ m, k = m + 1 := ⟨k - 1, by omega⟩
 unfold F22.f
 rw [if_neg (by simp), show ((l.length : Int) != (l.length : Int)) = false by simp]
 simp only [F22.j0]
 rw [if_neg (by decide)]
 exact P364 a b l hl l.length 0 (by omega) k (by omega)
theorem P243 (a b : Int) (l : List S31) (s : ByteArray) {k : Nat} (hl : l.length ≤ 100000000) (hs : s.size ≤ 100000000) (hk : 400000000 ≤ k) :
  F65.f k a b l s = some ((P26 a b l s.data.toList).1, (P26 a b l s.data.toList).2.1, (P26 a b l s.data.toList).2.2.1, ba (P26 a b l s.data.toList).2.2.2) := by
 unfold F65.f P26
 rw [P237 a b l (by omega) (by omega)]; simp only [Option.bind_some, decide_eq_true_eq]
 by_cases hd : P12 a b l
 ·rw [if_pos hd, if_pos hd, P236 hd s hs hk]; rfl
 ·rw [if_neg hd, if_neg hd]; rfl
theorem P365 (a b : Int) (l : List S31) (s : List UInt8) : (P26 a b l s).2.2.1.length ≤ 8 ∧ (P26 a b l s).2.2.2.length ≤ 2000 := by
 unfold P26
 split
 ·next h => exact P301 h s
 ·simp
theorem P366 {k : Nat} (hk : 1000001 ≤ k) : F88.f k = some true := by
 unfold F88.f F80.f
 simp only [P49 _ _ hk, Option.bind_some]
 rw [if_pos (by decide)]
 congr 1
theorem P367 : P25 [53, 47, 51] = (5, 3, true) := by decide +kernel
theorem P368 : rdv [116, 97, 107, 101, 32, 53, 47, 51] = (1, [53, 47, 51], true) := by decide +kernel
theorem P369 : rdv [109, 111, 118, 101, 115] = (0, [], false) := by decide +kernel
theorem P370 {a b : Int} {l : List S31} (h : P12 a b l) : (P6 a b l [116, 97, 107, 101, 32, 53, 47, 51]).1 = 5 ∧ (P6 a b l [116, 97, 107, 101, 32, 53, 47, 51]).2.1 = 3 := by
 unfold P6
 rw [P368, if_pos rfl]
 simp only
 unfold dov
 rw [if_neg (fun x => absurd x.1 (by decide))]
 have e : P20 a b 1 [53, 47, 51] = (5, 3, true) := by
  unfold P20; rw [if_neg (by decide), if_pos rfl, P367]
 rw [e]
 by_cases hc : 5 = a ∧ 3 = b
 ·rw [if_neg (fun x => x.2 hc)]; exact ⟨hc.1.symm, hc.2.symm⟩
 ·rw [if_pos ⟨rfl, hc⟩]; exact ⟨rfl, rfl⟩
theorem P244 : (P11 5 3).2 = true := by decide +kernel
theorem P371 (l : List S31) : (P6 5 3 l [109, 111, 118, 101, 115]).2.2.2 = 58 :: (P11 5 3).1 := by
 unfold P6
 rw [P369, if_neg (by decide)]
 simp only
 unfold P60
 rw [if_neg (by decide), if_pos rfl, if_pos P244]
theorem P372 {k : Nat} (hk : 1001000 ≤ k) : F89.f k 5 3 = some (ba (P11 5 3).1, true) := by
 unfold F89.f
 rw [P118 5 3 12 (by omega) (by omega) (by omega)]; simp only [Option.bind_some]
 rw [if_pos (by decide), P235 P244 (by omega)]; rfl
theorem P373 (C out f s : List ByteArray) (a b : Int) (l : List S31) (c d : Int) (e : List S31) (hne : ∀ x ∈ out, x.toList ≠ []) (ho : out.length ≤ 41) (n : Nat) : ∀ i : Nat, i + n = out.length → ∀ k, laws_FnDeskSay.l0 (k + n + 1) C out f s (i : Int) a b l c d e = laws_FnDeskSay.l0 (k + 1) C out f s (out.length : Int) a b l c d e := by
 induction n with
 | zero => intro i hi k; rw [Nat.add_zero] at hi; subst hi; rfl
 | succ n ih =>
  intro i hi k
  have hdr := P158 out i (by omega)
  have hx := hne _ (List.mem_of_mem_drop (i := i) (by rw [hdr]; simp) : rdOf ByteArray.empty out (i : Int) ∈ out)
  rw [show k + (n + 1) + 1 = (k + n + 1) + 1 by omega]
  conv => lhs; rw [laws_FnDeskSay.l0]
  rw [if_pos (by omega), if_pos (by omega), if_neg hx, P1 (by omega) (by omega), show ((i : Int) + 1) = ((i + 1 : Nat) : Int) by omega]
  exact ih (i + 1) (by omega) k
theorem P374 (C f s : List ByteArray) {a b : Int} {l : List S31} (hd : P12 a b l) (hC : C.length ≤ 41) (hl : (f ++ s).length = C.length) {k : Nat} (hk : 400002000 ≤ k) : laws_FnDeskSay.l0 (k + 1) C (f ++ s) f s ((f ++ s).length : Int) a b l a b l = some true := by
 have hlen := P365 a b l [116, 97, 107, 101, 32, 53, 47, 51]
 have h8 := hd.2.1
 have happ : f.length + s.length = C.length := by rw [← hl, List.length_append]
 simp only [laws_FnDeskSay.l0]
 rw [if_neg (by omega), P243 a b l _ (by omega) (by decide) (by omega)]; simp only [Option.bind_some]
 have e1 : P26 a b l (⟨#[116, 97, 107, 101, 32, 53, 47, 51]⟩ : ByteArray).data.toList = P6 a b l [116, 97, 107, 101, 32, 53, 47, 51] := by
  unfold P26; rw [if_pos hd]
 have e2 := P97 hd [116, 97, 107, 101, 32, 53, 47, 51]
 obtain ⟨e3, e4⟩ := P370 hd
 rw [e3, e4] at e2
 rw [e1, e3, e4]
 have e5 : ∀ l', P12 5 3 l' → P26 5 3 l' (⟨#[109, 111, 118, 101, 115]⟩ : ByteArray).data.toList = P6 5 3 l' [109, 111, 118, 101, 115] := fun l' h => by
  unfold P26; rw [if_pos h]
 have h82 := e2.2.1
 rw [P243 5 3 _ _ (by omega) (by decide) (by omega), e5 _ e2]; simp only [Option.bind_some]
 rw [P371, P372 (by omega)]; simp only [Option.bind_some]
 rw [P162 a b l (by omega) (by omega)]; simp only [Option.bind_some]
 rw [if_pos trivial, if_pos (by simp; omega)]
 simp only [List.nil_append]
 rw [if_pos (by omega), P242 (f ++ s) (by omega) (by omega)]; simp only [Option.bind_some]
 have hu := P116 5 3
 rw [if_pos trivial, if_pos (by omega), if_pos trivial, if_pos (by rw [P7]; omega)]
 have e : (⟨#[58]⟩ : ByteArray) ++ ba (P11 5 3).1 = ba (58 :: (P11 5 3).1) := P19 [58] _
 rw [e]; simp
theorem P375 (a b : Int) (l : List S31) (C : List ByteArray) (hl : l.length ≤ 9) (hC : C.length ≤ 41) (hz : ∀ c ∈ C, c.size ≤ 1000) {k : Nat} (hk : 400003000 ≤ k) :
  ((F8.f k a b l C).bind fun bt897 => ((F10.f k a b l C).bind fun bt906 => ((F22.f k bt897.1 bt897.2.1 bt897.2.2.1 bt906.1 bt906.2.1 bt906.2.2.1).bind fun t915 => (if t915 = true then ((F41.f k bt897.2.2.2 bt906.2.2.2).bind fun t916 => (laws_FnDeskSay.j0 k C bt897.2.2.2 (!t916) a b l bt897.1 bt897.2.1 bt897.2.2.1)) else (laws_FnDeskSay.j0 k C bt897.2.2.2 true a b l bt897.1 bt897.2.1 bt897.2.2.1))))) = some true := by
 obtain ⟨k, rfl⟩ : ∃ m, k = m + 1 + 1 := ⟨k - 2, by omega⟩
 have hz' : ∀ c ∈ C, c.size ≤ 100000000 := fun c hc => by have := hz c hc; omega
 have hlen := P358 a b l C
 rw [P160 a b l C (by omega) hz' (by omega), P361 a b l C (by omega) hz' (by omega)]; simp only [Option.bind_some]
 rw [P162 _ _ _ (by omega) (by omega)]; simp only [Option.bind_some]
 rw [if_pos trivial, P242 _ (by omega) (by omega)]; simp only [Option.bind_some, Bool.not_true]
 simp only [laws_FnDeskSay.j0]
 rw [if_neg (by decide), P106 a b l (by omega) (by omega)]; simp only [Option.bind_some, decide_eq_true_eq]
 have hno : ¬ (P12 a b l ∧ C.length ≤ 40) → ((if ((P32 a b l C).2.2.2.length : Int) = 0 then ((F91.f k (P32 a b l C).1 (P32 a b l C).2.1 (P32 a b l C).2.2.1).bind fun t918 => (if t918 = true then ((F88.f k).bind fun t919 => (some t919)) else (some false))) else (some false)) : Option Bool) = some true := by
  intro h
  have e : P32 a b l C = (0, 0, [], []) := by unfold P32; rw [if_neg h]
  rw [e]
  simp only
  unfold F91.f
  rw [if_pos (by rfl), P162 0 0 [] (by decide) (by simp; omega)]; simp only [Option.bind_some]
  rw [if_pos trivial, P366 (by omega)]; rfl
 by_cases h : P12 a b l
 ·rw [if_pos h]
  simp only [laws_FnDeskSay.j1, decide_eq_true_eq]
  by_cases h2 : (C.length : Int) > 40
  ·rw [if_pos h2]; exact hno (fun x => by have := x.2; omega)
  ·rw [if_neg h2]
   have e : ∀ D : List ByteArray, D.length ≤ 40 → ∀ {a b : Int} {l : List S31}, P12 a b l → P32 a b l D = P3 D a b l := fun D hD a b l h => by unfold P32; rw [if_pos ⟨h, hD⟩]
   rw [P1 (n := (C.length : Int) / 2) (by omega) (by omega), if_pos (by omega), if_pos (by omega), show ((C.length : Int) / 2).toNat = C.length / 2 by omega]
   have hs1 := P161 (C.take (C.length / 2)) h
   have hs8 := hs1.2.1
   have hlt : (C.take (C.length / 2)).length ≤ 40 := by rw [List.length_take]; omega
   have hld : (C.drop (C.length / 2)).length ≤ 40 := by rw [List.length_drop]; omega
   rw [P160 a b l _ (by omega) (fun c hc => hz' c (List.mem_of_mem_take hc)) (by omega), e _ hlt h]; simp only [Option.bind_some]
   rw [P160 _ _ _ _ (by omega) (fun c hc => hz' c (List.mem_of_mem_drop hc)) (by omega), e _ hld hs1]; simp only [Option.bind_some]
   have happ := P238 (C.take (C.length / 2)) (C.drop (C.length / 2)) a b l
   rw [List.take_append_drop] at happ
   rw [e C (by omega) h]
   have hd := P161 C h
   have hne := P241 C a b l
   have hk40 := (P159 C h).2
   rw [happ] at hd hne hk40 ⊢
   simp only at hd hne hk40 ⊢
   generalize P3 (C.drop (C.length / 2)) (P3 (C.take (C.length / 2)) a b l).1 (P3 (C.take (C.length / 2)) a b l).2.1 (P3 (C.take (C.length / 2)) a b l).2.2.1 = u at *
   generalize (P3 (C.take (C.length / 2)) a b l).2.2.2 = f at *
   obtain ⟨k, rfl⟩ : ∃ m, k = m + (f ++ u.2.2.2).length + 1 := ⟨k - (f ++ u.2.2.2).length - 1, by omega⟩
   have := P373 C (f ++ u.2.2.2) f u.2.2.2 u.1 u.2.1 u.2.2.1 u.1 u.2.1 u.2.2.1 hne (by omega) _ 0 (Nat.zero_add _) k
   rw [show ((0 : Nat) : Int) = 0 from rfl] at this
   rw [this]
   exact P374 C f u.2.2.2 hd (by omega) hk40 (by omega)
 ·rw [if_neg h]
  simp only [laws_FnDeskSay.j1]
  rw [if_pos trivial]
  exact hno (fun x => h x.1)
theorem P376 {l : List Int} (hw : ∀ x ∈ l, (Lit.int .u8 x).wf = true) {k : Nat} (hk : 400004000 ≤ k) : laws_FnDeskSay.f k l = some true := by
 unfold laws_FnDeskSay.f F54.f
 refine P245 (fun _ => rfl) (fun _ => ?_)
 obtain ⟨s, hs, hr⟩ := P247 hw
 rw [hs]; simp only [Option.bind_some]
 obtain ⟨a, b, p, q, hd, hp, q0, q1⟩ := P279 (k := k) (p := 0) 12 hr (by omega) (by omega) (by omega)
 rw [hd]; simp only [Option.bind_some]
 obtain ⟨w, hv, w0, w1, _⟩ := P23 (k := k) (p := q) 7 hr (by omega) (by omega) (by omega)
 have w1 := w1 (by omega)
 obtain ⟨m, rfl⟩ := Int.eq_ofNat_of_zero_le w0
 rw [hv]; simp only [Option.bind_some]
 obtain ⟨C, hC, c1, c2⟩ := P282 hr a b p hp m [] (q + 1) k (by omega) (by omega) (by simp; omega) (by simp) (by omega)
 rw [hC]; simp only [Option.bind_some]
 exact P375 a b p C hp c1 c2 (by omega)
theorem FnDeskSay : laws_FnDeskSay.Pure := fun _ _ _ hw => ⟨400004000, P376 hw (Nat.le_refl _)⟩
end Go.Proofs.YtofmlbgfcohhoaaGreatDoor.Pure
