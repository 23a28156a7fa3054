/- FnReadJournal: ReadJournal answers as the reference's does; JournalText of the deeds is what was read; of any beginning of the text the first ones of these deeds are read; said line by line they lead to the desk to which DeskRun leads; at every draw. -/
import Derived.Lib.AtoiAll
import Derived.Lib.AtoiTie
import Derived.Lib.IndexMore
import Derived.Lib.ItoaNum
import Derived.Lib.Join
import Derived.Test.YtofmlbgfcohhoaaGreatDoorPFnReadJournalx0
import Derived.Test.YtofmlbgfcohhoaaGreatDoorPFnReadJournalx4
import Derived.Test.YtofmlbgfcohhoaaGreatDoorPFnReadJournalx6
import Derived.Test.YtofmlbgfcohhoaaGreatDoorPFnReadJournalx8
import Derived.Test.YtofmlbgfcohhoaaGreatDoorPFnReadJournalx9
import Derived.Test.YtofmlbgfcohhoaaGreatDoorPFnReadJournalx10
import Derived.Test.YtofmlbgfcohhoaaGreatDoorPFnReadJournalx11
import Derived.Test.YtofmlbgfcohhoaaGreatDoorPFnReadJournalx12
import Derived.Test.YtofmlbgfcohhoaaGreatDoorPFnReadJournalx13
import Derived.Test.YtofmlbgfcohhoaaGreatDoorPFnReadJournalx15
import Derived.Test.YtofmlbgfcohhoaaGreatDoorPFnReadJournalx16
import Derived.Test.YtofmlbgfcohhoaaGreatDoorPFnReadJournalx18
import Derived.Test.YtofmlbgfcohhoaaGreatDoorPFnReadJournalx20
import Derived.Test.YtofmlbgfcohhoaaGreatDoorPFnReadJournalx21
import Derived.Test.YtofmlbgfcohhoaaGreatDoorPFnReadJournalx22
import Derived.Test.YtofmlbgfcohhoaaGreatDoorPFnReadJournalx23
import Derived.Test.YtofmlbgfcohhoaaGreatDoorPFnReadJournalx24
import Derived.Test.YtofmlbgfcohhoaaGreatDoorPFnReadJournalx25
import Derived.Test.YtofmlbgfcohhoaaGreatDoorPFnReadJournalx27
import Derived.Test.YtofmlbgfcohhoaaGreatDoorCFnReadJournal
set_option linter.unusedVariables false
set_option linter.unusedSimpArgs false
namespace Go.Proofs.YtofmlbgfcohhoaaGreatDoor.Pure
open Go.RowKit Go.Proofs.YtofmlbgfcohhoaaGreatDoor.PFnReadJournal Go.Proofs.YtofmlbgfcohhoaaGreatDoorW.PrintWords Go.Proofs.YtofmlbgfcohhoaaGreatDoorW.PrintLast Go.Proofs.YtofmlbgfcohhoaaGreatDoorW.PrintMore Go.Proofs.YtofmlbgfcohhoaaGreatDoor.Lib

theorem P1 {n : Int} (h : -9223372036854775808 ≤ n) (h' : n ≤ 9223372036854775807) : wrap64 n = n := by unfold wrap64; omega
theorem P145 {p : Prop} [Decidable p] (h : p) : some (decide p) = some true := by simp [h]
theorem P24 {p : Prop} [Decidable p] (h : ¬ p) : some (decide p) = some false := by simp [h]
theorem P40 {p q : Prop} [Decidable p] [Decidable q] (h : p ↔ q) : some (decide p) = some (decide q) := by simp [h]
theorem P146 (a : Int) {b : Int} (h : b ≠ 0) : (Int.tmod a b).natAbs < b.natAbs := by
 rw [Int.natAbs_tmod]
 exact Nat.mod_lt _ (by omega)
theorem P147 (a b : Int) : Int.gcd b (Int.tmod a b) = Int.gcd a b := by
 unfold Int.gcd
 rw [Int.natAbs_tmod, Nat.gcd_comm a.natAbs, Nat.gcd_rec b.natAbs a.natAbs, Nat.gcd_comm]
theorem P74 {a : Int} (h : -9223372036854775808 < a) (h' : a ≤ 9223372036854775807) : mx a (wrap64 (-a)) = (a.natAbs : Int) := by
 rw [P1 (by omega) (by omega)]; unfold mx; split <;> omega
def P28 (s : List Int) : Prop := s.length ≤ 2000 ∧ ∀ x ∈ s, 0 ≤ x ∧ x ≤ 255
theorem P107 {s : List Int} (h : P28 s) (i : Int) : 0 ≤ rd s i ∧ rd s i ≤ 255 := by
 unfold rd
 by_cases hi : i.toNat < s.length
 ·have e : s.getD i.toNat 0 = s[i.toNat] := by simp [hi]
  rw [e]; exact h.2 _ (List.getElem_mem hi)
 ·have e : s.getD i.toNat 0 = 0 := by simp; rw [List.getElem?_eq_none (by omega)]; rfl
  rw [e]; omega
theorem P222 {x y : Int} (hx : 0 ≤ x) (hx' : x < 4611686018427387904) (hy : 0 ≤ y) (hy' : y < 4611686018427387904) : 0 ≤ Go.bits .xor .i64 x y := by
 unfold Go.bits
 simp only
 obtain ⟨a, rfl⟩ := Int.eq_ofNat_of_zero_le hx
 obtain ⟨b, rfl⟩ := Int.eq_ofNat_of_zero_le hy
 have h64 : IntKind.i64.bits = 64 := rfl
 rw [BitVec.toNat_xor]
 have ea : (BitVec.ofInt IntKind.i64.bits (a : Int)).toNat = a := by
  rw [BitVec.toNat_ofInt, h64]; omega
 have eb : (BitVec.ofInt IntKind.i64.bits (b : Int)).toNat = b := by
  rw [BitVec.toNat_ofInt, h64]; omega
 rw [ea, eb]
 have hl : a ^^^ b < 2 ^ 62 := Nat.xor_lt_two_pow (by omega) (by omega)
 generalize a ^^^ b = c at *
 have : IntKind.i64.wrap (c : Int) = wrap64 (c : Int) := by
  simp [IntKind.wrap, wrap64, IntKind.signed, IntKind.bits]
  try omega
 rw [this, P1 (by omega) (by omega)]
 omega
theorem P92 {x n : Int} (hx : 0 ≤ x) (hn : 1 ≤ n) : 0 ≤ Int.tmod x n ∧ Int.tmod x n < n := by
 rw [Int.tmod_eq_emod_of_nonneg hx]
 exact ⟨Int.emod_nonneg _ (by omega), Int.emod_lt_of_pos _ (by omega)⟩
theorem P17 {s : List Int} {p : Int} (n : Int) {k : Nat} (hs : P28 s) (hp : 0 ≤ p) (hp' : p ≤ 1000000) (hk : 1 ≤ k) :
  ∃ v, F0.f k s p n = some (v, p + 1) ∧ 0 ≤ v ∧ (1 ≤ n → v < n) ∧ (n < 1 → v = 0) := by
 obtain ⟨k, rfl⟩ : ∃ m, k = m + 1 := ⟨k - 1, by omega⟩
 unfold F0.f
 rw [P1 (n := p + 1) (by omega) (by omega)]
 by_cases hn : n < 1
 ·rw [if_pos hn]; simp only [F0.j0]; rw [if_pos trivial]
  exact ⟨0, rfl, by omega, by omega, fun _ => rfl⟩
 ·rw [if_neg hn]
  by_cases hl : (s.length : Int) = 0
  ·rw [show ((s.length : Int) == 0) = true by simpa using hl]; simp only [F0.j0]; rw [if_pos trivial]
   exact ⟨0, rfl, by omega, by omega, fun _ => rfl⟩
  ·rw [show ((s.length : Int) == 0) = false by simpa using hl]; simp only [F0.j0]; rw [if_neg (by decide)]
   have hlen := hs.1
   rw [show p + 1 - 1 = p by omega, P1 (n := p) (by omega) (by omega)]
   by_cases h1 : p < (s.length : Int)
   ·have hb := P107 hs p
    rw [if_pos h1, if_pos hp, if_neg (by omega), P1 (by omega) (by omega)]
    have ht := P92 (n := n) hb.1 (by omega)
    exact ⟨_, rfl, ht.1, fun _ => ht.2, fun x => absurd x hn⟩
   ·have t1 := P92 (x := p) (n := (s.length : Int)) hp (by omega)
    have t2 := P92 (x := p * 7 + 3) (n := (s.length : Int)) (by omega) (by omega)
    rw [if_neg h1, if_neg hl, if_pos t1.1, if_pos t1.2, P1 (n := p * 7) (by omega) (by omega), P1 (n := p * 7 + 3) (by omega) (by omega), if_pos t2.1, if_pos t2.2, if_neg (by omega)]
    have b1 := P107 hs (Int.tmod p (s.length : Int))
    have b2 := P107 hs (Int.tmod (p * 7 + 3) (s.length : Int))
    generalize rd s (Int.tmod p (s.length : Int)) = r1 at *
    generalize rd s (Int.tmod (p * 7 + 3) (s.length : Int)) = r2 at *
    have q1 : 0 ≤ Int.tdiv p (s.length : Int) ∧ Int.tdiv p (s.length : Int) ≤ p := by
     obtain ⟨a, rfl⟩ := Int.eq_ofNat_of_zero_le hp
     rw [Int.tdiv_eq_ediv_of_nonneg (by omega), ← Int.natCast_ediv]
     have := Nat.div_le_self a s.length
     exact ⟨Int.natCast_nonneg _, by exact_mod_cast this⟩
    generalize Int.tdiv p (s.length : Int) = q at *
    rw [P1 (n := r1) (by omega) (by omega), P1 (n := r1 * 131) (by omega) (by omega), P1 (n := r2) (by omega) (by omega), P1 (n := r2 * 1117) (by omega) (by omega), P1 (n := r1 * 131 + r2 * 1117) (by omega) (by omega), P1 (n := p * 29) (by omega) (by omega), P1 (n := q) (by omega) (by omega), P1 (n := q * 53) (by omega) (by omega), P1 (n := r1 * 131 + r2 * 1117 + p * 29) (by omega) (by omega), P1 (n := r1 * 131 + r2 * 1117 + p * 29 + q * 53) (by omega) (by omega)]
    generalize hX : r1 * 131 + r2 * 1117 + p * 29 + q * 53 = X
    have hX0 : 0 ≤ X := by omega
    have hX1 : X ≤ 1000000000 := by omega
    have d1 : 0 ≤ Int.tdiv X 64 ∧ Int.tdiv X 64 ≤ X := by
     rw [Int.tdiv_eq_ediv_of_nonneg hX0]; omega
    rw [P1 (n := Int.tdiv X 64) (by omega) (by omega)]
    have hx := P222 (x := X) (y := Int.tdiv X 64) hX0 (by omega) d1.1 (by omega)
    have ht := P92 (n := n) hx (by omega)
    exact ⟨_, rfl, ht.1, fun _ => ht.2, fun x => absurd x hn⟩
theorem P148 {n : Int} (h : (Lit.int .u8 n).wf = true) : 0 ≤ n ∧ n ≤ 255 := by
 simpa [Lit.wf, IntKind.min, IntKind.max, IntKind.signed, IntKind.bits] using h
theorem P149 {l : List Int} (h : ∀ x ∈ l, (Lit.int .u8 x).wf = true) : ∃ s, F80.f l = some (s, 0) ∧ P28 s := by
 unfold F80.f
 by_cases hl : (l.length : Int) > 2000
 ·rw [if_pos hl, if_pos (by omega)]
  exact ⟨_, rfl, by rw [List.length_take]; omega, fun x hx => P148 (h x (List.mem_of_mem_take hx))⟩
 ·rw [if_neg hl]
  exact ⟨_, rfl, by omega, fun x hx => P148 (h x hx)⟩
theorem P60 {s : ByteArray} {i : Nat} (h : i < s.size) : ∃ c : UInt8, s.data.toList.drop i = c :: s.data.toList.drop (i + 1) ∧ bt s (i : Int) = ((c.toNat : Nat) : Int) := by
 have hl : i < s.data.toList.length := by simpa using h
 refine ⟨s.data.toList[i], List.drop_eq_getElem_cons hl, ?_⟩
 unfold bt
 rw [dif_pos (by simpa using h)]
 simp
 rfl
theorem P75 {s : ByteArray} {i : Nat} (h : s.size ≤ i) : s.data.toList.drop i = [] := List.drop_of_length_le (by simpa using h)
theorem P52 {c : UInt8} {n : Nat} (hn : n < 256) : ((c.toNat : Nat) : Int) = (n : Int) ↔ c = UInt8.ofNat n := by
 constructor
 ·intro h
  apply UInt8.toNat_inj.1
  rw [UInt8.toNat_ofNat']
  omega
 ·intro h
  subst h
  rw [UInt8.toNat_ofNat']
  omega
def P10 (c : UInt8) : Prop := 48 ≤ c.toNat ∧ c.toNat ≤ 57
instance (c : UInt8) : Decidable (P10 c) := by unfold P10; infer_instance
theorem P61 {n : Nat} (h : n < 10) : P10 (UInt8.ofNat (48 + n)) ∧ (UInt8.ofNat (48 + n)).toNat = 48 + n := by
 have : (UInt8.ofNat (48 + n)).toNat = 48 + n := by rw [UInt8.toNat_ofNat']; omega
 exact ⟨by unfold P10; omega, this⟩
theorem P46 {u : Nat} (h : u < 10) : Go.Lib.decDigits u = [UInt8.ofNat (48 + u)] := by rw [Go.Lib.decDigits, dif_pos h]
theorem P62 {u : Nat} (h : ¬ u < 10) : Go.Lib.decDigits u = Go.Lib.decDigits (u / 10) ++ [UInt8.ofNat (48 + u % 10)] := by rw [Go.Lib.decDigits, dif_neg h]
theorem P223 (n : Nat) : ∀ u, u < n → ∀ c ∈ Go.Lib.decDigits u, P10 c := by
 induction n with
 | zero => intro u hu; omega
 | succ n ih =>
  intro u hu c hc
  by_cases h : u < 10
  ·rw [P46 h] at hc
   simp only [List.mem_singleton] at hc
   subst hc; exact (P61 h).1
  ·rw [P62 h] at hc
   rcases List.mem_append.1 hc with h1 | h1
   ·exact ih (u / 10) (by omega) c h1
   ·simp only [List.mem_singleton] at h1
    subst h1; exact (P61 (Nat.mod_lt _ (by omega))).1
theorem P63 (u : Nat) : ∀ c ∈ Go.Lib.decDigits u, P10 c := P223 (u + 1) u (by omega)
theorem P93 (n : Nat) : ∀ u, u < 10 ^ (n + 1) → (Go.Lib.decDigits u).length ≤ n + 1 := by
 induction n with
 | zero => intro u hu; rw [P46 (by omega)]; simp
 | succ n ih =>
  intro u hu
  by_cases h : u < 10
  ·rw [P46 h]; simp
  ·rw [P62 h]
   have := ih (u / 10) (by rw [Nat.pow_succ] at hu; omega)
   simp; omega
theorem P150 (u : Nat) : 1 ≤ (Go.Lib.decDigits u).length := by
 by_cases h : u < 10
 ·rw [P46 h]; simp
 ·rw [P62 h]; simp
def P11 (a : Nat) (l : List UInt8) : Nat := l.foldl (fun a c => 10 * a + (c.toNat - 48)) a
theorem P151 (a : Nat) (l m : List UInt8) : P11 a (l ++ m) = P11 (P11 a l) m := by unfold P11; rw [List.foldl_append]
theorem P224 (n : Nat) : ∀ u, u < n → P11 0 (Go.Lib.decDigits u) = u := by
 induction n with
 | zero => intro u hu; omega
 | succ n ih =>
  intro u hu
  by_cases h : u < 10
  ·rw [P46 h]; show 10 * 0 + ((UInt8.ofNat (48 + u)).toNat - 48) = u; rw [(P61 h).2]; omega
  ·rw [P62 h, P151, ih (u / 10) (by omega)]
   show 10 * (u / 10) + ((UInt8.ofNat (48 + u % 10)).toNat - 48) = u
   rw [(P61 (Nat.mod_lt _ (by omega))).2]; omega
theorem P94 (u : Nat) : P11 0 (Go.Lib.decDigits u) = u := P224 (u + 1) u (by omega)
theorem P225 (n : Nat) : ∀ u, u < n → 1 ≤ u → ∃ c r, Go.Lib.decDigits u = c :: r ∧ c.toNat ≠ 48 := by
 induction n with
 | zero => intro u hu; omega
 | succ n ih =>
  intro u hu h1
  by_cases h : u < 10
  ·rw [P46 h]; exact ⟨_, [], rfl, by rw [(P61 h).2]; omega⟩
  ·obtain ⟨c, r, e, hc⟩ := ih (u / 10) (by omega) (by omega)
   rw [P62 h, e]; exact ⟨c, _, rfl, hc⟩
theorem P108 (u : Nat) : ∃ c r, Go.Lib.decDigits u = c :: r ∧ P10 c ∧ (1 ≤ u → c.toNat ≠ 48) ∧ (u < 10 → r = []) := by
 by_cases h : u < 10
 ·rw [P46 h]; exact ⟨_, [], rfl, (P61 h).1, fun h1 => by rw [(P61 h).2]; omega, fun _ => rfl⟩
 ·obtain ⟨c, r, e, hc⟩ := P225 (u + 1) u (by omega) (by omega)
  exact ⟨c, r, e, P63 u c (by rw [e]; simp), fun _ => hc, fun x => absurd x h⟩
def P20 : Int → List UInt8 → Int × Bool
 | a, [] => (a, true)
 | a, c :: r => if P10 c then P20 (10 * a + ((c.toNat : Int) - 48)) r else (0, false)
theorem P226 (l : List UInt8) (h : ∀ c ∈ l, P10 c) : ∀ a : Nat, P20 (a : Int) l = (((P11 a l : Nat) : Int), true) := by
 induction l with
 | nil => intro a; rfl
 | cons c r ih =>
  intro a
  have hc := h c (by simp)
  simp only [P20]
  rw [if_pos hc]
  have hc' := hc
  unfold P10 at hc'
  rw [show 10 * (a : Int) + ((c.toNat : Int) - 48) = ((10 * a + (c.toNat - 48) : Nat) : Int) by omega, ih (fun c hc => h c (by simp [hc]))]
  rfl
def P15 (l : List UInt8) : Int × Bool := if (1 ≤ l.length ∧ l.length ≤ 7) ∧ ¬ (1 < l.length ∧ l.head? = some 48) then P20 0 l else (0, false)
def P4 : List UInt8 → Int × Bool
 | [] => P15 []
 | [c] => P15 [c]
 | c :: d :: r => if c = 45 then (-(P4 (d :: r)).1, (P4 (d :: r)).2 && decide ((P4 (d :: r)).1 > 0)) else P15 (c :: d :: r)
theorem P152 {u : Nat} (h : u < 10000000) : P15 (Go.Lib.decDigits u) = ((u : Int), true) := by
 unfold P15
 have h1 := P150 u
 have h2 := P93 6 u (by omega)
 obtain ⟨c, r, e, hc, hz, hr⟩ := P108 u
 have no : ¬ (1 < (Go.Lib.decDigits u).length ∧ (Go.Lib.decDigits u).head? = some 48) := by
  rintro ⟨hl, hh⟩
  rw [e] at hl hh
  simp only [List.head?_cons, Option.some.injEq] at hh
  by_cases hu : u < 10
  ·rw [hr hu] at hl; simp at hl
  ·exact hz (by omega) (by rw [hh]; rfl)
 rw [if_pos ⟨⟨h1, by omega⟩, no⟩]
 have := P226 _ (P63 u) 0
 rw [P94] at this
 exact this
theorem P153 {l : List UInt8} (h : ∀ c ∈ l, P10 c) : P4 l = P15 l := by
 match l, h with
 | [], _ => rfl
 | [c], _ => rfl
 | c :: d :: r, h =>
  simp only [P4]
  rw [if_neg]
  intro x
  have := (h c (by simp)).1
  rw [x] at this
  exact absurd this (by decide)
theorem P82 {n : Int} (h : n.natAbs < 10000000) : P4 (Go.Lib.itoa n) = (n, true) := by
 unfold Go.Lib.itoa
 by_cases hn : n < 0
 ·rw [if_pos hn]
  obtain ⟨c, r, e, _⟩ := P108 n.natAbs
  have h1 := P153 (P63 n.natAbs)
  rw [P152 h] at h1
  rw [e] at h1 ⊢
  simp only [P4]
  rw [if_pos trivial, h1]
  simp only [Prod.mk.injEq, Bool.true_and, decide_eq_true_eq]
  omega
 ·rw [if_neg hn, P153 (P63 _), P152 (by omega)]
  simp only [Prod.mk.injEq, and_true]
  omega
theorem P154 {n : Int} {c : UInt8} (h : c ∈ Go.Lib.itoa n) : c = 45 ∨ P10 c := by
 unfold Go.Lib.itoa at h
 split at h
 ·rcases List.mem_cons.1 h with h1 | h1
  ·exact .inl h1
  ·exact .inr (P63 _ c h1)
 ·exact .inr (P63 _ c h)
theorem P53 {n : Int} (h : n.natAbs < 10000000) : (Go.Lib.itoa n).length ≤ 8 := by
 unfold Go.Lib.itoa
 have h2 := P93 6 n.natAbs (by omega)
 split
 ·simp; omega
 ·rw [show n.toNat = n.natAbs by omega]; omega
def P0 (a b : Int) : Prop := (-1000000 ≤ a ∧ a ≤ 1000000) ∧ (0 ≤ b ∧ b ≤ 1000000) ∧ Int.gcd a b = 1 ∧ (b = 0 → a = 1)
instance (a b : Int) : Decidable (P0 a b) := by unfold P0; infer_instance
def P8 (a b m : Int) : Prop := P0 a b ∧ (-m ≤ a ∧ a ≤ m) ∧ b ≤ m
instance (a b m : Int) : Decidable (P8 a b m) := by unfold P8; infer_instance
theorem P109 {a b : Int} {m n : Nat} (h : a.natAbs ≤ m) (h' : b.natAbs ≤ n) : (a * b).natAbs ≤ m * n := by
 rw [Int.natAbs_mul]; exact Nat.mul_le_mul h h'
def ba (l : List UInt8) : ByteArray := ⟨⟨l⟩⟩
theorem P35 (l : List UInt8) : (ba l).data.toList = l := rfl
theorem P47 (l : List UInt8) : (ba l).toList = l := by rw [ByteArray.toList_eq]; rfl
theorem P5 (l : List UInt8) : (ba l).size = l.length := rfl
theorem P18 (l m : List UInt8) : ba l ++ ba m = ba (l ++ m) := by
 apply ByteArray.ext
 rw [ByteArray.data_append]
 simp [ba]
theorem P64 (s : ByteArray) (a e : Nat) : s.extract a e = ba ((s.data.toList.drop a).take (e - a)) := by
 apply ByteArray.ext
 apply Array.toList_inj.1
 simp [ba, List.drop_take]
def P9 (a b : Int) : List UInt8 := if b = 1 then Go.Lib.itoa a else Go.Lib.itoa a ++ 47 :: Go.Lib.itoa b
def P3 (c : UInt8) : List UInt8 → List UInt8 → List (List UInt8)
 | cur, [] => [cur]
 | cur, x :: r => if x = c then cur :: P3 c [] r else P3 c (cur ++ [x]) r
theorem P65 {c : UInt8} : ∀ (l cur : List UInt8), (∀ x ∈ l, x ≠ c) → P3 c cur l = [cur ++ l]
 | [], cur, _ => by simp [P3]
 | x :: r, cur, h => by
  simp only [P3]
  rw [if_neg (h x (by simp)), P65 r (cur ++ [x]) (fun y hy => h y (by simp [hy]))]
  simp
theorem P76 {c : UInt8} : ∀ (l cur m : List UInt8), (∀ x ∈ l, x ≠ c) → P3 c cur (l ++ c :: m) = (cur ++ l) :: P3 c [] m
 | [], cur, m, _ => by simp [P3]
 | x :: r, cur, m, h => by
  simp only [List.cons_append, P3]
  rw [if_neg (h x (by simp)), P76 r (cur ++ [x]) m (fun y hy => h y (by simp [hy]))]
  simp
theorem P155 (c : UInt8) : ∀ (l cur : List UInt8), ∃ x r, P3 c cur l = x :: r
 | [], cur => ⟨_, _, rfl⟩
 | y :: r, cur => by
  simp only [P3]
  split
  ·exact ⟨_, _, rfl⟩
  ·exact P155 c r _
theorem P83 (n : Int) : ∀ x ∈ Go.Lib.itoa n, x ≠ 47 := by
 intro x hx h
 rcases P154 hx with h1 | h1
 ·rw [h] at h1; exact absurd h1 (by decide)
 ·rw [h] at h1; exact absurd h1 (by decide)
def P25 : List (List UInt8) → Int × Int × Bool
 | [x] => ((P4 x).1, 1, (P4 x).2)
 | [x, y] => ((P4 x).1, (P4 y).1, (P4 x).2 && (P4 y).2)
 | _ => (0, 0, false)
def P22 (l : List UInt8) : Int × Int × Bool :=
 if (P25 (P3 47 [] l)).2.2 = true ∧ P0 (P25 (P3 47 [] l)).1 (P25 (P3 47 [] l)).2.1 ∧ P9 (P25 (P3 47 [] l)).1 (P25 (P3 47 [] l)).2.1 = l then
  ((P25 (P3 47 [] l)).1, (P25 (P3 47 [] l)).2.1, true) else (0, 0, false)
theorem P84 {a b : Int} (h : P0 a b) : a.natAbs < 10000000 ∧ b.natAbs < 10000000 := by
 have h1 := h.1
 have h2 := h.2.1
 omega
theorem P227 {a b : Int} (h : P0 a b) : P25 (P3 47 [] (P9 a b)) = (a, b, true) := by
 have hb := P84 h
 unfold P9
 split
 ·next hb1 =>
  rw [P65 _ _ (P83 a), List.nil_append]
  simp only [P25]
  rw [P82 hb.1, hb1]
 ·rw [P76 _ _ _ (P83 a), P65 _ _ (P83 b)]
  simp only [List.nil_append, P25]
  rw [P82 hb.1, P82 hb.2]; rfl
theorem P110 (l : List UInt8) : (∃ a b, P0 a b ∧ P9 a b = l ∧ P22 l = (a, b, true)) ∨ ((∀ a b, P0 a b → P9 a b ≠ l) ∧ P22 l = (0, 0, false)) := by
 by_cases h : (P25 (P3 47 [] l)).2.2 = true ∧ P0 (P25 (P3 47 [] l)).1 (P25 (P3 47 [] l)).2.1 ∧ P9 (P25 (P3 47 [] l)).1 (P25 (P3 47 [] l)).2.1 = l
 ·left
  exact ⟨_, _, h.2.1, h.2.2, by unfold P22; rw [if_pos h]⟩
 ·right
  refine ⟨?_, by unfold P22; rw [if_neg h]⟩
  intro a b hf he
  subst he
  rw [P227 hf] at h
  exact h ⟨rfl, hf, rfl⟩
theorem P228 {a b : Int} (h : P0 a b) : (P9 a b).length ≤ 17 := by
 have hb := P84 h
 have h1 := P53 hb.1
 have h2 := P53 hb.2
 unfold P9
 split
 ·omega
 ·simp; omega
def P77 (c : UInt8) : Prop := c = 84 ∨ c = 116 ∨ c = 82
instance (c : UInt8) : Decidable (P77 c) := by unfold P77; infer_instance
def P31 (l : List UInt8) : Prop := ∀ c ∈ l, P77 c
instance (l : List UInt8) : Decidable (P31 l) := by unfold P31; infer_instance
theorem P229 : P31 [] := by intro c h; simp at h
theorem P111 (c : UInt8) (l : List UInt8) : P31 (c :: l) ↔ P77 c ∧ P31 l := by unfold P31; simp
def P41 (l : List UInt8) : Prop := l.length ≤ 40 ∧ P31 l
instance (l : List UInt8) : Decidable (P41 l) := by unfold P41; infer_instance
def P56 (s : ByteArray) : Prop := P41 s.data.toList
instance (s : ByteArray) : Decidable (P56 s) := by unfold P56; infer_instance
def P2 (kind : Int) (t : List UInt8) : List UInt8 :=
 if kind = 0 ∧ P41 t then [100, 97, 110, 99, 101, 32] ++ t else if kind = 1 ∧ (P22 t).2.2 = true then [116, 97, 107, 101, 32] ++ t
 else if kind = 2 ∧ t = [] then [109, 105, 114, 114, 111, 114] else if kind = 3 ∧ t = [] then [117, 110, 116, 105, 101] else if kind = 4 ∧ t = [] then [98, 97, 99, 107] else []
theorem P95 (t : ByteArray) : (t.toList == ([] : List UInt8)) = decide (t.data.toList = []) := by
 rw [ByteArray.toList_eq]
 cases t.data.toList with
 | nil => rfl
 | cons a l => rfl
theorem P96 (k : Int) (t : List UInt8) : (P2 k t).length ≤ t.length + 6 := by
 unfold P2
 split
 ·simp
 ·split
  ·simp
  ·split
   ·simp
   ·split
    ·simp
    ·split
     ·simp
     ·simp
def P7 : List S38 → Option (List UInt8)
 | [] => some []
 | c :: r => if P2 c.f0 c.f1.data.toList = [] then none else (P7 r).map fun x => P2 c.f0 c.f1.data.toList ++ 10 :: x
def P42 (acc : List UInt8) : Option (List UInt8) → ByteArray
 | some x => ba (acc ++ x)
 | none => ba []
def szd (l : List S38) : Nat := (l.map fun x => x.f1.size).sum
theorem P97 (l : List S38) (i : Nat) (h : i < l.length) : l.drop i = rd_T38 l (i : Int) :: l.drop (i + 1) := by
 rw [List.drop_eq_getElem_cons h]
 unfold rd_T38
 simp [h]
def rdv (l : List UInt8) : Int × List UInt8 × Bool :=
 if l = [109, 105, 114, 114, 111, 114] then (2, [], true) else if l = [117, 110, 116, 105, 101] then (3, [], true) else if l = [98, 97, 99, 107] then (4, [], true)
 else if l.take 6 = [100, 97, 110, 99, 101, 32] ∧ P41 (l.drop 6) then (0, l.drop 6, true)
 else if l.take 5 = [116, 97, 107, 101, 32] ∧ (P22 (l.drop 5)).2.2 = true then (1, l.drop 5, true) else (0, [], false)
theorem P112 {k : Int} {t : List UInt8} (h : P2 k t ≠ []) : rdv (P2 k t) = (k, t, true) := by
 unfold P2 at h ⊢
 by_cases h0 : k = 0 ∧ P41 t
 ·rw [if_pos h0]
  unfold rdv
  rw [if_neg (by intro x; have := congrArg List.head? x; simp at this), if_neg (by intro x; have := congrArg List.head? x; simp at this), if_neg (by intro x; have := congrArg List.head? x; simp at this)]
  have e1 : ([100, 97, 110, 99, 101, 32] ++ t : List UInt8).take 6 = [100, 97, 110, 99, 101, 32] := by simp
  have e2 : ([100, 97, 110, 99, 101, 32] ++ t : List UInt8).drop 6 = t := by simp
  rw [e1, e2, if_pos ⟨rfl, h0.2⟩, h0.1]
 ·rw [if_neg h0] at h ⊢
  by_cases h1 : k = 1 ∧ (P22 t).2.2 = true
  ·rw [if_pos h1]
   unfold rdv
   rw [if_neg (by intro x; have := congrArg List.head? x; simp at this), if_neg (by intro x; have := congrArg List.head? x; simp at this), if_neg (by intro x; have := congrArg List.head? x; simp at this), if_neg (by intro x; have := congrArg List.head? x.1; simp at this)]
   have e1 : ([116, 97, 107, 101, 32] ++ t : List UInt8).take 5 = [116, 97, 107, 101, 32] := by simp
   have e2 : ([116, 97, 107, 101, 32] ++ t : List UInt8).drop 5 = t := by simp
   rw [e1, e2, if_pos ⟨rfl, h1.2⟩, h1.1]
  ·rw [if_neg h1] at h ⊢
   by_cases h2 : k = 2 ∧ t = []
   ·rw [if_pos h2, h2.1, h2.2]; rfl
   ·rw [if_neg h2] at h ⊢
    by_cases h3 : k = 3 ∧ t = []
    ·rw [if_pos h3, h3.1, h3.2]; rfl
    ·rw [if_neg h3] at h ⊢
     by_cases h4 : k = 4 ∧ t = []
     ·rw [if_pos h4, h4.1, h4.2]; rfl
     ·rw [if_neg h4] at h; exact absurd rfl h
theorem P113 (l : List UInt8) : (∃ k t, l ≠ [] ∧ P2 k t = l ∧ rdv l = (k, t, true)) ∨ ((∀ k t, P2 k t = l → l = []) ∧ rdv l = (0, [], false)) := by
 by_cases h : ∃ k t, P2 k t = l ∧ l ≠ []
 ·obtain ⟨k, t, h1, h2⟩ := h
  refine .inl ⟨k, t, h2, h1, ?_⟩
  rw [← h1] at h2 ⊢
  exact P112 h2
 ·have hn : ∀ k t, P2 k t = l → l = [] := fun k t hk => Classical.byContradiction fun hl => h ⟨k, t, hk, hl⟩
  refine .inr ⟨hn, ?_⟩
  by_cases hl : l = []
  ·subst hl; rfl
  ·have no : ∀ k t, P2 k t ≠ l := fun k t hk => hl (hn k t hk)
   unfold rdv
   rw [if_neg (fun x => no 2 [] (by rw [x]; rfl)), if_neg (fun x => no 3 [] (by rw [x]; rfl)), if_neg (fun x => no 4 [] (by rw [x]; rfl)),
    if_neg (fun x => no 0 (l.drop 6) (by unfold P2; rw [if_pos ⟨rfl, x.2⟩, ← x.1, List.take_append_drop])), if_neg (fun x => no 1 (l.drop 5) (by unfold P2; rw [if_neg (fun y => absurd y.1 (by decide)), if_pos ⟨rfl, x.2⟩, ← x.1, List.take_append_drop]))]
theorem P230 {t : List UInt8} (h : P41 t) : ∀ x ∈ t, x ≠ 32 := by
 intro x hx e
 have := h.2 x hx
 rw [e] at this
 exact absurd this (by decide)
theorem P231 {t : List UInt8} (h : (P22 t).2.2 = true) : ∀ x ∈ t, x ≠ 32 := by
 rcases P110 t with ⟨a, b, _, ht, _⟩ | ⟨_, hr⟩
 ·intro x hx e
  rw [← ht] at hx
  have key : ∀ n : Int, x ∈ Go.Lib.itoa n → False := by
   intro n hn
   rcases P154 hn with h1 | h1
   ·rw [e] at h1; exact absurd h1 (by decide)
   ·rw [e] at h1; exact absurd h1 (by decide)
  unfold P9 at hx
  split at hx
  ·exact key a hx
  ·rcases List.mem_append.1 hx with h1 | h1
   ·exact key a h1
   ·rcases List.mem_cons.1 h1 with h2 | h2
    ·rw [e] at h2; exact absurd h2 (by decide)
    ·exact key b h2
 ·rw [hr] at h; exact absurd h (by decide)
theorem P114 {k : Int} {t l : List UInt8} (h : P2 k t = l) (hl : l ≠ []) :
  (k = 0 ∧ l = [100, 97, 110, 99, 101] ++ 32 :: t ∧ ∀ x ∈ t, x ≠ 32) ∨ (k = 1 ∧ l = [116, 97, 107, 101] ++ 32 :: t ∧ ∀ x ∈ t, x ≠ 32) ∨ (k = 2 ∧ t = [] ∧ l = [109, 105, 114, 114, 111, 114]) ∨ (k = 3 ∧ t = [] ∧ l = [117, 110, 116, 105, 101]) ∨ (k = 4 ∧ t = [] ∧ l = [98, 97, 99, 107]) := by
 unfold P2 at h
 split at h
 ·next h0 => exact .inl ⟨h0.1, h.symm, P230 h0.2⟩
 ·split at h
  ·next h1 => exact .inr (.inl ⟨h1.1, h.symm, P231 h1.2⟩)
  ·split at h
   ·next h2 => exact .inr (.inr (.inl ⟨h2.1, h2.2, h.symm⟩))
   ·split at h
    ·next h3 => exact .inr (.inr (.inr (.inl ⟨h3.1, h3.2, h.symm⟩)))
    ·split at h
     ·next h4 => exact .inr (.inr (.inr (.inr ⟨h4.1, h4.2, h.symm⟩)))
     ·exact absurd h.symm hl
theorem P156 (c : UInt8) : ∀ l : List UInt8, (∀ x ∈ l, x ≠ c) → Go.Lib.index l [c] = -1
 | [], _ => rfl
 | x :: l, h => by
  have hx := h x (by simp)
  simp only [Go.Lib.index]
  rw [P156 c l (fun y hy => h y (by simp [hy]))]
  have : ([c] : List UInt8).isPrefixOf (x :: l) = false := by
   simp only [List.isPrefixOf, Bool.and_true]
   simpa using fun e => hx e.symm
  rw [this]; rfl
theorem P157 (c : UInt8) : ∀ (a b : List UInt8), (∀ x ∈ a, x ≠ c) → Go.Lib.index (a ++ c :: b) [c] = (a.length : Int)
 | [], b, _ => by simp [Go.Lib.index, List.isPrefixOf]
 | x :: a, b, h => by
  have hx := h x (by simp)
  have ih := P157 c a b (fun y hy => h y (by simp [hy]))
  simp only [List.cons_append, Go.Lib.index]
  have : ([c] : List UInt8).isPrefixOf (x :: (a ++ c :: b)) = false := by
   simp only [List.isPrefixOf, Bool.and_true]
   simpa using fun e => hx e.symm
  rw [this, ih]
  simp
theorem P78 {c : UInt8} {l : List UInt8} (h : ∀ x ∈ l, x ≠ c) : Go.Lib.cut l [c] = (l, [], false) := by
 unfold Go.Lib.cut; rw [P156 c l h]; rfl
theorem P85 {c : UInt8} {a : List UInt8} (b : List UInt8) (h : ∀ x ∈ a, x ≠ c) : Go.Lib.cut (a ++ c :: b) [c] = (a, b, true) := by
 unfold Go.Lib.cut
 rw [P157 c a b h, if_pos (by omega)]
 simp
theorem P115 (c : UInt8) : ∀ l : List UInt8, (∀ x ∈ l, x ≠ c) ∨ ∃ a b, l = a ++ c :: b ∧ ∀ x ∈ a, x ≠ c
 | [] => .inl (by simp)
 | x :: l => by
  by_cases h : x = c
  ·subst h; exact .inr ⟨[], l, rfl, by simp⟩
  ·rcases P115 c l with h1 | ⟨a, b, rfl, h2⟩
   ·exact .inl (fun y hy => (List.mem_cons.1 hy).elim (fun e => e ▸ h) (h1 y))
   ·exact .inr ⟨x :: a, b, rfl, fun y hy => (List.mem_cons.1 hy).elim (fun e => e ▸ h) (h2 y)⟩
theorem P158 : ∀ (l : List UInt8) (a : Nat), (∀ c ∈ l, P10 c) → Go.Lib.decFrom a l = some (P11 a l)
 | [], a, _ => rfl
 | c :: r, a, h => by
  have hc := h c (by simp)
  unfold P10 at hc
  simp only [Go.Lib.decFrom, Go.Lib.digitVal]
  rw [if_pos hc]; simp only
  rw [P158 r _ (fun x hx => h x (by simp [hx])), Nat.mul_comm]; rfl
theorem P159 (u : Nat) : Go.Lib.decNat (Go.Lib.decDigits u) = some u := by
 unfold Go.Lib.decNat
 have h1 := P150 u
 have : (Go.Lib.decDigits u).isEmpty = false := by
  cases h : Go.Lib.decDigits u with
  | nil => rw [h] at h1; simp at h1
  | cons a l => rfl
 rw [this, P158 _ _ (P63 u), P94]; rfl
theorem P232 (n : Int) : Go.Lib.atoi (Go.Lib.itoa n) = some n := by
 unfold Go.Lib.itoa
 split
 ·simp only [Go.Lib.atoi]
  rw [P159]; simp; omega
 ·obtain ⟨c, r, e, hc, _⟩ := P108 n.toNat
  have h := P159 n.toNat
  rw [e] at h ⊢
  simp only [Go.Lib.atoi]
  have h1 : (c == 45) = false := by
   rw [beq_eq_false_iff_ne]; intro x; rw [x] at hc; exact absurd hc (by decide)
  have h2 : (c == 43) = false := by
   rw [beq_eq_false_iff_ne]; intro x; rw [x] at hc; exact absurd hc (by decide)
  rw [h1, h2, h]; simp; omega
theorem P98 {n : Int} (h : n.natAbs < 10000000) : strconv_Atoi.f (ba (Go.Lib.itoa n)) = some (n, none) := by
 have hl := P53 h
 unfold strconv_Atoi.f
 rw [if_pos (by rw [P5]; omega), P35, Go.Lib.atoiAll_short _ (by omega), P232]; rfl
theorem P160 (s : ByteArray) (h : s.size ≤ 100000000) : ∃ v e, strconv_Atoi.f s = some (v, e) := by
 unfold strconv_Atoi.f
 rw [if_pos (by omega)]
 split <;> exact ⟨_, _, rfl⟩
theorem P99 {n : Int} (h : -9223372036854775808 ≤ n ∧ n ≤ 9223372036854775807) : strconv_Itoa.f n = some (ba (Go.Lib.itoa n)) := by
 unfold strconv_Itoa.f; rw [if_pos h]; rfl
def rdc (l : List UInt8) : S38 := ⟨(rdv l).1, ba (rdv l).2.1⟩
def rjF : List UInt8 → List UInt8 → List S38 × Nat
 | _, [] => ([], 0)
 | cur, x :: r => if x = 10 then (if (rdv cur).2.2 = true then (rdc cur :: (rjF [] r).1, cur.length + 1 + (rjF [] r).2) else ([], 0)) else rjF (cur ++ [x]) r
theorem P161 : ∀ (l cur : List UInt8), (∀ x ∈ l, x ≠ 10) → rjF cur l = ([], 0)
 | [], _, _ => rfl
 | x :: r, cur, h => by
  simp only [rjF]
  rw [if_neg (h x (by simp)), P161 r _ (fun y hy => h y (by simp [hy]))]
theorem P162 : ∀ (l cur b : List UInt8), (∀ x ∈ l, x ≠ 10) → rjF cur (l ++ 10 :: b) = if (rdv (cur ++ l)).2.2 = true then (rdc (cur ++ l) :: (rjF [] b).1, (cur ++ l).length + 1 + (rjF [] b).2) else ([], 0)
 | [], cur, b, _ => by simp [rjF]
 | x :: r, cur, b, h => by
  simp only [List.cons_append, rjF]
  rw [if_neg (h x (by simp)), P162 r (cur ++ [x]) b (fun y hy => h y (by simp [hy]))]
  simp
theorem P86 : ∀ (l cur : List UInt8), (rjF cur l).1.length ≤ l.length ∧ (rjF cur l).2 ≤ cur.length + l.length
 | [], cur => by simp [rjF]
 | x :: r, cur => by
  simp only [rjF]
  split
  ·split
   ·have := P86 r []
    simp at this ⊢; omega
   ·simp
  ·have := P86 r (cur ++ [x])
   simp at this ⊢; omega
theorem P163 : ∀ (l : List S38), (∀ c ∈ l, P2 c.f0 c.f1.data.toList ≠ []) → ∃ x, P7 l = some x
 | [], _ => ⟨[], rfl⟩
 | c :: r, h => by
  obtain ⟨x, hx⟩ := P163 r (fun c hc => h c (by simp [hc]))
  simp only [P7]
  rw [if_neg (h c (by simp)), hx]
  exact ⟨_, rfl⟩
theorem P164 : ∀ (l : List S38) (x : List UInt8), P7 l = some x → x.length ≤ szd l + 7 * l.length
 | [], x, h => by
  simp only [P7, Option.some.injEq] at h
  subst h; simp
 | c :: r, x, h => by
  simp only [P7] at h
  by_cases hc : P2 c.f0 c.f1.data.toList = []
  ·rw [if_pos hc] at h; cases h
  ·rw [if_neg hc] at h
   cases hr : P7 r with
   | none => rw [hr] at h; cases h
   | some y =>
    rw [hr] at h
    simp only [Option.map_some, Option.some.injEq] at h
    subst h
    have h1 := P164 r y hr
    have h2 := P96 c.f0 c.f1.data.toList
    have h3 : c.f1.data.toList.length = c.f1.size := rfl
    have e : szd (c :: r) = c.f1.size + szd r := by simp [szd]
    simp; omega
def P32 (l : List S31) : Prop := ∀ x ∈ l, P0 x.f0 x.f1
instance (l : List S31) : Decidable (P32 l) := by unfold P32; infer_instance
theorem P87 (x : S31) (l : List S31) : P32 (x :: l) ↔ P0 x.f0 x.f1 ∧ P32 l := by unfold P32; simp
def P13 (a b : Int) (l : List S31) : Prop := P0 a b ∧ l.length ≤ 8 ∧ P32 l
instance (a b : Int) (l : List S31) : Decidable (P13 a b l) := by unfold P13; infer_instance
theorem P116 (l : List S31) (i : Nat) (h : i < l.length) : l.drop i = rd_T31 l (i : Int) :: l.drop (i + 1) := by
 rw [List.drop_eq_getElem_cons h]
 unfold rd_T31
 simp [h]
def P43 (a b : Int) : Int × Int := if b < 0 ∨ (b = 0 ∧ a < 0) then (Int.tdiv a (-(Int.gcd a b : Int)), Int.tdiv b (-(Int.gcd a b : Int))) else (Int.tdiv a (Int.gcd a b : Int), Int.tdiv b (Int.gcd a b : Int))
theorem P88 {a b : Int} (h : ¬ (a = 0 ∧ b = 0)) : Int.gcd a b ≠ 0 := by
 intro x; rw [Int.gcd_eq_zero_iff] at x; exact h x
theorem P26 {a g : Int} (h : a.natAbs ≤ 9223372036854775807) : wrap64 (Int.tdiv a g) = Int.tdiv a g := by
 have := Nat.div_le_self a.natAbs g.natAbs
 have e : (Int.tdiv a g).natAbs = a.natAbs / g.natAbs := Int.natAbs_tdiv a g
 rw [← e] at this
 exact P1 (by omega) (by omega)
theorem P165 {a b : Int} (h : ¬ (a = 0 ∧ b = 0)) : (Int.gcd a b) ≤ a.natAbs + b.natAbs := by
 by_cases ha : a = 0
 ·subst ha; rw [Int.gcd_zero_left]; omega
 ·have := Int.gcd_le_natAbs_left (b := b) ha; omega
def P89 (a b : Int) : Prop := (-1000000 ≤ a ∧ a ≤ 1000000) ∧ (-1000000 ≤ b ∧ b ≤ 1000000) ∧ ¬ (a = 0 ∧ b = 0)
instance (a b : Int) : Decidable (P89 a b) := by unfold P89; infer_instance
def P48 (a b : Int) : Int × Int × Bool := if P89 a b then ((P43 a b).1, (P43 a b).2, true) else (0, 0, false)
theorem P166 (a b : Int) : Int.gcd (-a) b = Int.gcd a b := by simp
theorem P167 {a b : Int} (h : Int.gcd a b = 1) : P43 a b = if b < 0 ∨ (b = 0 ∧ a < 0) then (-a, -b) else (a, b) := by
 unfold P43; rw [h]; split <;> simp
def P36 (a b : Int) : Int × Int := if b > 0 then (-a, b) else (a, b)
theorem P233 {a b : Int} (h : P0 a b) : P0 (P36 a b).1 (P36 a b).2 := by
 unfold P36; split
 ·refine ⟨by have := h.1; simp; omega, h.2.1, by simpa using h.2.2.1, fun x => by omega⟩
 ·exact h
theorem P234 {a b : Int} (h : P0 a b) : P48 (-a) b = ((P36 a b).1, (P36 a b).2, true) := by
 have h1 := h.1
 have h2 := h.2.1
 have hg := h.2.2.1
 have hz := h.2.2.2
 unfold P48
 rw [if_pos ⟨by omega, by omega, by omega⟩, P167 (by rw [P166]; exact hg)]
 unfold P36
 by_cases hb : b > 0
 ·rw [if_neg (by omega), if_pos hb]
 ·have : b = 0 := by omega
  have := hz this
  rw [if_pos (by omega), if_neg hb]
  subst this; subst b; rfl
def P29 (a b : Int) : Int × Int := if a ≤ 0 then (b, -a) else (-b, a)
theorem P168 {b : Int} (h : P0 0 b) : b = 1 := by
 have h2 := h.2.1
 have h3 := h.2.2.1
 rw [Int.gcd_zero_left] at h3
 omega
theorem P117 {a b : Int} (h : P0 a b) : P0 (P29 a b).1 (P29 a b).2 := by
 have h1 := h.1
 have h2 := h.2.1
 have h3 := h.2.2.1
 have h4 := h.2.2.2
 unfold P29
 split
 ·refine ⟨by simp only; omega, by simp only; omega, by simp only; rw [Int.gcd_comm]; simpa using h3, ?_⟩
  simp only
  intro x
  obtain rfl : a = 0 := by omega
  exact P168 h
 ·refine ⟨by simp only; omega, by simp only; omega, by simp only; rw [Int.gcd_comm]; simpa using h3, ?_⟩
  simp only
  intro x
  omega
theorem P90 {a b : Int} (h : P0 a b) : P43 (-b) a = P29 a b := by
 have h2 := h.2.1
 have h3 := h.2.2.1
 have h4 := h.2.2.2
 rw [P167 (by rw [P166, Int.gcd_comm]; exact h3)]
 unfold P29
 by_cases h0 : a = 0
 ·subst h0
  have := P168 h
  subst this
  decide
 ·by_cases hn : a ≤ 0
  ·rw [if_pos (by omega), if_pos hn]; simp
  ·rw [if_neg (by omega), if_neg hn]
theorem P235 {a b : Int} (h : P0 a b) : P48 (-b) a = ((P29 a b).1, (P29 a b).2, true) := by
 have h1 := h.1
 have h2 := h.2.1
 have h4 := h.2.2.2
 unfold P48
 rw [if_pos ⟨by omega, by omega, by omega⟩, P90 h]
def P37 (a b n : Int) : Int × Int × Bool := if P0 (a + n * b) b then (a + n * b, b, true) else (0, 0, false)
theorem P169 {a b n : Int} (h : P0 a b) (hn : -1000000 ≤ n ∧ n ≤ 1000000) : wrap64 (a + wrap64 (n * b)) = a + n * b := by
 have h1 := P109 (a := n) (b := b) (m := 1000000) (n := 1000000) (by omega) (by have := h.2.1; omega)
 have h2 := h.1
 rw [P1 (n := n * b) (by omega) (by omega), P1 (by omega) (by omega)]
def unt : Nat → List UInt8 → Int → Int → Option (List UInt8)
 | 0, _, _, _ => none
 | n + 1, t, a, b => if a = 0 then some t else if a < 0 then unt n (t ++ [84]) (a + b) b else unt n (t ++ [82]) (P29 a b).1 (P29 a b).2
def P27 (a b : Int) : Prop := P0 a b ∧ (-12 ≤ a ∧ a ≤ 12) ∧ b ≤ 12
instance (a b : Int) : Decidable (P27 a b) := by unfold P27; infer_instance
theorem P170 {a b : Int} (h : P27 a b) : P27 (P29 a b).1 (P29 a b).2 := by
 have h1 := h.1
 have h2 := h.2
 have h3 := h1.2.1
 refine ⟨P117 h1, ?_⟩
 unfold P29
 split <;> (simp only; omega)
theorem P171 {a b : Int} (h : P27 a b) (ha : a < 0) : P27 (a + b) b := by
 obtain ⟨h1, h2⟩ := h
 have h3 := h1.2.1
 have h4 := h1.2.2.2
 refine ⟨⟨by omega, by omega, ?_, ?_⟩, by omega, by omega⟩
 ·have := h1.2.2.1
  rw [Int.gcd_comm] at this ⊢
  rw [Int.add_comm, show b + a = b * 1 + a by omega, Int.gcd_mul_left_add_right]; exact this
 ·intro hb; have := h4 hb; omega
theorem P118 : ∀ (n : Nat) (t : List UInt8) (a b : Int) (r : List UInt8), unt n t a b = some r → r.length ≤ t.length + n
 | 0, _, _, _, _, h => by simp [unt] at h
 | n + 1, t, a, b, r, h => by
  simp only [unt] at h
  split at h
  ·cases h; omega
  ·split at h
   ·have := P118 n _ _ _ _ h; simp at this; omega
   ·have := P118 n _ _ _ _ h; simp at this; omega
theorem P236 : (List.range 25).all (fun i => (List.range 13).all fun j => !decide (P0 ((i : Int) - 12) (j : Int)) || (unt 100 [] ((i : Int) - 12) (j : Int)).isSome) = true := by decide +kernel
theorem P119 {a b : Int} (h : P27 a b) : ∃ r, unt 100 [] a b = some r := by
 have h1 := h.2
 have h2 := h.1.2.1
 have z := List.all_eq_true.1 (List.all_eq_true.1 P236 (a + 12).toNat (List.mem_range.2 (by omega))) b.toNat (List.mem_range.2 (by omega))
 rw [show (((a + 12).toNat : Nat) : Int) - 12 = a by omega, show ((b.toNat : Nat) : Int) = b by omega, decide_eq_true h.1] at z
 exact Option.isSome_iff_exists.1 (by simpa using z)
def P23 (a b : Int) : List UInt8 × Bool := if P27 a b then ((unt 100 [] a b).getD [], true) else ([], false)
def P49 (f : Int × Int) (m : UInt8) : Option (Int × Int) :=
 if m = 84 then (if P0 (f.1 + f.2) f.2 then some (f.1 + f.2, f.2) else none) else if m = 116 then (if P0 (f.1 - f.2) f.2 then some (f.1 - f.2, f.2) else none) else some (P29 f.1 f.2)
def P38 : List UInt8 → Int × Int → Option (Int × Int)
 | [], f => some f
 | m :: l, f => (P49 f m).bind (P38 l)
theorem P172 {f g : Int × Int} {m : UInt8} (hf : P0 f.1 f.2) (h : P49 f m = some g) : P0 g.1 g.2 := by
 unfold P49 at h
 split at h
 ·split at h
  ·next hh => cases h; exact hh
  ·cases h
 ·split at h
  ·split at h
   ·next hh => cases h; exact hh
   ·cases h
  ·cases h; exact P117 hf
theorem P173 : ∀ {l : List UInt8} {f g : Int × Int}, P0 f.1 f.2 → P38 l f = some g → P0 g.1 g.2
 | [], f, g, hf, h => by cases h; exact hf
 | m :: l, f, g, hf, h => by
  simp only [P38] at h
  cases hm : P49 f m with
  | none => rw [hm] at h; cases h
  | some x => rw [hm] at h; exact P173 (P172 hf hm) h
def P33 : Option (Int × Int) → Int × Int × Bool
 | some g => (g.1, g.2, true)
 | none => (0, 0, false)
def P66 (a b : Int) (l : List UInt8) : Int × Int × Bool := if P41 l ∧ P0 a b then P33 (P38 l (a, b)) else (0, 0, false)
theorem P237 {a b : Int} {l : List UInt8} {x y : Int} (h : P66 a b l = (x, y, true)) : P0 x y := by
 unfold P66 at h
 split at h
 ·next hc =>
  cases hd : P38 l (a, b) with
  | none => rw [hd] at h; simp [P33] at h
  | some g =>
   rw [hd] at h
   simp only [P33, Prod.mk.injEq, and_true] at h
   rw [← h.1, ← h.2]
   exact P173 hc.2 hd
 ·simp at h
def P19 (a b kind : Int) (t : List UInt8) : Int × Int × Bool :=
 if kind = 0 then P66 a b t else if kind = 1 then P22 t else if kind = 2 ∧ t = [] then ((P36 a b).1, (P36 a b).2, true) else if kind = 3 ∧ t = [] then (0, 1, (P23 a b).2) else (a, b, false)
theorem P238 {a b kind : Int} {t : List UInt8} {x y : Int} (hf : P0 a b) (h : P19 a b kind t = (x, y, true)) : P0 x y := by
 unfold P19 at h
 split at h
 ·exact P237 h
 ·split at h
  ·rcases P110 t with ⟨p, q, h1, h2, h3⟩ | ⟨_, h3⟩
   ·rw [h3] at h
    simp only [Prod.mk.injEq, and_true] at h
    rw [← h.1, ← h.2]; exact h1
   ·rw [h3] at h; simp at h
  ·split at h
   ·simp only [Prod.mk.injEq, and_true] at h
    rw [← h.1, ← h.2]; exact P233 hf
   ·split at h
    ·simp only [Prod.mk.injEq] at h
     rw [← h.1, ← h.2.1]; decide
    ·simp at h
def P50 (l : List S31) (a b : Int) : List S31 := if l.length + 1 > 8 then (l ++ [(⟨a, b⟩ : S31)]).drop 1 else l ++ [(⟨a, b⟩ : S31)]
def dov (a b : Int) (l : List S31) (kind : Int) (t : List UInt8) : Int × Int × List S31 × Bool :=
 if kind = 4 ∧ t = [] ∧ l ≠ [] then ((rd_T31 l ((l.length - 1 : Nat) : Int)).f0, (rd_T31 l ((l.length - 1 : Nat) : Int)).f1, l.take (l.length - 1), true)
 else if (P19 a b kind t).2.2 = true ∧ ¬ ((P19 a b kind t).1 = a ∧ (P19 a b kind t).2.1 = b) then ((P19 a b kind t).1, (P19 a b kind t).2.1, P50 l a b, true)
 else (a, b, l, false)
def P67 (a b : Int) (l : List S31) (kind : Int) (t : List UInt8) : Int × Int × List S31 × Bool := if P13 a b l then dov a b l kind t else (0, 0, [], false)
theorem P239 {l : List S31} (h : P32 l) {i : Nat} (hi : i < l.length) : P0 (rd_T31 l (i : Int)).f0 (rd_T31 l (i : Int)).f1 := by
 have := P116 l i hi
 exact h _ (List.mem_of_mem_drop (i := i) (by rw [this]; simp))
theorem P174 {l : List S31} {a b : Int} (h : P13 a b l) : (P50 l a b).length ≤ 8 ∧ P32 (P50 l a b) := by
 have h2 := h.2.1
 have h3 : P32 (l ++ [(⟨a, b⟩ : S31)]) := by
  intro x hx
  rcases List.mem_append.1 hx with h1 | h1
  ·exact h.2.2 x h1
  ·simp only [List.mem_singleton] at h1; subst h1; exact h.1
 unfold P50
 split
 ·exact ⟨by simp; omega, fun x hx => h3 x (List.mem_of_mem_drop hx)⟩
 ·exact ⟨by simp; omega, h3⟩
theorem P100 {a b : Int} {l : List S31} {kind : Int} {t : List UInt8} (h : P13 a b l) : P13 (dov a b l kind t).1 (dov a b l kind t).2.1 (dov a b l kind t).2.2.1 := by
 have h2 := h.2.1
 unfold dov
 split
 ·next hc =>
  have hl : 0 < l.length := List.length_pos_iff.2 hc.2.2
  exact ⟨P239 h.2.2 (by omega), by simp; omega, fun x hx => h.2.2 x (List.mem_of_mem_take hx)⟩
 ·split
  ·next hc =>
   refine ⟨P238 (x := (P19 a b kind t).1) (y := (P19 a b kind t).2.1) (kind := kind) (t := t) h.1 ?_, (P174 h).1, (P174 h).2⟩
   rw [← hc.1]
  ·exact h
def P34 : List S38 → Int → Int → List S31 → Int → Int × Int × List S31 × Int
 | [], a, b, l, n => (a, b, l, n)
 | c :: r, a, b, l, n => if (dov a b l c.f0 c.f1.data.toList).2.2.2 = true then P34 r (dov a b l c.f0 c.f1.data.toList).1 (dov a b l c.f0 c.f1.data.toList).2.1 (dov a b l c.f0 c.f1.data.toList).2.2.1 (n + 1) else P34 r a b l n
def P101 (a b : Int) (l : List S31) (C : List S38) : Int × Int × List S31 × Int := if P13 a b l ∧ C.length ≤ 40 then P34 C a b l 0 else (0, 0, [], 0)
theorem P240 (l : List S38) (i : Nat) (h : i < l.length) : l.drop i = rd_T38 l (i : Int) :: l.drop (i + 1) := by
 rw [List.drop_eq_getElem_cons h]
 unfold rd_T38
 simp [h]
theorem P120 : ∀ (l cur : List UInt8) (k : Nat), ∃ m, (rjF cur (l.take k)).1 = (rjF cur l).1.take m
 | [], cur, k => ⟨0, by simp [rjF]⟩
 | x :: r, cur, 0 => ⟨0, by simp [rjF]⟩
 | x :: r, cur, k + 1 => by
  simp only [List.take_succ_cons, rjF]
  split
  ·split
   ·obtain ⟨m, h⟩ := P120 r [] k
    exact ⟨m + 1, by simp [h]⟩
   ·exact ⟨0, rfl⟩
  ·exact P120 r _ k
theorem P175 {cur : List UInt8} (h : (rdv cur).2.2 = true) : P2 (rdc cur).f0 (rdc cur).f1.data.toList = cur ∧ cur ≠ [] := by
 rcases P113 cur with ⟨k, t, h1, h2, h3⟩ | ⟨_, h3⟩
 ·unfold rdc
  rw [h3]
  exact ⟨h2, h1⟩
 ·rw [h3] at h; cases h
theorem P121 : ∀ (l cur : List UInt8), P7 (rjF cur l).1 = some ((cur ++ l).take (rjF cur l).2)
 | [], cur => by simp [rjF, P7]
 | x :: r, cur => by
  simp only [rjF]
  by_cases hx : x = 10
  ·subst hx
   rw [if_pos rfl]
   by_cases hr : (rdv cur).2.2 = true
   ·rw [if_pos hr]
    obtain ⟨h1, h2⟩ := P175 hr
    simp only [P7]
    rw [h1, if_neg h2, P121 r [], List.nil_append]
    simp only [Option.map_some]
    have e : cur ++ 10 :: r = (cur ++ [10]) ++ r := by simp
    have e2 : cur.length + 1 + (rjF [] r).2 = (cur ++ [10]).length + (rjF [] r).2 := by simp
    rw [e, e2, List.take_length_add_append]
    simp
   ·rw [if_neg hr]; simp [P7]
  ·rw [if_neg hx]
   have := P121 r (cur ++ [x])
   rw [List.append_assoc] at this
   exact this
theorem P241 (l : List UInt8) : (rdv l).2.1.length ≤ l.length := by
 unfold rdv
 repeat' split
 all_goals simp
theorem P122 : ∀ (l cur : List UInt8), (∀ c ∈ (rjF cur l).1, P2 c.f0 c.f1.data.toList ≠ [] ∧ c.f1.size ≤ cur.length + l.length) ∧ szd (rjF cur l).1 ≤ cur.length + l.length
 | [], cur => by simp [rjF, szd]
 | x :: r, cur => by
  simp only [rjF]
  split
  ·split
   ·next hr =>
    obtain ⟨h1, h2⟩ := P175 hr
    obtain ⟨i1, i2⟩ := P122 r []
    have hs : (rdc cur).f1.size ≤ cur.length := by
     unfold rdc; rw [P5]; exact P241 cur
    refine ⟨fun c hc => ?_, ?_⟩
    ·rcases List.mem_cons.1 hc with rfl | hc
     ·exact ⟨by rw [h1]; exact h2, by simp; omega⟩
     ·have := i1 c hc
      exact ⟨this.1, by have := this.2; simp at this ⊢; omega⟩
    ·have e : szd (rdc cur :: (rjF [] r).1) = (rdc cur).f1.size + szd (rjF [] r).1 := by simp [szd]
     rw [e]
     simp at i2 ⊢; omega
   ·simp [szd]
  ·obtain ⟨i1, i2⟩ := P122 r (cur ++ [x])
   refine ⟨fun c hc => ?_, ?_⟩
   ·have := i1 c hc
    exact ⟨this.1, by have := this.2; simp at this ⊢; omega⟩
   ·simp at i2 ⊢; omega
def P16 : List S38 → Int → Int → List S31 → Int × Int × List S31
 | [], a, b, l => (a, b, l)
 | c :: r, a, b, l => P16 r (dov a b l c.f0 c.f1.data.toList).1 (dov a b l c.f0 c.f1.data.toList).2.1 (dov a b l c.f0 c.f1.data.toList).2.2.1
theorem P242 {a b : Int} {l : List S31} {kind : Int} {t : List UInt8} (hd : ¬ (dov a b l kind t).2.2.2 = true) : dov a b l kind t = (a, b, l, false) := by
 unfold dov at hd ⊢
 split at hd
 ·simp at hd
 ·next hh =>
  rw [if_neg hh]
  split at hd
  ·simp at hd
  ·next h2 => rw [if_neg h2]
theorem P123 : ∀ (C : List S38) (a b : Int) (l : List S31) (n : Int), (P34 C a b l n).1 = (P16 C a b l).1 ∧ (P34 C a b l n).2.1 = (P16 C a b l).2.1 ∧ (P34 C a b l n).2.2.1 = (P16 C a b l).2.2
 | [], a, b, l, n => ⟨rfl, rfl, rfl⟩
 | c :: r, a, b, l, n => by
  simp only [P34, P16]
  by_cases hd : (dov a b l c.f0 c.f1.data.toList).2.2.2 = true
  ·rw [if_pos hd]; exact P123 r _ _ _ _
  ·rw [if_neg hd, P242 hd]; exact P123 r _ _ _ _
theorem P176 : ∀ (C : List S38) {a b : Int} {l : List S31}, P13 a b l → P13 (P16 C a b l).1 (P16 C a b l).2.1 (P16 C a b l).2.2
 | [], _, _, _, h => h
 | c :: r, a, b, l, h => by
  simp only [P16]
  exact P176 r (P100 h)
theorem P79 {s : List Int} {p : Int} (n : Int) {k : Nat} (hs : P28 s) (hp : 0 ≤ p) (hp' : p ≤ 1000000) (hk : 1 ≤ k) :
  ∃ v q, F46.f k s p n = some (v, q) ∧ p ≤ q ∧ q ≤ p + 1 := by
 unfold F46.f
 by_cases h : n > 0
 ·rw [if_pos h]
  obtain ⟨v, hv, _⟩ := P17 n hs hp hp' hk
  rw [hv]; simp only [Option.bind_some]
  exact ⟨_, _, rfl, by omega, by omega⟩
 ·rw [if_neg h]; exact ⟨_, _, rfl, by omega, by omega⟩
theorem P124 {L : List ByteArray} {B : Nat} (h : ∀ b ∈ L, b.size ≤ B) (i : Int) : (rdOf ByteArray.empty L i).size ≤ B := by
 unfold rdOf
 by_cases hi : i.toNat < L.length
 ·have e : L.getD i.toNat ByteArray.empty = L[i.toNat] := by simp [hi]
  rw [e]; exact h _ (List.getElem_mem hi)
 ·have e : L.getD i.toNat ByteArray.empty = ByteArray.empty := by simp; rw [List.getElem?_eq_none (by omega)]; rfl
  rw [e]; exact Nat.zero_le _
theorem P243 {s : List Int} (hs : P28 s) (x2 : Int) (n : Nat) : ∀ (out : ByteArray) (p : Int) (k : Nat), 0 ≤ p → p + 3 * n ≤ 900000 → out.size + 3 * n ≤ 1000000 → n + 10 < k →
  ∃ d q, F40.l0 k x2 out (n : Int) s p = some (d, q) ∧ d.size ≤ out.size + n + 41 ∧ p ≤ q ∧ q ≤ p + n + 2 := by
 induction n with
 | zero =>
  intro out p k hp hp' ho hk
  obtain ⟨k, rfl⟩ : ∃ m, k = m + 1 := ⟨k - 1, by omega⟩
  simp only [F40.l0]
  rw [if_neg (by omega)]
  obtain ⟨o, q, h1, q0, q1⟩ := P79 (k := k) (p := p) x2 hs (by omega) (by omega) (by omega)
  rw [h1]; simp only [Option.bind_some]
  split
  ·obtain ⟨w, hw, w0, w1, _⟩ := P17 (k := k) (p := q) 3 hs (by omega) (by omega) (by omega)
   have w1 := w1 (by omega)
   rw [hw]; simp only [Option.bind_some]
   have key : ∀ L : List ByteArray, w < (L.length : Int) → (∀ b ∈ L, b.size ≤ 41) → ∃ d q', (if 0 ≤ w then (if w < (L.length : Int) then (if out.size + (rdOf ByteArray.empty L w).size ≤ 9223372036854775807 then (some (out ++ (rdOf ByteArray.empty L w), q + 1)) else (none)) else (none)) else (none)) = some (d, q') ∧ d.size ≤ out.size + 0 + 41 ∧ p ≤ q' ∧ q' ≤ p + (0 : Nat) + 2 := by
    intro L h1 h2
    have hm := P124 h2 w
    rw [if_pos w0, if_pos h1, if_pos (by omega)]
    exact ⟨_, _, rfl, by rw [ByteArray.size_append]; omega, by omega, by omega⟩
   exact key _ (by simpa using w1) (by decide)
  ·exact ⟨_, _, rfl, by omega, by omega, by omega⟩
 | succ n ih =>
  intro out p k hp hp' ho hk
  obtain ⟨k, rfl⟩ : ∃ m, k = m + 1 := ⟨k - 1, by omega⟩
  simp only [F40.l0, Option.bind_some]
  rw [if_pos (by omega)]
  obtain ⟨w, hw, w0, w1, _⟩ := P17 (k := k) (p := p) 6 hs (by omega) (by omega) (by omega)
  have w1 := w1 (by omega)
  rw [hw]; simp only [Option.bind_some]
  rw [if_pos w0, if_pos (by simpa using w1)]
  have hm := P124 (B := 1) (L := [(⟨#[84]⟩ : ByteArray), (⟨#[84]⟩ : ByteArray), (⟨#[82]⟩ : ByteArray), (⟨#[116]⟩ : ByteArray), (⟨#[82]⟩ : ByteArray), (⟨#[84]⟩ : ByteArray)]) (by decide) w
  rw [if_pos (by omega), P1 (by omega) (by omega), show ((n + 1 : Nat) : Int) - 1 = (n : Int) by omega]
  obtain ⟨d, q, e, d1, q0, q1⟩ := ih (out ++ rdOf ByteArray.empty [(⟨#[84]⟩ : ByteArray), (⟨#[84]⟩ : ByteArray), (⟨#[82]⟩ : ByteArray), (⟨#[116]⟩ : ByteArray), (⟨#[82]⟩ : ByteArray), (⟨#[84]⟩ : ByteArray)] w) (p + 1) k (by omega) (by omega) (by rw [ByteArray.size_append]; omega) (by omega)
  rw [ByteArray.size_append] at d1
  exact ⟨d, q, e, by omega, by omega, by omega⟩
theorem P244 {s : List Int} {p : Int} (most n : Int) {k : Nat} (hs : P28 s) (hp : 0 ≤ p) (hp' : p ≤ 800000) (hm : 0 ≤ most) (hm' : most ≤ 100) (hk : 1000 ≤ k) :
  ∃ d q, F40.f k s p most n = some (d, q) ∧ d.size ≤ 200 ∧ p ≤ q ∧ q ≤ p + 120 := by
 unfold F40.f
 rw [P1 (n := most + 1) (by omega) (by omega)]
 obtain ⟨w, hw, w0, w1, _⟩ := P17 (k := k) (p := p) (most + 1) hs (by omega) (by omega) (by omega)
 have w1 := w1 (by omega)
 rw [hw]; simp only [Option.bind_some]
 obtain ⟨w, rfl⟩ := Int.eq_ofNat_of_zero_le w0
 obtain ⟨d, q, e, d1, q0, q1⟩ := P243 hs n w (⟨#[]⟩ : ByteArray) (p + 1) k (by omega) (by omega) (by show 0 + 3 * w ≤ 1000000; omega) (by omega)
 have : (⟨#[]⟩ : ByteArray).size = 0 := rfl
 exact ⟨d, q, e, by omega, by omega, by omega⟩
theorem P245 {s : List Int} {p : Int} (t : ByteArray) {k : Nat} (hs : P28 s) (hp : 0 ≤ p) (hp' : p ≤ 800000) (ht : t.size ≤ 1000000) (hk : 1 ≤ k) :
  ∃ d q, F54.f k s p t = some (d, q) ∧ d.size ≤ t.size + 10 ∧ p ≤ q ∧ q ≤ p + 2 := by
 unfold F54.f
 by_cases h0 : (t.size : Int) = 0
 ·rw [if_pos h0]
  exact ⟨_, _, rfl, by show 1 ≤ t.size + 10; omega, by omega, by omega⟩
 ·rw [if_neg h0]
  obtain ⟨w, hw, w0, w1, _⟩ := P17 (k := k) (p := p) (t.size : Int) hs (by omega) (by omega) (by omega)
  have w1 := w1 (by omega)
  obtain ⟨v, hv, v0, v1, _⟩ := P17 (k := k) (p := p + 1) 6 hs (by omega) (by omega) (by omega)
  have v1 := v1 (by omega)
  rw [hw]; simp only [Option.bind_some]
  rw [if_pos w0, if_pos (by omega), hv]; simp only [Option.bind_some]
  have hm := P124 (B := 4) (L := [(⟨#[]⟩ : ByteArray), (⟨#[48]⟩ : ByteArray), (⟨#[32]⟩ : ByteArray), (⟨#[10]⟩ : ByteArray), (⟨#[45]⟩ : ByteArray), (⟨#[98, 97, 99, 107]⟩ : ByteArray)]) (by decide) v
  generalize hL : rdOf ByteArray.empty [(⟨#[]⟩ : ByteArray), (⟨#[48]⟩ : ByteArray), (⟨#[32]⟩ : ByteArray), (⟨#[10]⟩ : ByteArray), (⟨#[45]⟩ : ByteArray), (⟨#[98, 97, 99, 107]⟩ : ByteArray)] v = z at *
  have e1 : (t.extract 0 w.toNat).size ≤ t.size := by rw [ByteArray.size_extract]; omega
  have e2 : (t.extract (w + 1).toNat t.size).size ≤ t.size - (w + 1).toNat := by rw [ByteArray.size_extract]; omega
  have e3 : (t.extract 0 w.toNat).size ≤ w.toNat := by rw [ByteArray.size_extract]; omega
  rw [if_pos v0, if_pos (by simpa using v1), if_pos (by omega), P1 (by omega) (by omega), if_pos (by omega), if_pos (by omega), if_pos (by rw [ByteArray.size_append]; omega)]
  exact ⟨_, _, rfl, by rw [ByteArray.size_append, ByteArray.size_append]; omega, by omega, by omega⟩
theorem P246 (n : Nat) : ∀ (a b : Int), b.natAbs ≤ n → 0 ≤ a → 0 ≤ b → ∀ k, n < k → F15.l0 k a b = some (Int.gcd a b : Int) := by
 induction n with
 | zero =>
  intro a b hb ha _ k hk
  obtain ⟨k, rfl⟩ : ∃ m, k = m + 1 := ⟨k - 1, by omega⟩
  obtain rfl : b = 0 := by omega
  simp only [F15.l0]
  rw [if_neg (by omega), Int.gcd_zero_right]
  congr 1; omega
 | succ n ih =>
  intro a b hb ha hb' k hk
  obtain ⟨k, rfl⟩ : ∃ m, k = m + 1 := ⟨k - 1, by omega⟩
  simp only [F15.l0]
  by_cases h : b = 0
  ·subst h; rw [if_neg (by omega), Int.gcd_zero_right]; congr 1; omega
  ·have := P146 a h
   rw [if_pos (by omega), if_neg h, ih b (Int.tmod a b) (by omega) hb' (Int.tmod_nonneg _ ha) k (by omega), P147]
theorem P177 {a b : Int} {k : Nat} (ha : a.natAbs ≤ 9223372036854775807) (hb : b.natAbs ≤ 9223372036854775807) (hk : b.natAbs < k) : F15.f k a b = some (Int.gcd a b : Int) := by
 unfold F15.f
 rw [P74 (by omega) (by omega), P74 (by omega) (by omega), P246 b.natAbs _ _ (by omega) (by omega) (by omega) k hk]
 rfl
theorem P80 (a b c : Int) : F33.f a b c = some (decide (b ≤ a ∧ a ≤ c)) := by
 unfold F33.f
 by_cases h : b ≤ a
 ·rw [if_pos h]; exact P40 ⟨fun x => ⟨h, x⟩, fun x => x.2⟩
 ·rw [if_neg h]; exact (P24 (fun x => h x.1)).symm
theorem P102 (a b : Int) {k : Nat} (hk : 1000002 ≤ k) : F4.f k a b = some (P48 a b) := by
 obtain ⟨k, rfl⟩ : ∃ m, k = m + 1 := ⟨k - 1, by omega⟩
 unfold F4.f
 simp only [P80, Option.bind_some, decide_eq_true_eq]
 unfold P48
 by_cases h : P89 a b
 ·rw [if_pos h.1, if_pos h.2.1, if_pos h]
  have e : (if a = 0 then F4.j0 (k + 1) a b (b == 0) else F4.j0 (k + 1) a b false) = F4.j0 (k + 1) a b false := by
   by_cases h3 : a = 0
   ·rw [if_pos h3, show (b == 0) = false from by simp; exact fun x => h.2.2 ⟨h3, x⟩]
   ·rw [if_neg h3]
  rw [e]
  have h1 := h.1
  have h2 := h.2.1
  simp only [F4.j0]
  rw [if_neg (by decide), P177 (by omega) (by omega) (by omega)]; simp only [Option.bind_some]
  have hg := P88 h.2.2
  have hl := P165 h.2.2
  rw [P1 (n := -((Int.gcd a b : Nat) : Int)) (by omega) (by omega)]
  unfold P43
  by_cases h1 : b < 0
  ·rw [if_pos h1, if_neg (by omega), if_pos (.inl h1), P26 (by omega), P26 (by omega)]
  ·rw [if_neg h1]
   by_cases h2 : b = 0
   ·rw [if_pos h2]
    by_cases h3 : a < 0
    ·rw [if_pos h3, if_neg (by omega), if_pos (.inr ⟨h2, h3⟩), P26 (by omega), P26 (by omega)]
    ·rw [if_neg h3, if_neg (by omega), if_neg (by omega), P26 (by omega), P26 (by omega)]
   ·rw [if_neg h2, if_neg (by omega), if_neg (by omega), P26 (by omega), P26 (by omega)]
 ·rw [if_neg h]
  have e : F4.j0 (k + 1) a b true = some (0, 0, false) := by simp only [F4.j0]; rw [if_pos trivial]
  by_cases h1 : -1000000 ≤ a ∧ a ≤ 1000000
  ·rw [if_pos h1]
   by_cases h2 : -1000000 ≤ b ∧ b ≤ 1000000
   ·rw [if_pos h2]
    have h3 : a = 0 ∧ b = 0 := by
     by_cases x : a = 0 ∧ b = 0
     ·exact x
     ·exact absurd ⟨h1, h2, x⟩ h
    rw [if_pos h3.1, h3.2]
    rw [h3.2] at e
    exact e
   ·rw [if_neg h2, e]
  ·rw [if_neg h1, e]
theorem P247 (a b : Int) : (P48 a b).1.natAbs ≤ 1000000 ∧ (P48 a b).2.1.natAbs ≤ 1000000 := by
 unfold P48
 by_cases h : P89 a b
 ·rw [if_pos h]
  have h1 := h.1
  have h2 := h.2.1
  have key : ∀ (x g : Int), x.natAbs ≤ 1000000 → (Int.tdiv x g).natAbs ≤ 1000000 := by
   intro x g hx
   have := Nat.div_le_self x.natAbs g.natAbs
   have e : (Int.tdiv x g).natAbs = x.natAbs / g.natAbs := Int.natAbs_tdiv x g
   omega
  unfold P43
  split
  ·exact ⟨key _ _ (by omega), key _ _ (by omega)⟩
  ·exact ⟨key _ _ (by omega), key _ _ (by omega)⟩
 ·rw [if_neg h]; simp
def P103 (a b : Int) : Prop := a.natAbs ≤ 1000001 ∧ b.natAbs ≤ 1000001
theorem P178 {s : List Int} {p : Int} (n : Int) {k : Nat} (hs : P28 s) (hp : 0 ≤ p) (hp' : p ≤ 900000) (hk : 1000003 ≤ k) :
  ∃ a b q, F38.f k s p n = some (a, b, q) ∧ P103 a b ∧ p ≤ q ∧ q ≤ p + 6 := by
 obtain ⟨k, rfl⟩ : ∃ m, k = m + 1 := ⟨k - 1, by omega⟩
 unfold F38.f
 simp only [Option.bind_some]
 obtain ⟨v, hv, v0, v1, _⟩ := P17 (k := k + 1) 4 hs hp (by omega) (by omega)
 have v1 := v1 (by omega)
 rw [hv]; simp only [Option.bind_some]
 rw [if_pos v0, if_pos (by simpa using v1)]
 have hm : 4 ≤ rd ([4, 10, 50, 1000] : List Int) v ∧ rd ([4, 10, 50, 1000] : List Int) v ≤ 1000 := by
  obtain ⟨m, rfl⟩ := Int.eq_ofNat_of_zero_le v0
  have : m = 0 ∨ m = 1 ∨ m = 2 ∨ m = 3 := by omega
  rcases this with rfl | rfl | rfl | rfl <;> decide
 generalize rd ([4, 10, 50, 1000] : List Int) v = m at *
 obtain ⟨x, hx, x0, x1, _⟩ := P17 (k := k + 1) (p := p + 1) m hs (by omega) (by omega) (by omega)
 rw [hx]; simp only [Option.bind_some]
 obtain ⟨y, hy, y0, y1, _⟩ := P17 (k := k + 1) (p := p + 1 + 1) m hs (by omega) (by omega) (by omega)
 rw [hy]; simp only [Option.bind_some]
 obtain ⟨z, hz, z0, z1, _⟩ := P17 (k := k + 1) (p := p + 1 + 1 + 1) m hs (by omega) (by omega) (by omega)
 rw [hz]; simp only [Option.bind_some]
 rw [P102 _ _ (by omega)]; simp only [Option.bind_some]
 have hj : ∀ a b, P103 a b → ∃ a' b' q, F38.j0 (k + 1) n s (p + 1 + 1 + 1 + 1) a b = some (a', b', q) ∧ P103 a' b' ∧ p ≤ q ∧ q ≤ p + 6 := by
  intro a b hab
  simp only [F38.j0]
  obtain ⟨o, q, ho, q0, q1⟩ := P79 (k := k) (p := p + 1 + 1 + 1 + 1) n hs (by omega) (by omega) (by omega)
  rw [ho]; simp only [Option.bind_some]
  by_cases hc : o = true
  ·rw [if_pos hc]
   obtain ⟨w, hw, w0, w1, _⟩ := P17 (k := k) (p := q) 5 hs (by omega) (by omega) (by omega)
   have w1 := w1 (by omega)
   rw [hw]; simp only [Option.bind_some]
   rw [if_pos w0, if_pos (by simpa using w1)]
   refine ⟨_, _, _, rfl, ?_, by omega, by omega⟩
   obtain ⟨m, rfl⟩ := Int.eq_ofNat_of_zero_le w0
   have : m = 0 ∨ m = 1 ∨ m = 2 ∨ m = 3 ∨ m = 4 := by omega
   rcases this with rfl | rfl | rfl | rfl | rfl <;> (unfold P103; decide)
  ·rw [if_neg hc]; exact ⟨_, _, _, rfl, hab, by omega, by omega⟩
 have hb := P247 (wrap64 (x - y)) z
 split
 ·exact hj _ _ ⟨by omega, by omega⟩
 ·exact hj _ _ ⟨by omega, by omega⟩
theorem P248 {s : List Int} {p : Int} {k : Nat} (hs : P28 s) (hp : 0 ≤ p) (hp' : p ≤ 800000) (hk : 2000000 ≤ k) :
  ∃ a b q, F74.f k s p = some (a, b, q) ∧ p ≤ q ∧ q ≤ p + 100 := by
 unfold F74.f
 obtain ⟨o, q, ho, r0, r1⟩ := P79 (k := k) (p := p) 9 hs (by omega) (by omega) (by omega)
 rw [ho]; simp only [Option.bind_some]
 split
 ·obtain ⟨a, b, q', hf, hd, q0, q1⟩ := P178 (k := k) (p := q) 3 hs (by omega) (by omega) (by omega)
  rw [hf]; simp only [Option.bind_some]
  exact ⟨a, b, q', rfl, by omega, by omega⟩
 ·obtain ⟨w1, f1, _⟩ := P17 (k := k) (p := q) 13 hs (by omega) (by omega) (by omega)
  rw [f1]; simp only [Option.bind_some]
  obtain ⟨w2, f2, _⟩ := P17 (k := k) (p := q + 1) 13 hs (by omega) (by omega) (by omega)
  rw [f2]; simp only [Option.bind_some]
  obtain ⟨w3, f3, _⟩ := P17 (k := k) (p := q + 1 + 1) 13 hs (by omega) (by omega) (by omega)
  rw [f3]; simp only [Option.bind_some]
  rw [P102 _ _ (by omega)]; simp only [Option.bind_some]
  split
  ·exact ⟨_, _, _, rfl, by omega, by omega⟩
  ·exact ⟨_, _, _, rfl, by omega, by omega⟩
theorem P125 {n : Nat} (h : n < 10) : strOfNums [(48 + (n : Int)) % 256] = ba [UInt8.ofNat (48 + n)] := by
 have : n = 0 ∨ n = 1 ∨ n = 2 ∨ n = 3 ∨ n = 4 ∨ n = 5 ∨ n = 6 ∨ n = 7 ∨ n = 8 ∨ n = 9 := by omega
 rcases this with rfl | rfl | rfl | rfl | rfl | rfl | rfl | rfl | rfl | rfl <;> rfl
theorem P179 (n : Nat) : ∀ u k : Nat, u < 10 ^ (n + 1) → n ≤ 10 → 2 * n + 2 ≤ k → F10.f k (u : Int) = some (ba (Go.Lib.decDigits u)) := by
 induction n with
 | zero =>
  intro u k hu _ hk
  obtain ⟨k, rfl⟩ : ∃ q, k = q + 2 := ⟨k - 2, by omega⟩
  simp only [F10.f, F10.j0]
  rw [if_neg (by omega), if_neg (by decide), if_neg (by omega), if_pos (by omega), P1 (by omega) (by omega), P125 (by omega), P46 (by omega)]
 | succ n ih =>
  intro u k hu hn hk
  obtain ⟨k, rfl⟩ : ∃ q, k = q + 2 := ⟨k - 2, by omega⟩
  have hp : 10 ^ (n + 1 + 1) ≤ 10 ^ 11 := Nat.pow_le_pow_right (by omega) (by omega)
  simp only [F10.f, F10.j0]
  rw [if_neg (by omega), if_neg (by decide), if_neg (by omega)]
  by_cases h : u < 10
  ·rw [if_pos (by omega), P1 (by omega) (by omega), P125 h, P46 h]
  ·have e1 : Int.tdiv (u : Int) 10 = ((u / 10 : Nat) : Int) := rfl
   have e2 : Int.tmod (u : Int) 10 = ((u % 10 : Nat) : Int) := rfl
   have hm : u % 10 < 10 := Nat.mod_lt _ (by omega)
   rw [if_neg (by omega), e1, e2, P1 (n := ((u / 10 : Nat) : Int)) (by omega) (by omega), ih (u / 10) k (by rw [Nat.pow_succ] at hu; omega) (by omega) (by omega)]
   simp only [Option.bind_some]
   rw [P1 (by omega) (by omega), P125 hm]
   have hl := P93 n (u / 10) (by rw [Nat.pow_succ] at hu; omega)
   rw [P5, P5, if_pos (by simp; omega), P18, P62 h]
theorem P180 {n : Int} {k : Nat} (h : n.natAbs < 10000000000) (hk : 40 ≤ k) : F10.f k n = some (ba (Go.Lib.itoa n)) := by
 unfold Go.Lib.itoa
 by_cases hn : n < 0
 ·obtain ⟨k, rfl⟩ : ∃ q, k = q + 2 := ⟨k - 2, by omega⟩
  have hl := P93 9 n.natAbs (by omega)
  rw [if_pos hn]
  simp only [F10.f, F10.j0]
  rw [if_pos hn, P1 (n := -n) (by omega) (by omega)]
  have e : (n == -n) = false := by simpa using (show n ≠ -n by omega)
  rw [e, if_neg (by decide), if_pos hn]
  have := P179 9 n.natAbs k (by omega) (by omega) (by omega)
  rw [show ((n.natAbs : Nat) : Int) = -n by omega] at this
  rw [this]; simp only [Option.bind_some]
  rw [P5, if_pos (by omega)]
  exact congrArg some (P18 [45] _)
 ·rw [if_neg hn]
  have := P179 9 n.natAbs k (by omega) (by omega) (by omega)
  rw [show ((n.natAbs : Nat) : Int) = n by omega] at this
  rw [this, show n.toNat = n.natAbs by omega]
theorem P54 (a b : Int) {k : Nat} (hk : 1000001 ≤ k) : F7.f k a b = some (decide (P0 a b)) := by
 unfold F7.f
 rw [P80]; simp only [Option.bind_some, decide_eq_true_eq]
 by_cases h1 : -1000000 ≤ a ∧ a ≤ 1000000
 ·rw [if_pos h1, P80]; simp only [Option.bind_some, decide_eq_true_eq]
  by_cases h2 : 0 ≤ b ∧ b ≤ 1000000
  ·rw [if_pos h2, P177 (by omega) (by omega) (by omega)]; simp only [Option.bind_some]
   by_cases h3 : Int.gcd a b = 1
   ·rw [if_pos (by omega)]
    by_cases h4 : b > 0
    ·rw [if_pos h4]; exact (P145 ⟨h1, h2, h3, by omega⟩).symm
    ·rw [if_neg h4]
     by_cases h5 : a = 1
     ·rw [(P145 ⟨h1, h2, h3, fun _ => h5⟩ : some (decide (P0 a b)) = _)]; simp [h5]
     ·rw [(P24 (fun x => h5 (x.2.2.2 (by omega))) : some (decide (P0 a b)) = _)]; simp [h5]
   ·rw [if_neg (by omega)]; exact (P24 (fun x => h3 x.2.2.1)).symm
  ·rw [if_neg h2]; exact (P24 (fun x => h2 x.2.1)).symm
 ·rw [if_neg h1]; exact (P24 (fun x => h1 x.1)).symm
def P68 (a b : Int) : List UInt8 := if P0 a b then P9 a b else []
theorem P181 (a b : Int) {k : Nat} (hk : 1000001 ≤ k) : F48.f k a b = some (ba (P68 a b)) := by
 unfold F48.f P68
 rw [P54 _ _ hk]; simp only [Option.bind_some, decide_eq_true_eq]
 by_cases h : P0 a b
 ·have hb := P84 h
  have h1 := P53 hb.1
  have h2 := P53 hb.2
  rw [if_pos h, if_pos h, P180 (by omega) (by omega)]
  unfold P9
  by_cases h3 : b = 1
  ·rw [if_pos h3, if_pos h3]; rfl
  ·rw [if_neg h3, if_neg h3]; simp only [Option.bind_some]
   rw [P5, if_pos (by omega), P180 (by omega) (by omega)]; simp only [Option.bind_some]
   have e : ba (Go.Lib.itoa a) ++ (⟨#[47]⟩ : ByteArray) = ba (Go.Lib.itoa a ++ [47]) := P18 _ [47]
   rw [e, P5, P5, if_pos (by simp; omega), P18]
   simp
 ·rw [if_neg h, if_neg h]; rfl
theorem P249 (a b : Int) : (P68 a b).length ≤ 17 := by
 unfold P68
 split
 ·next h => exact P228 h
 ·simp
theorem P182 {s : List Int} {p : Int} {k : Nat} (hs : P28 s) (hp : 0 ≤ p) (hp' : p ≤ 700000) (hk : 2000003 ≤ k) :
  ∃ d t q, F1.f k s p = some (d, t, q) ∧ t.size ≤ 300 ∧ p ≤ q ∧ q ≤ p + 300 := by
 unfold F1.f
 simp only [Option.bind_some]
 obtain ⟨w1, f1, w0, w2, _⟩ := P17 (k := k) (p := p) 8 hs (by omega) (by omega) (by omega)
 have w2 := w2 (by omega)
 rw [f1]; simp only [Option.bind_some]
 rw [if_pos w0, if_pos (by simpa using w2)]
 obtain ⟨w3, f3, _⟩ := P17 (k := k) (p := p + 1) 60 hs (by omega) (by omega) (by omega)
 rw [f3]; simp only [Option.bind_some]
 have fin : ∀ (q : Int) (d : Int) (t : ByteArray), p ≤ q → q ≤ p + 250 → t.size ≤ 200 → ∃ d' t' q', F1.j0 k s q d t = some (d', t', q') ∧ t'.size ≤ 300 ∧ p ≤ q' ∧ q' ≤ p + 300 := by
  intro q d t h1 h2 h3
  obtain ⟨k, rfl⟩ : ∃ m, k = m + 1 := ⟨k - 1, by omega⟩
  simp only [F1.j0]
  obtain ⟨o, q', ho, r0, r1⟩ := P79 (k := k) (p := q) 40 hs (by omega) (by omega) (by omega)
  rw [ho]; simp only [Option.bind_some]
  split
  ·rw [if_pos (by omega)]
   exact ⟨_, _, _, rfl, by rw [ByteArray.size_append]; show t.size + 1 ≤ 300; omega, by omega, by omega⟩
  ·exact ⟨_, _, _, rfl, by omega, by omega, by omega⟩
 split
 ·obtain ⟨d, q, hf, hd, q0, q1⟩ := P244 (k := k) (p := p + 1 + 1) 6 20 hs (by omega) (by omega) (by omega) (by omega) (by omega)
  rw [hf]; simp only [Option.bind_some]
  exact fin _ _ _ (by omega) (by omega) (by omega)
 ·split
  ·obtain ⟨a, b, q, hf, q0, q1⟩ := P248 (k := k) (p := p + 1 + 1) hs (by omega) (by omega) (by omega)
   rw [hf]; simp only [Option.bind_some]
   rw [P181 _ _ (by omega)]; simp only [Option.bind_some]
   have := P249 a b
   exact fin _ _ _ (by omega) (by omega) (by rw [P5]; omega)
  ·exact fin _ _ _ (by omega) (by omega) (by decide)
theorem P183 {s : List Int} (hs : P28 s) (n : Nat) : ∀ (out : List S38) (p : Int) (k : Nat), 0 ≤ p → p + 300 * n ≤ 600000 → out.length + n ≤ 100 → (∀ c ∈ out, c.f1.size ≤ 300) → n + 2000010 ≤ k →
  ∃ l q, F29.l0 k out (n : Int) s p = some (l, q) ∧ l.length ≤ out.length + n ∧ (∀ c ∈ l, c.f1.size ≤ 300) ∧ p ≤ q ∧ q ≤ p + 300 * n := by
 induction n with
 | zero =>
  intro out p k hp hp' ho hc hk
  obtain ⟨k, rfl⟩ : ∃ m, k = m + 1 := ⟨k - 1, by omega⟩
  simp only [F29.l0]
  rw [if_neg (by omega)]
  exact ⟨_, _, rfl, by omega, hc, by omega, by omega⟩
 | succ n ih =>
  intro out p k hp hp' ho hc hk
  obtain ⟨k, rfl⟩ : ∃ m, k = m + 1 := ⟨k - 1, by omega⟩
  simp only [F29.l0]
  rw [if_pos (by omega)]
  obtain ⟨d, t, q, hd, ht, q0, q1⟩ := P182 (k := k) (p := p) hs (by omega) (by omega) (by omega)
  rw [hd]; simp only [Option.bind_some]
  rw [if_pos (by omega), P1 (by omega) (by omega), show ((n + 1 : Nat) : Int) - 1 = (n : Int) by omega]
  obtain ⟨l, q', e, e1, e2, e3, e4⟩ := ih (out ++ [⟨d, t⟩]) q k (by omega) (by omega) (by simp; omega) (by
   intro c hc'
   rcases List.mem_append.1 hc' with h | h
   ·exact hc c h
   ·simp at h; subst h; exact ht) (by omega)
  exact ⟨l, q', e, by simp at e1; omega, e2, by omega, by omega⟩
theorem P250 {s : List Int} (hs : P28 s) {p : Int} {k : Nat} (hp : 0 ≤ p) (hp' : p ≤ 500000) (hk : 3000000 ≤ k) :
  ∃ l q, F29.f k s p = some (l, q) ∧ l.length ≤ 10 ∧ (∀ c ∈ l, c.f1.size ≤ 300) ∧ p ≤ q ∧ q ≤ p + 3000 := by
 unfold F29.f
 obtain ⟨w, hw, w0, w1, _⟩ := P17 (k := k) (p := p) 6 hs (by omega) (by omega) (by omega)
 have w1 := w1 (by omega)
 obtain ⟨m, rfl⟩ := Int.eq_ofNat_of_zero_le w0
 rw [hw]; simp only [Option.bind_some]
 obtain ⟨C, q, e, e1, e2, e3, e4⟩ := P183 hs m [] (p + 1) k (by omega) (by omega) (by simp; omega) (by simp) (by omega)
 simp at e1
 exact ⟨C, q, e, by omega, e2, by omega, by omega⟩
theorem P251 (s : ByteArray) (hs : s.size ≤ 100000000) (c : UInt8) (n : Nat) : ∀ (i f : Nat) (out : List ByteArray), i + n = s.size → f ≤ i → out.length ≤ i → ∀ k, n < k →
  F22.l0 k s ((c.toNat : Nat) : Int) out (f : Int) (i : Int) = some (out ++ (P3 c ((s.data.toList.drop f).take (i - f)) (s.data.toList.drop i)).map ba) := by
 have hl : s.data.toList.length = s.size := rfl
 induction n with
 | zero =>
  intro i f out hi hf ho k hk
  obtain ⟨k, rfl⟩ : ∃ m, k = m + 1 := ⟨k - 1, by omega⟩
  simp only [F22.l0]
  rw [if_neg (by omega), if_pos (by omega), if_pos (by omega), if_pos (by omega), P75 (i := i) (by omega), P64]
  simp only [P3, List.map_cons, List.map_nil, Int.toNat_natCast]
  rw [show i = s.size by omega]
 | succ n ih =>
  intro i f out hi hf ho k hk
  obtain ⟨k, rfl⟩ : ∃ m, k = m + 1 := ⟨k - 1, by omega⟩
  obtain ⟨x, hd, hb⟩ := P60 (s := s) (i := i) (by omega)
  simp only [F22.l0]
  rw [if_pos (by omega), if_pos (by omega), hb, hd, P1 (n := (i : Int) + 1) (by omega) (by omega), show ((i : Int) + 1) = ((i + 1 : Nat) : Int) by omega]
  have e : (((x.toNat : Nat) : Int) = ((c.toNat : Nat) : Int)) ↔ x = c := ⟨fun h => UInt8.toNat_inj.1 (by omega), fun h => by rw [h]⟩
  simp only [P3]
  by_cases h : x = c
  ·rw [if_pos (e.2 h), if_pos (by omega), if_pos (by omega), if_pos (by omega), if_pos (by omega), if_pos h]
   rw [ih (i + 1) (i + 1) _ (by omega) (by omega) (by simp; omega) k (by omega), P64]
   simp
  ·rw [if_neg (fun y => h (e.1 y)), if_neg h, ih (i + 1) f out (by omega) (by omega) (by omega) k (by omega)]
   have e2 : (s.data.toList.drop f).take (i + 1 - f) = (s.data.toList.drop f).take (i - f) ++ [x] := by
    rw [show i + 1 - f = (i - f) + 1 by omega, List.take_add_one, List.getElem?_drop, show f + (i - f) = i by omega]
    have : s.data.toList[i]? = some x := by
     have := congrArg List.head? hd
     rw [List.head?_drop] at this
     simpa using this
    rw [this]; rfl
   rw [e2]
theorem P184 (s : ByteArray) (c : UInt8) {k : Nat} (hs : s.size ≤ 100000000) (hk : s.size < k) : F22.f k s ((c.toNat : Nat) : Int) = some ((P3 c [] s.data.toList).map ba) := by
 unfold F22.f
 have := P251 s hs c s.size 0 0 [] (by omega) (by omega) (by simp) k (by omega)
 simpa using this
theorem P185 {a b : Nat} (h : a ≤ b) : (10 : Int) ^ a ≤ 10 ^ b := by
 have := Nat.pow_le_pow_right (show 0 < 10 by omega) h
 have e : ∀ n : Nat, (10 : Int) ^ n = ((10 ^ n : Nat) : Int) := fun n => by rw [Int.natCast_pow]; rfl
 rw [e, e]; omega
theorem P186 : ∀ (l : List UInt8) (a : Int) (B : Nat), 0 ≤ a → a < 10 ^ B → 0 ≤ (P20 a l).1 ∧ (P20 a l).1 < 10 ^ (B + l.length)
 | [], a, B, h0, h1 => ⟨h0, by simpa [P20] using h1⟩
 | c :: r, a, B, h0, h1 => by
  simp only [P20]
  by_cases hc : P10 c
  ·rw [if_pos hc]
   unfold P10 at hc
   have e : (10 : Int) ^ (B + 1) = 10 * 10 ^ B := by rw [Int.pow_succ]; omega
   have := P186 r (10 * a + ((c.toNat : Int) - 48)) (B + 1) (by omega) (by rw [e]; omega)
   rw [List.length_cons, show B + (r.length + 1) = B + 1 + r.length by omega]
   exact this
  ·rw [if_neg hc]
   exact ⟨Int.le_refl _, Int.pow_pos (by omega)⟩
theorem P252 (s : ByteArray) (hs : s.size ≤ 7) (n : Nat) : ∀ (i : Nat) (a : Int), i + n = s.size → 0 ≤ a → a < 10 ^ i → ∀ k, n < k → F3.l0 k s a (i : Int) = some (P20 a (s.data.toList.drop i)) := by
 induction n with
 | zero =>
  intro i a hi h0 h1 k hk
  obtain ⟨k, rfl⟩ : ∃ m, k = m + 1 := ⟨k - 1, by omega⟩
  simp only [F3.l0]
  rw [if_neg (by omega), P75 (by omega)]; rfl
 | succ n ih =>
  intro i a hi h0 h1 k hk
  obtain ⟨k, rfl⟩ : ∃ m, k = m + 1 := ⟨k - 1, by omega⟩
  obtain ⟨x, hd, hb⟩ := P60 (s := s) (i := i) (by omega)
  have hp : (10 : Int) ^ i ≤ 10 ^ 7 := P185 (by omega)
  have e10 : (10 : Int) ^ 7 = 10000000 := by decide
  have e : (10 : Int) ^ (i + 1) = 10 * 10 ^ i := by rw [Int.pow_succ]; omega
  simp only [F3.l0]
  rw [if_pos (by omega), if_pos (by omega), hb, hd]
  simp only [P20]
  by_cases hc : P10 x
  ·have hc' := hc
   unfold P10 at hc'
   rw [if_neg (by omega), if_neg (by omega), if_pos hc, P1 (n := (i : Int) + 1) (by omega) (by omega), P1 (n := 10 * a) (by omega) (by omega), show (((x.toNat : Nat) : Int) - 48) % 256 = ((x.toNat : Nat) : Int) - 48 by omega, P1 (by omega) (by omega), show ((i : Int) + 1) = ((i + 1 : Nat) : Int) by omega]
   exact ih (i + 1) _ (by omega) (by omega) (by rw [e]; omega) k (by omega)
  ·rw [if_neg hc]
   unfold P10 at hc
   by_cases h : ((x.toNat : Nat) : Int) < 48
   ·rw [if_pos h]
   ·rw [if_neg h, if_pos (by omega)]
theorem P126 (l : List UInt8) : 0 ≤ (P15 l).1 ∧ (P15 l).1 < 10000000 := by
 unfold P15
 split
 ·next h =>
  have := P186 l 0 0 (by omega) (by decide)
  have hp : (10 : Int) ^ (0 + l.length) ≤ 10 ^ 7 := P185 (by omega)
  have e10 : (10 : Int) ^ 7 = 10000000 := by decide
  omega
 ·simp
theorem P187 : ∀ l : List UInt8, -10000000 < (P4 l).1 ∧ (P4 l).1 < 10000000
 | [] => by have := P126 []; simp only [P4]; omega
 | [c] => by have := P126 [c]; simp only [P4]; omega
 | c :: d :: r => by
  have h1 := P126 (c :: d :: r)
  have h2 := P187 (d :: r)
  simp only [P4]
  split
  ·simp only; omega
  ·omega
theorem P188 (s : ByteArray) {c : UInt8} {r : List UInt8} (h : s.data.toList = c :: r) : bt s 0 = ((c.toNat : Nat) : Int) := by
 have hl : s.data.toList.length = s.size := rfl
 obtain ⟨x, hd, hb⟩ := P60 (s := s) (i := 0) (by rw [h] at hl; simp at hl; omega)
 rw [List.drop_zero, h] at hd
 rw [show ((0 : Nat) : Int) = 0 from rfl] at hb
 rw [hb]
 cases hd; rfl
theorem P127 (s : ByteArray) {k : Nat} (hk : 20 ≤ k) : F3.j0 k s false = some (P15 s.data.toList) := by
 obtain ⟨k, rfl⟩ : ∃ m, k = m + 2 := ⟨k - 2, by omega⟩
 have hl : s.data.toList.length = s.size := rfl
 simp only [F3.j0, P80, Option.bind_some, decide_eq_true_eq]
 rw [if_neg (by decide)]
 unfold P15
 have L : s.size ≤ 7 → F3.l0 k s 0 0 = some (P20 0 s.data.toList) := by
  intro h7
  have := P252 s h7 s.size 0 0 (by omega) (by omega) (by decide) k (by omega)
  simpa using this
 by_cases h : 1 ≤ (s.size : Int) ∧ (s.size : Int) ≤ 7
 ·rw [if_pos h]
  by_cases h1 : (s.size : Int) > 1
  ·rw [if_pos h1, if_pos (by omega)]
   obtain ⟨c, r, e⟩ : ∃ c r, s.data.toList = c :: r := by
    cases hq : s.data.toList with
    | nil => rw [hq] at hl; simp at hl; omega
    | cons c r => exact ⟨c, r, rfl⟩
   rw [P188 s e]
   have e48 : (((c.toNat : Nat) : Int) = 48) ↔ c = 48 := P52 (n := 48) (by omega)
   simp only [F3.j1]
   by_cases hc : c = 48
   ·rw [if_pos (by simpa using e48.2 hc), if_neg (fun x => x.2 ⟨by omega, by rw [e, hc]; rfl⟩)]
   ·rw [if_neg (by simpa using fun x => hc (e48.1 x)), L (by omega), if_pos ⟨by omega, fun x => hc (by have := x.2; rw [e] at this; simpa using this)⟩]
  ·simp only [F3.j1]
   rw [if_neg h1, if_neg (by decide), L (by omega), if_pos ⟨by omega, fun x => by omega⟩]
 ·simp only [F3.j1]
  rw [if_neg h, if_pos trivial, if_neg (fun x => h (by omega))]
theorem P253 (n : Nat) : ∀ (s : ByteArray) (k : Nat), s.size = n → n ≤ 100000000 → 2 * n + 30 ≤ k → F3.f k s = some (P4 s.data.toList) := by
 induction n with
 | zero =>
  intro s k hn _ hk
  obtain ⟨k, rfl⟩ : ∃ m, k = m + 1 := ⟨k - 1, by omega⟩
  have hl : s.data.toList.length = s.size := rfl
  have e : s.data.toList = [] := List.length_eq_zero_iff.1 (by omega)
  simp only [F3.f]
  rw [if_neg (by omega), P127 s (by omega), e]; rfl
 | succ n ih =>
  intro s k hn hb hk
  obtain ⟨k, rfl⟩ : ∃ m, k = m + 2 := ⟨k - 2, by omega⟩
  have hl : s.data.toList.length = s.size := rfl
  cases hq : s.data.toList with
  | nil => rw [hq] at hl; simp at hl; omega
  | cons c r =>
   cases r with
   | nil =>
    have h1 : s.size = 1 := by rw [hq] at hl; simp at hl; omega
    simp only [F3.f]
    rw [if_neg (by omega), P127 s (by omega), hq]; rfl
   | cons d r =>
    have h1 : 2 ≤ s.size := by rw [hq] at hl; simp at hl; omega
    have e45 : (((c.toNat : Nat) : Int) = 45) ↔ c = 45 := P52 (n := 45) (by omega)
    simp only [F3.f]
    rw [if_pos (by omega), if_pos (by omega), P188 s hq]
    simp only [P4]
    by_cases hc : c = 45
    ·have ex : s.extract 1 s.size = ba (d :: r) := by
      rw [P64, hq]; simp only [List.drop_succ_cons, List.drop_zero]
      rw [List.take_of_length_le (by rw [hq] at hl; simp at hl ⊢; omega)]
     have IH := ih (ba (d :: r)) k (by rw [P5]; rw [hq] at hl; simp at hl ⊢; omega) (by omega) (by omega)
     rw [P35] at IH
     have hbd := P187 (d :: r)
     simp only [F3.j0]
     rw [if_pos hc, if_pos (by simpa using e45.2 hc), if_pos (by omega), ex, IH]; simp only [Option.bind_some]
     rw [P1 (by omega) (by omega)]
     by_cases h2 : (P4 (d :: r)).2 = true
     ·rw [if_pos h2, h2, Bool.true_and]
     ·rw [if_neg h2]
      rw [Bool.not_eq_true] at h2
      rw [h2, Bool.false_and]
    ·rw [if_neg hc]
     have : (((c.toNat : Nat) : Int) == 45) = false := by simpa using fun x => hc (e45.1 x)
     rw [this, P127 s (by omega), hq]
theorem P254 (s : ByteArray) {k : Nat} (hs : s.size ≤ 100000000) (hk : 200001000 ≤ k) : F3.f k s = some (P4 s.data.toList) := P253 s.size s k rfl hs (by omega)
theorem P104 (c : UInt8) : ∀ (l cur : List UInt8), ∀ w ∈ P3 c cur l, w.length ≤ cur.length + l.length
 | [], cur, w, h => by simp [P3] at h; subst h; simp
 | x :: r, cur, w, h => by
  simp only [P3] at h
  split at h
  ·rcases List.mem_cons.1 h with h1 | h1
   ·subst h1; simp
   ·have := P104 c r [] w h1
    simp at this ⊢; omega
  ·have := P104 c r _ w h
   simp at this ⊢; omega
theorem P189 (s : ByteArray) {k : Nat} (hs : s.size ≤ 100000000) (hk : 300000000 ≤ k) : F59.f k s = some (P22 s.data.toList) := by
 have hl : s.data.toList.length = s.size := rfl
 unfold F59.f P22
 have hc := P184 s 47 (k := k) hs (by omega)
 rw [show (((47 : UInt8).toNat : Nat) : Int) = 47 from rfl] at hc
 rw [hc]; simp only [Option.bind_some, List.length_map]
 have hsub := P104 47 s.data.toList []
 obtain ⟨x0, r0, hw⟩ := P155 47 s.data.toList []
 have hnil : s.data.toList = [] → P3 47 [] s.data.toList = [[]] := by intro h; rw [h]; rfl
 generalize P3 47 [] s.data.toList = W at *
 have dig : ∀ w ∈ W, F3.f k (ba w) = some (P4 w) := by
  intro w h
  have := hsub w h
  have h2 := P254 (ba w) (k := k) (by rw [P5]; simp at this; omega) (by omega)
  rw [P35] at h2
  exact h2
 have fin : ∀ (v w : Int), (s.data.toList = [] → ¬ P0 v w ∧ False) → ((F48.f k v w).bind fun t => (if t.toList = s.toList then (some (v, w, true)) else (some (0, 0, false)))) = some (if True ∧ P0 v w ∧ P9 v w = s.data.toList then (v, w, true) else (0, 0, false)) := by
  intro v w h0
  rw [P181 _ _ (by omega)]; simp only [Option.bind_some]
  rw [P47, ByteArray.toList_eq]
  unfold P68
  by_cases hf : P0 v w
  ·rw [if_pos hf]
   by_cases he : P9 v w = s.data.toList
   ·rw [if_pos he, if_pos ⟨trivial, hf, he⟩]
   ·rw [if_neg he, if_neg (fun x => he x.2.2)]
  ·rw [if_neg hf, if_neg (fun x => (h0 x.symm).2), if_neg (fun x => hf x.2.1)]
 subst hw
 match r0, dig, hnil with
 | [], dig, hnil =>
  have d0 := dig x0 (by simp)
  rw [if_pos (by simp), show rdOf ByteArray.empty (List.map ba [x0]) 0 = ba x0 from rfl, d0]; simp only [Option.bind_some]
  rw [if_neg (by simp)]
  simp only [P25]
  by_cases h : (P4 x0).2 = true
  ·rw [if_pos h, if_neg (by simp), fin _ _ (fun h0 => by
    have := hnil h0
    simp only [List.cons.injEq, and_true] at this
    rw [this] at h
    exact absurd h (by decide))]
   simp [h]
  ·rw [if_neg h]; exact congrArg some (if_neg (fun x => h x.1)).symm
 | [y], dig, hnil =>
  have d0 := dig x0 (by simp)
  have d1 := dig y (by simp)
  rw [if_pos (by simp), show rdOf ByteArray.empty (List.map ba [x0, y]) 0 = ba x0 from rfl, d0]; simp only [Option.bind_some]
  rw [if_pos (by simp), if_pos (by simp), show rdOf ByteArray.empty (List.map ba [x0, y]) 1 = ba y from rfl, d1]; simp only [Option.bind_some]
  simp only [P25]
  by_cases h : (P4 x0).2 = true
  ·rw [if_pos h]
   by_cases h' : (P4 y).2 = true
   ·rw [if_pos h', if_neg (by simp), fin _ _ (fun h0 => by have := hnil h0; simp at this)]
    simp [h, h']
   ·rw [if_neg h']; exact congrArg some (if_neg (fun x => h' (by have := x.1; simp at this; exact this.2))).symm
  ·rw [if_neg h]; exact congrArg some (if_neg (fun x => h (by have := x.1; simp at this; exact this.1))).symm
 | y :: z :: r, dig, hnil =>
  have d0 := dig x0 (by simp)
  rw [if_pos (by simp; omega), show rdOf ByteArray.empty (List.map ba (x0 :: y :: z :: r)) 0 = ba x0 from rfl, d0]; simp only [Option.bind_some]
  have hlen : ((x0 :: y :: z :: r).length : Int) > 2 := by simp; omega
  rw [if_neg (by simp; omega)]
  simp only [if_pos hlen]
  refine Eq.trans ?_ (congrArg some (if_neg (fun x => Bool.false_ne_true x.1)).symm)
  split <;> rfl
theorem P255 (s : ByteArray) (hs : s.size ≤ 1000000000) (n : Nat) : ∀ i : Nat, i + n = s.size → ∀ k, n < k → F20.l0 k s (i : Int) = some (decide (s.size ≤ 40 ∧ P31 (s.data.toList.drop i))) := by
 induction n with
 | zero =>
  intro i hi k hk
  obtain ⟨k, rfl⟩ : ∃ m, k = m + 1 := ⟨k - 1, by omega⟩
  simp only [F20.l0]
  rw [if_neg (by omega), P75 (by omega)]
  exact P40 ⟨fun x => ⟨by omega, P229⟩, fun x => by omega⟩
 | succ n ih =>
  intro i hi k hk
  obtain ⟨k, rfl⟩ : ∃ m, k = m + 1 := ⟨k - 1, by omega⟩
  obtain ⟨c, hd, hb⟩ := P60 (s := s) (i := i) (by omega)
  simp only [F20.l0]
  rw [if_pos (by omega), if_pos (by omega), hb, hd, P1 (by omega) (by omega), show ((i : Int) + 1) = ((i + 1 : Nat) : Int) by omega, ih (i + 1) (by omega) k (by omega)]
  have e1 : (((c.toNat : Nat) : Int) = 84) ↔ c = 84 := P52 (n := 84) (by omega)
  have e2 : (((c.toNat : Nat) : Int) = 116) ↔ c = 116 := P52 (n := 116) (by omega)
  have e3 : (((c.toNat : Nat) : Int) = 82) ↔ c = 82 := P52 (n := 82) (by omega)
  have yes : P77 c → some (decide (s.size ≤ 40 ∧ P31 (s.data.toList.drop (i + 1)))) = some (decide (s.size ≤ 40 ∧ P31 (c :: s.data.toList.drop (i + 1)))) := by
   intro h; exact P40 ⟨fun x => ⟨x.1, (P111 _ _).2 ⟨h, x.2⟩⟩, fun x => ⟨x.1, ((P111 _ _).1 x.2).2⟩⟩
  by_cases h1 : c = 84
  ·rw [if_pos (e1.2 h1)]; exact yes (.inl h1)
  ·rw [if_neg (fun x => h1 (e1.1 x))]
   by_cases h2 : c = 116
   ·rw [if_pos (e2.2 h2)]; exact yes (.inr (.inl h2))
   ·rw [if_neg (fun x => h2 (e2.1 x))]
    by_cases h3 : c = 82
    ·rw [if_pos (e3.2 h3)]; exact yes (.inr (.inr h3))
    ·rw [if_neg (fun x => h3 (e3.1 x))]
     exact (P24 (fun x => by rcases ((P111 _ _).1 x.2).1 with y | y | y <;> contradiction)).symm
theorem P190 (s : ByteArray) {k : Nat} (hs : s.size ≤ 100000000) (hk : 100000001 ≤ k) : F20.f k s = some (decide (P56 s)) := by
 unfold F20.f
 have := P255 s (by omega) s.size 0 (by omega) k (by omega)
 rw [show ((0 : Nat) : Int) = 0 from rfl] at this
 rw [this]
 exact P40 (by unfold P56 P41; simp)
theorem P128 (rd : Bool) (kind : Int) (t : ByteArray) {k : Nat} (hk : 1 ≤ k) (ht : t.size ≤ 100000000) (h0 : ¬ (kind = 0 ∧ P41 t.data.toList)) (hr : rd = decide (kind = 1 ∧ (P22 t.data.toList).2.2 = true)) : F9.j1 k rd kind t = some (ba (P2 kind t.data.toList)) := by
 obtain ⟨k, rfl⟩ : ∃ m, k = m + 1 := ⟨k - 1, by omega⟩
 simp only [F9.j1]
 unfold P2
 rw [if_neg h0, P95, hr]
 by_cases h1 : kind = 1 ∧ (P22 t.data.toList).2.2 = true
 ·rw [decide_eq_true h1, if_pos rfl, if_pos h1, if_pos (by omega)]
  exact congrArg some (P18 [116, 97, 107, 101, 32] t.data.toList)
 ·rw [decide_eq_false h1, if_neg (by decide), if_neg h1]
  by_cases h2 : kind = 2 ∧ t.data.toList = []
  ·rw [if_pos (by simp [h2.1, h2.2]), if_pos h2]; rfl
  ·rw [if_neg (by simpa using h2), if_neg h2]
   by_cases h3 : kind = 3 ∧ t.data.toList = []
   ·rw [if_pos (by simp [h3.1, h3.2]), if_pos h3]; rfl
   ·rw [if_neg (by simpa using h3), if_neg h3]
    by_cases h4 : kind = 4 ∧ t.data.toList = []
    ·rw [if_pos (by simp [h4.1, h4.2]), if_pos h4]; rfl
    ·rw [if_neg (by simpa using h4), if_neg h4]; rfl
theorem P129 (kind : Int) (t : ByteArray) {k : Nat} (ht : t.size ≤ 100000000) (hk : 300000010 ≤ k) : F9.f k kind t = some (ba (P2 kind t.data.toList)) := by
 obtain ⟨k, rfl⟩ : ∃ m, k = m + 1 := ⟨k - 1, by omega⟩
 unfold F9.f
 rw [P189 t ht (by omega)]; simp only [Option.bind_some]
 by_cases h0 : kind = 0
 ·rw [if_pos h0, P190 t (by omega) (by omega)]; simp only [Option.bind_some, F9.j0]
  by_cases hd : P56 t
  ·rw [decide_eq_true hd, if_pos rfl, if_pos (by omega)]
   unfold P2
   rw [if_pos ⟨h0, hd⟩]
   exact congrArg some (P18 [100, 97, 110, 99, 101, 32] t.data.toList)
  ·rw [decide_eq_false hd, if_neg (by decide), if_neg (by omega)]
   exact P128 _ _ _ (by omega) ht (fun x => hd x.2) (by rw [h0]; rfl)
 ·rw [if_neg h0]; simp only [F9.j0]
  rw [if_neg (by decide)]
  by_cases h1 : kind = 1
  ·rw [if_pos h1]
   refine P128 _ _ _ (by omega) ht (fun x => h0 x.1) ?_
   rw [h1]; simp
  ·rw [if_neg h1]
   exact P128 _ _ _ (by omega) ht (fun x => h0 x.1) (by simp [h1])
theorem P256 (s : List Int) (C : List S38) (hC : C.length ≤ 100) (hsz : ∀ c ∈ C, c.f1.size ≤ 300) (p : Int) (n : Nat) : ∀ (i : Nat) (out : List S38) (k : Nat), i + n = C.length → out.length ≤ i → (∀ c ∈ out, c.f1.size ≤ 300 ∧ P2 c.f0 c.f1.data.toList ≠ []) → n + 300000020 ≤ k →
  ∃ l, F34.l0 k out C (i : Int) s p = some (l, p) ∧ l.length ≤ C.length ∧ (∀ c ∈ l, c.f1.size ≤ 300 ∧ P2 c.f0 c.f1.data.toList ≠ []) := by
 induction n with
 | zero =>
  intro i out k hi ho hc hk
  obtain ⟨k, rfl⟩ : ∃ m, k = m + 1 := ⟨k - 1, by omega⟩
  simp only [F34.l0]
  rw [if_neg (by omega)]
  exact ⟨_, rfl, by omega, hc⟩
 | succ n ih =>
  intro i out k hi ho hc hk
  obtain ⟨k, rfl⟩ : ∃ m, k = m + 1 := ⟨k - 1, by omega⟩
  have hd := P97 C i (by omega)
  have hm := hsz _ (List.mem_of_mem_drop (i := i) (by rw [hd]; simp) : rd_T38 C (i : Int) ∈ C)
  simp only [F34.l0]
  generalize rd_T38 C (i : Int) = c at *
  rw [if_pos (by omega), if_pos (by omega), P129 _ _ (by omega) (by omega)]; simp only [Option.bind_some]
  rw [P47, P1 (by omega) (by omega), show ((i : Int) + 1) = ((i + 1 : Nat) : Int) by omega]
  split
  ·exact ih (i + 1) out k (by omega) (by omega) hc (by omega)
  ·next hne =>
   rw [if_pos (by omega)]
   exact ih (i + 1) _ k (by omega) (by simp; omega) (by
    intro x hx
    rcases List.mem_append.1 hx with h | h
    ·exact hc x h
    ·simp at h; subst h; exact ⟨hm, hne⟩) (by omega)
theorem P257 {s : List Int} (hs : P28 s) {p : Int} {k : Nat} (hp : 0 ≤ p) (hp' : p ≤ 500000) (hk : 300001000 ≤ k) :
  ∃ l q, F34.f k s p = some (l, q) ∧ l.length ≤ 100 ∧ (∀ c ∈ l, c.f1.size ≤ 300 ∧ P2 c.f0 c.f1.data.toList ≠ []) ∧ p ≤ q ∧ q ≤ p + 4000 := by
 unfold F34.f F29.f
 obtain ⟨w, hw, w0, w1, _⟩ := P17 (k := k) (p := p) 6 hs (by omega) (by omega) (by omega)
 have w1 := w1 (by omega)
 obtain ⟨m, rfl⟩ := Int.eq_ofNat_of_zero_le w0
 rw [hw]; simp only [Option.bind_some]
 obtain ⟨C, q, e, e1, e2, e3, e4⟩ := P183 hs m [] (p + 1) k (by omega) (by omega) (by simp; omega) (by simp) (by omega)
 rw [e]; simp only [Option.bind_some]
 simp at e1
 obtain ⟨l, h1, h2, h3⟩ := P256 s C (by omega) e2 q C.length 0 [] k (by omega) (by simp) (by simp) (by omega)
 exact ⟨l, q, h1, by omega, h3, by omega, by omega⟩
theorem P130 (a b n : Int) {k : Nat} (hk : 1000001 ≤ k) : F53.f k a b n = some (if P0 a b ∧ (-1000000 ≤ n ∧ n ≤ 1000000) then P37 a b n else (0, 0, false)) := by
 unfold F53.f
 simp only [P54 _ _ hk, P80, Option.bind_some, decide_eq_true_eq]
 by_cases h : P0 a b
 ·rw [if_pos h]
  by_cases hn : -1000000 ≤ n ∧ n ≤ 1000000
  ·rw [if_pos hn, P169 h hn, if_pos (show P0 a b ∧ (-1000000 ≤ n ∧ n ≤ 1000000) from ⟨h, hn⟩)]; unfold P37; split <;> rfl
  ·rw [if_neg hn, if_neg (fun x => hn x.2)]
 ·rw [if_neg h, if_neg (fun x => h x.1)]
theorem P191 (a b : Int) {k : Nat} (hk : 1000002 ≤ k) : F58.f k a b = some (if P0 a b then P29 a b else (0, 0)) := by
 unfold F58.f
 rw [P54 _ _ (by omega)]; simp only [Option.bind_some, decide_eq_true_eq]
 by_cases h : P0 a b
 ·have h2 := h.2.1
  rw [if_pos h, if_pos h, P1 (by omega) (by omega), P102 _ _ hk, P235 h]; rfl
 ·rw [if_neg h, if_neg h]
theorem P258 {f : Int × Int} (hf : P0 f.1 f.2) (m : UInt8) {k : Nat} (hk : 1000002 ≤ k) : F61.f k f.1 f.2 ((m.toNat : Nat) : Int) = some (P33 (P49 f m)) := by
 obtain ⟨a, b⟩ := f
 simp only at hf
 have e1 : (((m.toNat : Nat) : Int) = 84) ↔ m = 84 := P52 (n := 84) (by omega)
 have e2 : (((m.toNat : Nat) : Int) = 116) ↔ m = 116 := P52 (n := 116) (by omega)
 unfold F61.f P49
 simp only
 have p1 : P37 a b 1 = P33 (if P0 (a + b) b then some (a + b, b) else none) := by unfold P37; rw [Int.one_mul]; split <;> rfl
 have p2 : P37 a b (-1) = P33 (if P0 (a - b) b then some (a - b, b) else none) := by unfold P37; rw [show a + -1 * b = a - b by omega]; split <;> rfl
 by_cases h1 : m = 84
 ·rw [if_pos (e1.2 h1), if_pos h1, P130 _ _ _ (by omega), if_pos (show P0 a b ∧ (-1000000 ≤ (1 : Int) ∧ (1 : Int) ≤ 1000000) from ⟨hf, by omega⟩), p1]; rfl
 ·rw [if_neg (fun x => h1 (e1.1 x)), if_neg h1]
  by_cases h2 : m = 116
  ·rw [if_pos (e2.2 h2), if_pos h2, P130 _ _ _ (by omega), if_pos (show P0 a b ∧ (-1000000 ≤ (-1 : Int) ∧ (-1 : Int) ≤ 1000000) from ⟨hf, by omega⟩), p2]; rfl
  ·rw [if_neg (fun x => h2 (e2.1 x)), if_neg h2, P191 _ _ (by omega), P54 _ _ (by omega)]; simp only [Option.bind_some]
   rw [if_pos hf, decide_eq_true hf]; rfl
theorem P259 (s : ByteArray) (hs : s.size ≤ 40) (n : Nat) : ∀ (i : Nat) (f : Int × Int), i + n = s.size → P0 f.1 f.2 → ∀ k, n + 1000003 ≤ k →
  F8.l0 k s (i : Int) f.1 f.2 = some (P33 (P38 (s.data.toList.drop i) f)) := by
 induction n with
 | zero =>
  intro i f hi hf k hk
  obtain ⟨k, rfl⟩ : ∃ m, k = m + 1 := ⟨k - 1, by omega⟩
  simp only [F8.l0]
  rw [if_neg (by omega), P75 (by omega)]; rfl
 | succ n ih =>
  intro i f hi hf k hk
  obtain ⟨k, rfl⟩ : ∃ m, k = m + 1 := ⟨k - 1, by omega⟩
  obtain ⟨m, hd, hb⟩ := P60 (s := s) (i := i) (by omega)
  simp only [F8.l0]
  rw [if_pos (by omega), if_pos (by omega), hb, hd, P1 (n := (i : Int) + 1) (by omega) (by omega), show ((i : Int) + 1) = ((i + 1 : Nat) : Int) by omega, P258 hf m (by omega)]
  simp only [Option.bind_some, P38]
  cases hm : P49 f m with
  | none => rfl
  | some g =>
   simp only [P33, Option.bind_some]
   rw [if_pos trivial]
   exact ih (i + 1) g (by omega) (P172 hf hm) k (by omega)
theorem P260 (a b : Int) (s : ByteArray) {k : Nat} (hs : s.size ≤ 100000000) (hk : 100000002 ≤ k) : F8.f k a b s = some (P66 a b s.data.toList) := by
 obtain ⟨k, rfl⟩ : ∃ m, k = m + 1 := ⟨k - 1, by omega⟩
 unfold F8.f P66
 rw [P190 s hs (by omega), P54 _ _ (by omega)]; simp only [Option.bind_some, decide_eq_true_eq, F8.j0]
 by_cases h : P56 s
 ·rw [if_pos h]
  by_cases h1 : P0 a b
  ·have hl : s.size ≤ 40 := h.1
   rw [decide_eq_true h1, if_neg (by decide), if_pos ⟨h, h1⟩]
   have := P259 s hl s.size 0 (a, b) (by omega) h1 k (by omega)
   rw [List.drop_zero] at this
   exact this
  ·rw [decide_eq_false h1, if_pos (by decide), if_neg (fun x => h1 x.2)]
 ·rw [if_neg h, if_pos trivial, if_neg (fun x => h x.1)]
theorem P261 (n : Nat) : ∀ (t : List UInt8) (a b : Int) (r : List UInt8), P27 a b → t.length + n ≤ 1000 → unt n t a b = some r → ∀ k, n + 1000003 ≤ k → F16.l0 k (ba t) a b = some (ba r, true) := by
 induction n with
 | zero => intro t a b r _ _ h; simp [unt] at h
 | succ n ih =>
  intro t a b r hs ht h k hk
  obtain ⟨k, rfl⟩ : ∃ m, k = m + 1 := ⟨k - 1, by omega⟩
  simp only [F16.l0]
  simp only [unt] at h
  by_cases h0 : a = 0
  ·rw [if_pos h0] at h ⊢; cases h; rfl
  ·rw [if_neg h0] at h ⊢
   by_cases h1 : a < 0
   ·rw [if_pos h1] at h ⊢
    have hp := P171 hs h1
    rw [P130 _ _ _ (by omega), if_pos (show P0 a b ∧ (-1000000 ≤ (1 : Int) ∧ (1 : Int) ≤ 1000000) from ⟨hs.1, by omega⟩)]; simp only [Option.bind_some]
    unfold P37
    rw [Int.one_mul, if_pos hp.1, P5, if_pos (by omega)]
    have := ih (t ++ [84]) (a + b) b r hp (by simp; omega) h k (by omega)
    rw [← P18] at this
    exact this
   ·rw [if_neg h1] at h ⊢
    rw [P191 _ _ (by omega), if_pos hs.1]; simp only [Option.bind_some]
    rw [P5, if_pos (by omega)]
    have := ih (t ++ [82]) _ _ r (P170 hs) (by simp; omega) h k (by omega)
    rw [← P18] at this
    exact this
theorem P262 (a b : Int) {k : Nat} (hk : 1001000 ≤ k) : F16.f k a b = some (ba (P23 a b).1, (P23 a b).2) := by
 obtain ⟨k, rfl⟩ : ∃ m, k = m + 1 := ⟨k - 1, by omega⟩
 unfold F16.f P23
 rw [P54 _ _ (by omega)]; simp only [Option.bind_some, decide_eq_true_eq, P80, F16.j0]
 by_cases h : P0 a b
 ·rw [if_pos h]
  by_cases h1 : -12 ≤ a ∧ a ≤ 12
  ·rw [if_pos h1]
   by_cases h2 : b > 12
   ·rw [if_pos h2, if_neg (fun x : P27 a b => by have := x.2.2; omega)]; rfl
   ·have hS : P27 a b := ⟨h, h1, by omega⟩
    obtain ⟨r, hr⟩ := P119 hS
    rw [if_neg h2, if_pos hS, hr]
    exact P261 100 [] a b r hS (by simp) hr k (by omega)
  ·rw [if_neg h1, if_pos trivial, if_neg (fun x : P27 a b => h1 x.2.1)]; rfl
 ·rw [if_neg h, if_pos trivial, if_neg (fun x : P27 a b => h x.1)]; rfl
theorem P263 (a b : Int) {k : Nat} (hk : 1000002 ≤ k) : F72.f k a b = some (if P0 a b then P36 a b else (0, 0)) := by
 unfold F72.f
 simp only [P54 _ _ (show 1000001 ≤ k by omega), Option.bind_some, decide_eq_true_eq]
 by_cases h : P0 a b
 ·have h1 := h.1
  rw [if_pos h, if_pos h, P1 (by omega) (by omega), P102 _ _ hk, P234 h]; rfl
 ·rw [if_neg h, if_neg h]
theorem P264 (a b : Int) (l : List S31) (hl : l.length ≤ 1000000000) (n : Nat) : ∀ i : Nat, i + n = l.length → ∀ k, n + 1000002 ≤ k → F18.l0 k (i : Int) a b l = some (decide (P0 a b ∧ l.length ≤ 8 ∧ P32 (l.drop i))) := by
 induction n with
 | zero =>
  intro i hi k hk
  obtain ⟨k, rfl⟩ : ∃ m, k = m + 1 := ⟨k - 1, by omega⟩
  simp only [F18.l0]
  rw [if_neg (by omega), P54 _ _ (by omega), List.drop_of_length_le (by omega)]; simp only [Option.bind_some, decide_eq_true_eq]
  have e : P32 [] := by intro x hx; simp at hx
  by_cases h : P0 a b
  ·rw [if_pos h]; exact P40 ⟨fun x => ⟨h, by omega, e⟩, fun x => by omega⟩
  ·rw [if_neg h]; exact (P24 (fun x => h x.1)).symm
 | succ n ih =>
  intro i hi k hk
  obtain ⟨k, rfl⟩ : ∃ m, k = m + 1 := ⟨k - 1, by omega⟩
  simp only [F18.l0]
  rw [if_pos (by omega), if_pos (by omega), P54 _ _ (by omega), P116 l i (by omega)]; simp only [Option.bind_some, decide_eq_true_eq]
  by_cases h : P0 (rd_T31 l (i : Int)).f0 (rd_T31 l (i : Int)).f1
  ·rw [if_pos h, P1 (by omega) (by omega), show ((i : Int) + 1) = ((i + 1 : Nat) : Int) by omega, ih (i + 1) (by omega) k (by omega)]
   exact P40 ⟨fun x => ⟨x.1, x.2.1, (P87 _ _).2 ⟨h, x.2.2⟩⟩, fun x => ⟨x.1, x.2.1, ((P87 _ _).1 x.2.2).2⟩⟩
  ·rw [if_neg h]; exact (P24 (fun x => h ((P87 _ _).1 x.2.2).1)).symm
theorem P131 (a b : Int) (l : List S31) (hl : l.length ≤ 100000000) {k : Nat} (hk : 101001000 ≤ k) : F18.f k a b l = some (decide (P13 a b l)) := by
 unfold F18.f
 have := P264 a b l (by omega) l.length 0 (by omega) k (by omega)
 rw [List.drop_zero] at this
 exact this
theorem P192 (t : ByteArray) : (t.toList == ([] : List UInt8)) = decide (t.data.toList = []) := by
 rw [ByteArray.toList_eq]
 cases t.data.toList with
 | nil => rfl
 | cons a l => rfl
theorem P265 (a b kind : Int) (t : ByteArray) {k : Nat} (hf : P0 a b) (ht : t.size ≤ 100000000) (hk : 300000000 ≤ k) : F65.f k a b kind t = some (P19 a b kind t.data.toList) := by
 unfold F65.f P19
 rw [P192]
 by_cases h0 : kind = 0
 ·rw [if_pos h0, if_pos h0, P260 _ _ _ ht (by omega)]; rfl
 ·rw [if_neg h0, if_neg h0]
  by_cases h1 : kind = 1
  ·rw [if_pos h1, if_pos h1, P189 _ ht hk]; rfl
  ·rw [if_neg h1, if_neg h1]
   by_cases h2 : kind = 2 ∧ t.data.toList = []
   ·rw [if_pos h2, if_pos (by simp [h2.1, h2.2]), P263 _ _ (by omega), if_pos hf]; rfl
   ·rw [if_neg h2, if_neg (by simpa using h2)]
    by_cases h3 : kind = 3 ∧ t.data.toList = []
    ·rw [if_pos h3, if_pos (by simp [h3.1, h3.2]), P262 _ _ (by omega)]; rfl
    ·rw [if_neg h3, if_neg (by simpa using h3)]
theorem P266 (l : List S31) (a b p q : Int) : (if ((l ++ [(⟨a, b⟩ : S31)]).length : Int) > 8 then (if 1 ≤ ((l ++ [(⟨a, b⟩ : S31)]).length : Int) then (some (p, q, (l ++ [(⟨a, b⟩ : S31)]).drop (1 : Int).toNat, true)) else (none)) else (some (p, q, l ++ [(⟨a, b⟩ : S31)], true))) = some (p, q, P50 l a b, true) := by
 have e : (l ++ [(⟨a, b⟩ : S31)]).length = l.length + 1 := by simp
 unfold P50
 rw [e]
 by_cases h9 : l.length + 1 > 8
 ·rw [if_pos (show ((l.length + 1 : Nat) : Int) > 8 by omega), if_pos (show 1 ≤ ((l.length + 1 : Nat) : Int) by omega), if_pos h9]; rfl
 ·rw [if_neg (show ¬ ((l.length + 1 : Nat) : Int) > 8 by omega), if_neg h9]
theorem P267 (a b : Int) (l : List S31) (kind : Int) (t : ByteArray) {k : Nat} (hl : l.length ≤ 100000000) (ht : t.size ≤ 100000000) (hk : 300000002 ≤ k) :
  F13.f k a b l kind t = some (P67 a b l kind t.data.toList) := by
 obtain ⟨k, rfl⟩ : ∃ m, k = m + 2 := ⟨k - 2, by omega⟩
 unfold F13.f F64.f P67
 rw [P131 _ _ _ hl (by omega)]; simp only [Option.bind_some, decide_eq_true_eq]
 by_cases h : P13 a b l
 ·have h8 := h.2.1
  rw [if_pos h, if_pos h, if_pos (by simp; omega)]; simp only [Option.bind_some, List.nil_append, F13.j0]
  have go : ∀ n, n + 1 = k + 1 → ((F65.f (k + 1) a b kind t).bind fun bt => (if bt.2.2 = true then (F13.j1 (k + 1) (bt.1 == a && (bt.2.1 == b)) a b l bt.1 bt.2.1) else (F13.j1 (k + 1) true a b l bt.1 bt.2.1))) =
    some (if (P19 a b kind t.data.toList).2.2 = true ∧ ¬ ((P19 a b kind t.data.toList).1 = a ∧ (P19 a b kind t.data.toList).2.1 = b) then ((P19 a b kind t.data.toList).1, (P19 a b kind t.data.toList).2.1, P50 l a b, true) else (a, b, l, false)) := by
   intro n _
   rw [P265 _ _ _ _ h.1 ht (by omega)]; simp only [Option.bind_some, F13.j1]
   generalize P19 a b kind t.data.toList = v
   by_cases hv : v.2.2 = true
   ·rw [if_pos hv]
    by_cases he : v.1 = a ∧ v.2.1 = b
    ·rw [if_pos (by simp [he.1, he.2]), if_neg (fun x => x.2 he)]
    ·rw [if_neg (by simpa using he), if_pos (show l.length < 8796093022208 by omega), if_pos (show v.2.2 = true ∧ ¬ (v.1 = a ∧ v.2.1 = b) from ⟨hv, he⟩)]
     exact P266 l a b v.1 v.2.1
   ·rw [if_neg hv, if_pos trivial, if_neg (fun x => hv x.1)]
  unfold dov
  rw [P192]
  by_cases h4 : kind = 4 ∧ t.data.toList = []
  ·rw [if_pos (by simp [h4.1, h4.2])]
   by_cases h5 : l = []
   ·rw [if_neg (by simp [h5]), if_neg (fun x => x.2.2 h5)]
    exact go k rfl
   ·have hl0 : 0 < l.length := List.length_pos_iff.2 h5
    rw [if_pos (by simpa using hl0), P1 (by omega) (by omega), if_pos (by omega), if_pos (by omega), if_pos (by omega), if_pos ⟨h4.1, h4.2, h5⟩, show (l.length : Int) - 1 = ((l.length - 1 : Nat) : Int) by omega]
    rfl
  ·rw [if_neg (by simpa using h4), if_neg (by decide), if_neg (fun x => h4 ⟨x.1, x.2.1⟩)]
   exact go k rfl
 ·rw [if_neg h, if_neg h]
theorem P193 {s : List Int} (hs : P28 s) (x1 : Int) (n : Nat) : ∀ (p a b : Int) (l : List S31) (k : Nat), 0 ≤ p → p + 400 * n ≤ 600000 → l.length ≤ 8 → n + 300000010 ≤ k →
  ∃ a' b' l' q, F19.l0 k x1 (n : Int) s p a b l = some (a', b', l', q) ∧ l'.length ≤ 9 ∧ p ≤ q ∧ q ≤ p + 400 * n + 20 := by
 induction n with
 | zero =>
  intro p a b l k hp hp' hl hk
  obtain ⟨k, rfl⟩ : ∃ m, k = m + 1 := ⟨k - 1, by omega⟩
  simp only [F19.l0]
  rw [if_neg (by omega)]
  obtain ⟨o, q, ho, r0, r1⟩ := P79 (k := k) (p := p) x1 hs (by omega) (by omega) (by omega)
  rw [ho]; simp only [Option.bind_some]
  split
  ·obtain ⟨w, hw, _⟩ := P17 (k := k) (p := q) 3 hs (by omega) (by omega) (by omega)
   rw [hw]; simp only [Option.bind_some]
   split
   ·exact ⟨_, _, _, _, rfl, by omega, by omega, by omega⟩
   ·split
    ·rw [if_pos (by omega)]
     exact ⟨_, _, _, _, rfl, by simp; omega, by omega, by omega⟩
    ·exact ⟨_, _, _, _, rfl, by simp, by omega, by omega⟩
  ·exact ⟨_, _, _, _, rfl, by omega, by omega, by omega⟩
 | succ n ih =>
  intro p a b l k hp hp' hl hk
  obtain ⟨k, rfl⟩ : ∃ m, k = m + 1 := ⟨k - 1, by omega⟩
  simp only [F19.l0]
  rw [if_pos (by omega)]
  obtain ⟨d, t, q, hd, ht, q0, q1⟩ := P182 (k := k) (p := p) hs (by omega) (by omega) (by omega)
  rw [hd]; simp only [Option.bind_some]
  rw [P267 _ _ _ _ _ (by omega) (by omega) (by omega), P1 (by omega) (by omega), show ((n + 1 : Nat) : Int) - 1 = (n : Int) by omega]; simp only [Option.bind_some]
  have hlen : (P67 a b l d t.data.toList).2.2.1.length ≤ 8 := by
   unfold P67
   split
   ·next h => exact (P100 h).2.1
   ·simp
  split
  ·obtain ⟨a', b', l', q', e, e1, e2, e3⟩ := ih q (P67 a b l d t.data.toList).1 (P67 a b l d t.data.toList).2.1 (P67 a b l d t.data.toList).2.2.1 k (by omega) (by omega) hlen (by omega)
   exact ⟨a', b', l', q', e, e1, by omega, by omega⟩
  ·obtain ⟨a', b', l', q', e, e1, e2, e3⟩ := ih q a b l k (by omega) (by omega) hl (by omega)
   exact ⟨a', b', l', q', e, e1, by omega, by omega⟩
theorem P268 {s : List Int} {p : Int} (n : Int) {k : Nat} (hs : P28 s) (hp : 0 ≤ p) (hp' : p ≤ 500000) (hk : 300001000 ≤ k) :
  ∃ a b l q, F19.f k s p n = some (a, b, l, q) ∧ l.length ≤ 9 ∧ p ≤ q ∧ q ≤ p + 4000 := by
 unfold F19.f F81.f
 obtain ⟨a, b, q, hf, hd, q0, q1⟩ := P178 (k := k) (p := p) 0 hs (by omega) (by omega) (by omega)
 rw [hf]; simp only [Option.bind_some]
 rw [P54 _ _ (by omega)]; simp only [Option.bind_some, decide_eq_true_eq]
 obtain ⟨w, hw, w0, w1, _⟩ := P17 (k := k) (p := q) 6 hs (by omega) (by omega) (by omega)
 have w1 := w1 (by omega)
 obtain ⟨m, rfl⟩ := Int.eq_ofNat_of_zero_le w0
 split
 ·simp only [Option.bind_some]
  rw [hw]; simp only [Option.bind_some]
  obtain ⟨a', b', l', q', e, e1, e2, e3⟩ := P193 hs n m (q + 1) a b [] k (by omega) (by omega) (by simp) (by omega)
  exact ⟨a', b', l', q', e, e1, by omega, by omega⟩
 ·simp only [Option.bind_some]
  rw [hw]; simp only [Option.bind_some]
  obtain ⟨a', b', l', q', e, e1, e2, e3⟩ := P193 hs n m (q + 1) 0 0 [] k (by omega) (by omega) (by simp) (by omega)
  exact ⟨a', b', l', q', e, e1, by omega, by omega⟩
theorem P269 {l : List Int} (h : ∀ x ∈ l, (Lit.int .u8 x).wf = true) {k : Nat} (hk : 302000000 ≤ k) :
  ∃ a b p C, F76.f k l = some (a, b, p, C) ∧ p.length ≤ 9 ∧ C.length ≤ 100 ∧ ∀ c ∈ C, c.f1.size ≤ 300 := by
 unfold F76.f
 obtain ⟨s, hs, hr⟩ := P149 h
 rw [hs]; simp only [Option.bind_some]
 obtain ⟨a, b, p, q, hd, hp, q0, q1⟩ := P268 (k := k) (p := 0) 12 hr (by omega) (by omega) (by omega)
 rw [hd]; simp only [Option.bind_some]
 obtain ⟨o, q', ho, r0, r1⟩ := P79 (k := k) (p := q) 30 hr (by omega) (by omega) (by omega)
 rw [ho]; simp only [Option.bind_some]
 split
 ·rw [if_pos (by decide)]
  refine ⟨_, _, _, _, rfl, hp, by simp, ?_⟩
  intro c hc
  rw [(List.mem_replicate.1 hc).2]
  decide
 ·obtain ⟨C, q2, hC, c1, c2, _⟩ := P250 hr (p := q') (k := k) (by omega) (by omega) (by omega)
  rw [hC]; simp only [Option.bind_some]
  exact ⟨_, _, _, _, rfl, hp, by omega, c2⟩
def cl (a b : Int) : Int := -((-a) / b)
theorem P194 (a : Int) {b : Int} (hb : 0 < b) : 0 ≤ cl a b * b - a ∧ cl a b * b - a < b := by
 have h1 := Int.emod_nonneg (-a) (show b ≠ 0 by omega)
 have h2 := Int.emod_lt_of_pos (-a) hb
 have h3 := Int.mul_ediv_add_emod (-a) b
 unfold cl
 rw [Int.neg_mul, Int.mul_comm]; omega
theorem P132 (x : Int) {b : Int} (hb : 0 < b) (hx : -60 ≤ x ∧ x ≤ 60) : -60 ≤ x / b ∧ x / b ≤ 60 := by
 have := Int.natAbs_ediv_le_natAbs x b
 omega
theorem P270 {a b : Int} (hb : 0 < b) (ha : -60 ≤ a ∧ a ≤ 60) : -60 ≤ cl a b ∧ cl a b ≤ 60 := by
 have := P132 (-a) hb (by omega)
 unfold cl; omega
theorem P271 (x b : Int) : Int.tdiv x b = -(Int.tdiv (-x) b) := by rw [Int.neg_tdiv]; omega
theorem P272 (x : Int) {b : Int} (hb : 0 < b) : (if Int.tdiv x b * b > x then Int.tdiv x b - 1 else Int.tdiv x b) = x / b := by
 have h1 := Int.emod_nonneg x (show b ≠ 0 by omega)
 have h2 := Int.emod_lt_of_pos x hb
 have h3 := Int.mul_ediv_add_emod x b
 by_cases hx : 0 ≤ x
 ·rw [Int.tdiv_eq_ediv_of_nonneg hx, if_neg (by rw [Int.mul_comm]; omega)]
 ·have g1 := Int.emod_nonneg (-x) (show b ≠ 0 by omega)
  have g2 := Int.emod_lt_of_pos (-x) hb
  have g3 := Int.mul_ediv_add_emod (-x) b
  have e : Int.tdiv x b = -((-x) / b) := by rw [P271, Int.tdiv_eq_ediv_of_nonneg (by omega)]
  rw [e, Int.neg_mul, Int.mul_comm]
  by_cases hz : (-x) % b = 0
  ·rw [if_neg (by omega)]
   symm
   exact Int.ediv_eq_of_eq_mul_left (by omega) (by rw [Int.neg_mul, Int.mul_comm]; omega)
  ·rw [if_pos (by omega)]
   symm
   exact ((Int.ediv_emod_unique hb (r := b - (-x) % b)).2 ⟨by rw [Int.mul_sub, Int.mul_neg]; omega, by omega, by omega⟩).1
theorem P273 (a : Int) {b : Int} (hb : 0 < b) : (if Int.tdiv a b * b < a then Int.tdiv a b + 1 else Int.tdiv a b) = cl a b := by
 have h := P272 (-a) hb
 rw [Int.neg_tdiv, Int.neg_mul] at h
 unfold cl
 rw [← h]
 by_cases hc : Int.tdiv a b * b < a
 ·rw [if_pos hc, if_pos (by omega)]; omega
 ·rw [if_neg hc, if_neg (by omega)]; omega
theorem P274 (x : Int) (b : Int) (hx : -60 ≤ x ∧ x ≤ 60) : -60 ≤ Int.tdiv x b ∧ Int.tdiv x b ≤ 60 := by
 have : (Int.tdiv x b).natAbs ≤ x.natAbs := by rw [Int.natAbs_tdiv]; exact Nat.div_le_self _ _
 omega
theorem P275 (x : Int) (b : Int) (hx : -60 ≤ x ∧ x ≤ 60) : -60 ≤ Int.tdiv x b * b ∧ Int.tdiv x b * b ≤ 60 := by
 have : (Int.tdiv x b * b).natAbs ≤ x.natAbs := by
  rw [Int.natAbs_mul, Int.natAbs_tdiv]; exact Nat.div_mul_le_self _ _
 omega
def P14 : Nat → Int → Int → List Int
 | 0, _, _ => []
 | n + 1, a, b => if b ≤ 0 then [] else cl a b :: P14 n b (cl a b * b - a)
theorem P195 : ∀ (n : Nat) (a b : Int), (P14 n a b).length ≤ n
 | 0, _, _ => by simp [P14]
 | n + 1, a, b => by
  simp only [P14]
  split
  ·simp
  ·simp only [List.length_cons]; have := P195 n b (cl a b * b - a); omega
theorem P196 : ∀ (n : Nat) (a b : Int), (-60 ≤ a ∧ a ≤ 60) → (0 ≤ b ∧ b ≤ 60) → ∀ x ∈ P14 n a b, -60 ≤ x ∧ x ≤ 60
 | 0, _, _, _, _, x, h => by simp [P14] at h
 | n + 1, a, b, ha, hb, x, h => by
  simp only [P14] at h
  split at h
  ·simp at h
  ·have hb' : 0 < b := by omega
   have h1 := P194 a hb'
   rcases List.mem_cons.1 h with rfl | h2
   ·exact P270 hb' ha
   ·exact P196 n b (cl a b * b - a) (by omega) (by omega) x h2
theorem P276 (n : Nat) (a : Int) : P14 n a 0 = [] := by cases n <;> simp [P14]
theorem P277 {n : Nat} (a : Int) {b : Int} (hn : 1 ≤ n) (hb : 0 < b) : P14 n a b ≠ [] := by
 obtain ⟨n, rfl⟩ : ∃ m, n = m + 1 := ⟨n - 1, by omega⟩
 simp only [P14]; rw [if_neg (by omega)]; simp
def P39 (a b : Int) : List Int × Bool := if P8 a b 60 ∧ b ≠ 0 then (P14 60 a b, true) else ([], false)
def P30 (l : List Int) : List UInt8 := Go.Lib.join (l.map Go.Lib.itoa) [44]
theorem P278 (x : List UInt8) (sep : List UInt8) : ∀ (y : List UInt8) (xs : List (List UInt8)), Go.Lib.join ((y :: xs) ++ [x]) sep = Go.Lib.join (y :: xs) sep ++ sep ++ x := by
 intro y xs
 rw [List.cons_append, Go.Lib.join_cons, Go.Lib.join_cons]
 simp [Go.Lib.joinTail]
theorem P279 (l : List Int) (x : Int) : P30 (l ++ [x]) = if l = [] then Go.Lib.itoa x else P30 l ++ [44] ++ Go.Lib.itoa x := by
 cases l with
 | nil => simp [P30, Go.Lib.join_one]
 | cons y l => rw [if_neg (by simp)]; unfold P30; rw [List.map_append, List.map_cons]; exact P278 _ _ _ _
theorem P280 : ∀ (n : Nat) (l : List Int), l.length = n → (∀ x ∈ l, -60 ≤ x ∧ x ≤ 60) → (P30 l).length ≤ 9 * n := by
 intro n
 induction n with
 | zero => intro l hl _; rw [List.eq_nil_of_length_eq_zero hl]; simp [P30, Go.Lib.join_nil]
 | succ n ih =>
  intro l hl hb
  have e := List.dropLast_concat_getLast (l := l) (by intro x; rw [x] at hl; simp at hl)
  have hi := ih l.dropLast (by simp [hl]) (fun x hx => hb x (List.dropLast_subset _ hx))
  have hx := hb (l.getLast (by intro x; rw [x] at hl; simp at hl)) (List.getLast_mem _)
  have h1 := P53 (n := l.getLast (by intro x; rw [x] at hl; simp at hl)) (by omega)
  rw [← e, P279]
  split
  ·omega
  ·simp only [List.length_append, List.length_singleton]; omega
def P197 (l : List Int) : List UInt8 := if l = [] then [110, 111, 110, 101] else P30 l
def P57 (a b : Int) : List Int := if Int.tmod a 2 = 0 then [1, 0, 3, 2] else if Int.tmod b 2 = 0 then [2, 3, 0, 1] else [3, 2, 1, 0]
def P105 (a : Int) : Int := if Int.tmod a 2 = 0 then 2 else 1
theorem P281 (a b : Int) : (P57 a b).length ≤ 100 ∧ (∀ x ∈ P57 a b, -60 ≤ x ∧ x ≤ 60) ∧ P57 a b ≠ [] := by
 unfold P57
 split
 ·decide
 ·split <;> decide
def P44 (a b : Int) : Prop := (a = 0 ∧ b = 1) ∨ (a = 1 ∧ b = 0) ∨ ((2 ≤ a ∧ a ≤ 60) ∧ (1 ≤ b ∧ b < a) ∧ Int.gcd a b = 1)
instance (a b : Int) : Decidable (P44 a b) := by unfold P44; infer_instance
theorem P282 (b : Int) : P44 0 b ↔ b = 1 := by unfold P44; omega
theorem P198 {a b : Int} (h : P44 a b) : 0 ≤ a ∧ a ≤ 60 ∧ 0 ≤ b ∧ b ≤ 59 := by
 unfold P44 at h; omega
def P69 : Nat → Nat → Nat → Nat → Nat
 | 0, _, _, b => b
 | n + 1, x, a, b => if x < b then (if x * b % a = 1 then x else P69 n (x + 1) a b) else b
def P133 (a b : Nat) : Nat := P69 60 1 a b
def P59 (a b : Int) : Int := (P133 a.toNat b.toNat : Nat)
theorem P134 (m n : Nat) : Int.tmod (m : Int) (n : Int) = ((m % n : Nat) : Int) := by
 rw [Int.tmod_eq_emod_of_nonneg (by omega)]; omega
def P70 (a b : Int) : Int × Int × Bool := if P44 a b then (a, P59 a b, true) else (0, 0, false)
def P12 (a b : Int) : Int × Int × Bool :=
 if P0 a b ∧ (-60 ≤ a ∧ a ≤ 60) then
  if a = 0 then (0, 1, true) else if a < 0 then ((a.natAbs : Int), ((a.natAbs : Int) - b % a.natAbs) % a.natAbs, true) else (a, b % a, true)
 else (0, 0, false)
theorem P283 {a b : Int} (h : P0 a b) (ha : -60 ≤ a ∧ a ≤ 60) (h0 : a ≠ 0) :
  (if (mx a (wrap64 (-a))) = 0 then (none : Option (Int × Int × Bool)) else (if a < 0 then (some (mx a (wrap64 (-a)), Int.tmod (wrap64 ((mx a (wrap64 (-a))) - (Int.tmod b (mx a (wrap64 (-a)))))) (mx a (wrap64 (-a))), true)) else (some (mx a (wrap64 (-a)), Int.tmod b (mx a (wrap64 (-a))), true))))
   = some (P12 a b) := by
 unfold P12
 rw [if_pos (show P0 a b ∧ (-60 ≤ a ∧ a ≤ 60) from ⟨h, ha⟩), P74 (by omega) (by omega), if_neg h0, if_neg (by omega)]
 have hb := h.2.1
 have e1 : Int.tmod b (a.natAbs : Int) = b % (a.natAbs : Int) := Int.tmod_eq_emod_of_nonneg (by omega)
 have r1 := Int.emod_nonneg b (show ((a.natAbs : Nat) : Int) ≠ 0 by omega)
 have r2 := Int.emod_lt_of_pos b (show (0 : Int) < (a.natAbs : Int) by omega)
 rw [e1]
 by_cases hn : a < 0
 ·rw [if_pos hn, if_pos hn, P1 (by omega) (by omega), Int.tmod_eq_emod_of_nonneg (by omega)]
 ·rw [if_neg hn, if_neg hn]
  have : ((a.natAbs : Nat) : Int) = a := by omega
  rw [this]
theorem P284 (b : Int) {n : Int} (hn : 0 < n) : (n - b % n) % n = (-b) % n := by
 have e : n - b % n = -b + n * (b / n + 1) := by
  have := Int.mul_ediv_add_emod b n
  rw [Int.mul_add, Int.mul_one]; omega
 rw [e, Int.add_mul_emod_self_left]
theorem P199 (n x : Int) : Int.gcd n (x % n) = Int.gcd n x := by
 have e : x % n = x + n * (-(x / n)) := by
  have := Int.mul_ediv_add_emod x n
  rw [Int.mul_neg]; omega
 rw [e, Int.gcd_add_mul_left_right]
theorem P285 {a b : Int} (h : P0 a b) (ha : -60 ≤ a ∧ a ≤ 60) : P44 (P12 a b).1 (P12 a b).2.1 := by
 unfold P12
 rw [if_pos (show P0 a b ∧ (-60 ≤ a ∧ a ≤ 60) from ⟨h, ha⟩)]
 by_cases h0 : a = 0
 ·rw [if_pos h0]; exact .inl ⟨rfl, rfl⟩
 ·rw [if_neg h0]
  have hg := h.2.2.1
  have key : ∀ r : Int, 0 ≤ r → r < (a.natAbs : Int) → Int.gcd (a.natAbs : Int) r = 1 → P44 (a.natAbs : Int) r := by
   intro r r0 r1 r2
   by_cases h1 : a.natAbs = 1
   ·right; left; exact ⟨by omega, by omega⟩
   ·right; right
    refine ⟨by omega, ⟨?_, r1⟩, r2⟩
    by_cases hr : r = 0
    ·subst hr; rw [Int.gcd_zero_right] at r2; simp at r2; omega
    ·omega
  have gn : Int.gcd (a.natAbs : Int) b = 1 := by
   unfold Int.gcd at hg ⊢; simpa using hg
  by_cases hn : a < 0
  ·rw [if_pos hn]; simp only
   refine key _ (Int.emod_nonneg _ (by omega)) (Int.emod_lt_of_pos _ (by omega)) ?_
   rw [P284 b (by omega), P199]
   simpa using gn
  ·rw [if_neg hn]; simp only
   have e : ((a.natAbs : Nat) : Int) = a := by omega
   have := key (b % a) (Int.emod_nonneg _ h0) (by rw [e]; exact Int.emod_lt_of_pos _ (by omega)) (by rw [e, P199]; exact hg)
   rw [e] at this
   exact this
def P71 (a b c : Int) : Int := if P0 a b ∧ (1 ≤ c ∧ c ≤ 12) then c * (Int.gcd c a : Int) else -1
theorem P286 {e : Int} (n : Int) (h1 : 1 ≤ e) (h2 : e ≤ 12) : wrap64 (e * (Int.gcd e n : Int)) = e * (Int.gcd e n : Int) := by
 have hg : Int.gcd e n ≤ 12 := by
  have := Int.gcd_le_natAbs_left (b := n) (show e ≠ 0 by omega); omega
 have := P109 (a := e) (b := ((Int.gcd e n : Nat) : Int)) (m := 12) (n := 12) (by omega) (by omega)
 exact P1 (by omega) (by omega)
def P6 (a b : Nat) : List Int := if h : b = 0 then [] else ((a / b : Nat) : Int) :: P6 b (a % b)
termination_by b
decreasing_by exact Nat.mod_lt _ (by omega)
theorem P58 (a : Nat) : P6 a 0 = [] := by rw [P6]; simp
theorem P106 (a : Nat) {b : Nat} (h : b ≠ 0) : P6 a b = ((a / b : Nat) : Int) :: P6 b (a % b) := by rw [P6]; simp [h]
theorem P287 (m n : Nat) : Int.tdiv (m : Int) (n : Int) = ((m / n : Nat) : Int) := by
 rw [Int.tdiv_eq_ediv_of_nonneg (by omega)]; omega
theorem P288 (m n : Nat) : Int.tmod (m : Int) (n : Int) = ((m % n : Nat) : Int) := by
 rw [Int.tmod_eq_emod_of_nonneg (by omega)]; omega
theorem P289 (n : Nat) : ∀ a b : Nat, b ≤ n → (P6 a b).length ≤ b := by
 induction n with
 | zero =>
  intro a b h
  obtain rfl : b = 0 := by omega
  rw [P58]; simp
 | succ n ih =>
  intro a b h
  by_cases h0 : b = 0
  ·rw [h0, P58]; simp
  ·have := Nat.mod_lt a (show b > 0 by omega)
   have := ih b (a % b) (by omega)
   rw [P106 a h0, List.length_cons]; omega
theorem P200 (n : Nat) : ∀ a b : Nat, b ≤ n → ∀ x ∈ P6 a b, 0 ≤ x := by
 induction n with
 | zero =>
  intro a b h x hx
  obtain rfl : b = 0 := by omega
  rw [P58] at hx; simp at hx
 | succ n ih =>
  intro a b h x hx
  by_cases h0 : b = 0
  ·rw [h0, P58] at hx; simp at hx
  ·have := Nat.mod_lt a (show b > 0 by omega)
   rw [P106 a h0] at hx
   rcases List.mem_cons.1 hx with hx | hx
   ·rw [hx]; exact Int.natCast_nonneg _
   ·exact ih b (a % b) (by omega) x hx
theorem P201 (n : Nat) : ∀ a b : Nat, b ≤ n → 0 ≤ (P6 a b).sum ∧ (P6 a b).sum ≤ a + b := by
 induction n with
 | zero =>
  intro a b h
  obtain rfl : b = 0 := by omega
  rw [P58]; simp
 | succ n ih =>
  intro a b h
  by_cases h0 : b = 0
  ·rw [h0, P58]; simp
  ·have h1 := Nat.mod_lt a (show b > 0 by omega)
   have h2 := ih b (a % b) (by omega)
   have h3 := Nat.div_add_mod a b
   have h7 : (0 : Int) ≤ ((a / b : Nat) : Int) := Int.natCast_nonneg _
   rw [P106 a h0, List.sum_cons]
   by_cases h5 : a % b = 0
   ·rw [h5, P58]
    have := Nat.div_le_self a b
    generalize a / b = q at *
    simp; omega
   ·by_cases h6 : a / b = 0
    ·rw [h6] at h3 ⊢; simp at h3 ⊢; omega
    ·have h4 : a / b + b ≤ b * (a / b) + 1 := by
      obtain ⟨x, hx⟩ : ∃ x, a / b = x + 1 := ⟨a / b - 1, by omega⟩
      obtain ⟨y, hy⟩ : ∃ y, b = y + 1 := ⟨b - 1, by omega⟩
      rw [hx, hy, Nat.mul_succ, Nat.succ_mul]; omega
     generalize a / b = q at *
     generalize b * q = c at *
     omega
def P202 (a b : Nat) : Int := (P6 a b).sum
def P72 (a b : Int) : Int := if P0 a b then P202 a.natAbs b.natAbs else -1
theorem P203 (l : List Int) (i : Nat) (h : i < l.length) : l.drop i = rd l (i : Int) :: l.drop (i + 1) := by
 rw [List.drop_eq_getElem_cons h]; unfold rd; simp [h]
theorem P204 (l : List Int) (h : ∀ x ∈ l, 0 ≤ x) : 0 ≤ l.sum := by
 induction l with
 | nil => simp
 | cons x l ih => rw [List.sum_cons]; have := h x (by simp); have := ih (fun y hy => h y (by simp [hy])); omega
theorem P290 (n : Nat) : ∀ l : List UInt8, l.length = n + 1 → (∀ c ∈ l, P10 c) → (l.head? = some 48 → n = 0) → Go.Lib.decDigits (P11 0 l) = l := by
 induction n with
 | zero =>
  intro l hl hd _
  match l, hl with
  | [c], _ =>
   have hc := hd c (by simp)
   unfold P10 at hc
   have e : P11 0 [c] = c.toNat - 48 := by simp [P11]
   rw [e, P46 (by omega), show 48 + (c.toNat - 48) = c.toNat by omega]
   simp
 | succ n ih =>
  intro l hl hd hz
  have hne : l ≠ [] := by intro x; rw [x] at hl; simp at hl
  have e := List.dropLast_concat_getLast hne
  generalize l.getLast hne = c at e
  generalize hm : l.dropLast = m at e
  subst e
  have hml : m.length = n + 1 := by simp at hl; omega
  have hmd : ∀ x ∈ m, P10 x := fun x hx => hd x (by simp [hx])
  have hc := hd c (by simp)
  unfold P10 at hc
  obtain ⟨y, r, rfl⟩ : ∃ y r, m = y :: r := by
   cases m with
   | nil => simp at hml
   | cons y r => exact ⟨y, r, rfl⟩
  have hy : y ≠ 48 := fun x => by
   have := hz (by rw [x]; rfl)
   omega
  have i := ih (y :: r) hml hmd (fun x => by simp at x; exact absurd x hy)
  have hv : 1 ≤ P11 0 (y :: r) := by
   by_cases h0 : 1 ≤ P11 0 (y :: r)
   ·exact h0
   ·rw [show P11 0 (y :: r) = 0 by omega, P46 (by omega)] at i
    injection i with i1 i2
    exact absurd i1.symm hy
  have e2 : P11 0 ((y :: r) ++ [c]) = 10 * P11 0 (y :: r) + (c.toNat - 48) := by rw [P151]; rfl
  rw [e2, P62 (by omega), show (10 * P11 0 (y :: r) + (c.toNat - 48)) / 10 = P11 0 (y :: r) by omega, i, show 48 + (10 * P11 0 (y :: r) + (c.toNat - 48)) % 10 = c.toNat by omega]
  simp
theorem P205 : ∀ (l : List UInt8) (a : Int), (P20 a l).2 = true → ∀ c ∈ l, P10 c
 | [], _, _, c, h => by simp at h
 | x :: r, a, h, c, hc => by
  simp only [P20] at h
  split at h
  ·next hx =>
   rcases List.mem_cons.1 hc with rfl | h1
   ·exact hx
   ·exact P205 r _ h c h1
  ·simp at h
theorem P291 {l : List UInt8} (h : (P15 l).2 = true) : ∃ u : Nat, u < 10000000 ∧ l = Go.Lib.decDigits u := by
 unfold P15 at h
 split at h
 ·next hc =>
  have hd := P205 l 0 h
  have := P290 (l.length - 1) l (by omega) hd (fun x => by
   by_cases h1 : 1 < l.length
   ·exact absurd ⟨h1, x⟩ hc.2
   ·omega)
  refine ⟨P11 0 l, ?_, this.symm⟩
  have hl : ∀ (m : List UInt8) (B a : Nat), (∀ c ∈ m, P10 c) → a < 10 ^ B → P11 a m < 10 ^ (B + m.length) := by
   intro m
   induction m with
   | nil => intro B a _ ha; simpa [P11] using ha
   | cons c r ih =>
    intro B a hm ha
    have hc := hm c (by simp)
    unfold P10 at hc
    have := ih (B + 1) (10 * a + (c.toNat - 48)) (fun x hx => hm x (by simp [hx])) (by rw [Nat.pow_succ]; omega)
    rw [List.length_cons, show B + (r.length + 1) = B + 1 + r.length by omega]
    exact this
  have h2 := hl l 0 0 hd (by decide)
  have h3 : 10 ^ (0 + l.length) ≤ 10 ^ 7 := Nat.pow_le_pow_right (by decide) (by omega)
  omega
 ·simp at h
theorem P292 {l : List UInt8} (h : (P4 l).2 = true) (h0 : 0 ≤ (P4 l).1) : ∃ u : Nat, u < 10000000 ∧ l = Go.Lib.itoa (u : Int) := by
 have plain : ∀ m, (P15 m).2 = true → ∃ u : Nat, u < 10000000 ∧ m = Go.Lib.itoa (u : Int) := by
  intro m hm
  obtain ⟨u, h1, h2⟩ := P291 hm
  refine ⟨u, h1, ?_⟩
  unfold Go.Lib.itoa
  rw [if_neg (by omega), h2]; rfl
 match l, h, h0 with
 | [], h, _ => exact plain _ h
 | [c], h, _ => exact plain _ h
 | c :: d :: r, h, h0 =>
  simp only [P4] at h h0
  split at h
  ·next hc =>
   rw [if_pos hc] at h0
   simp at h h0
   omega
  ·exact plain _ h
def P55 (l : List UInt8) : Option Int :=
 if Go.Lib.hasPrefix l [99, 111, 108, 111, 117, 114, 115, 32] = true ∧ (P4 (l.drop 8)).2 = true ∧ 0 ≤ (P4 (l.drop 8)).1 then some (P4 (l.drop 8)).1 else none
theorem P293 {l : List UInt8} {n : Int} (h : P55 l = some n) : 0 ≤ n ∧ n < 10000000 ∧ l = [99, 111, 108, 111, 117, 114, 115, 32] ++ Go.Lib.itoa n := by
 unfold P55 at h
 split at h
 ·next hc =>
  injection h with h; subst h
  obtain ⟨u, h1, h2⟩ := P292 hc.2.1 hc.2.2
  have h3 := P82 (n := (u : Int)) (by omega)
  rw [← h2] at h3
  refine ⟨hc.2.2, by rw [h3]; simp; omega, ?_⟩
  have hp := hc.1
  unfold Go.Lib.hasPrefix at hp
  obtain ⟨t, rfl⟩ := List.isPrefixOf_iff_prefix.1 hp
  rw [h3]
  simp only [List.append_cancel_left_eq]
  simpa using h2
 ·cases h
theorem P294 {n : Int} (h : 0 ≤ n) (h' : n < 10000000) : P55 ([99, 111, 108, 111, 117, 114, 115, 32] ++ Go.Lib.itoa n) = some n := by
 have e : ([99, 111, 108, 111, 117, 114, 115, 32] ++ Go.Lib.itoa n).drop 8 = Go.Lib.itoa n := rfl
 unfold P55
 rw [e, P82 (by omega), if_pos ⟨rfl, rfl, h⟩]
theorem P295 (a b : Int) : (P39 a b).1.length ≤ 100 ∧ (∀ x ∈ (P39 a b).1, -60 ≤ x ∧ x ≤ 60) ∧ ((P39 a b).2 = true → (P39 a b).1 ≠ []) ∧ ((P39 a b).2 = false → (P39 a b).1 = []) := by
 unfold P39
 split
 ·next h =>
  have h1 := h.1.2
  have h2 := h.1.1.2.1
  have h3 := h.2
  have := P195 60 a b
  exact ⟨by simp only; omega, P196 60 a b h1.1 (by omega), fun _ => P277 a (by omega) (by omega), fun x => by cases x⟩
 ·exact ⟨by simp, by simp, by simp, by simp⟩
theorem P296 (a b : Int) : (P72 a b).natAbs < 10000000 := by
 unfold P72
 split
 ·next h =>
  have h1 := h.1
  have h2 := h.2.1
  have hs := P201 b.natAbs a.natAbs b.natAbs (Nat.le_refl _)
  have h0 := P204 (P6 a.natAbs b.natAbs) (P200 b.natAbs _ _ (Nat.le_refl _))
  unfold P202
  omega
 ·decide
theorem P297 (a b c : Int) : (P71 a b c).natAbs < 10000000 := by
 unfold P71
 split
 ·next h =>
  have hc := h.2
  have hg : Int.gcd c a ≤ 12 := by
   have := Int.gcd_le_natAbs_left (b := a) (show c ≠ 0 by omega); omega
  have := P109 (a := c) (b := ((Int.gcd c a : Nat) : Int)) (m := 12) (n := 12) (by omega) (by omega)
  omega
 ·decide
theorem P298 (a b : Int) : (P23 a b).1.length ≤ 1000 := by
 unfold P23
 split
 ·next h =>
  obtain ⟨r, hr⟩ := P119 h
  have := P118 100 [] a b r hr
  rw [hr]; simp at this ⊢; omega
 ·simp
theorem P299 {a b : Int} (h : P44 a b) : (P70 a b).1.natAbs < 10000000 ∧ (P70 a b).2.1.natAbs < 10000000 := by
 have hr := P198 h
 unfold P70
 rw [if_pos h]
 have key : ∀ n x a b : Nat, x ≤ 100 → b ≤ 100 → P69 n x a b ≤ 200 + n := by
  intro n
  induction n with
  | zero => intro x a b _ hb; simp only [P69]; omega
  | succ n ih =>
   intro x a b hx hb
   simp only [P69]
   split
   ·split
    ·omega
    ·by_cases h1 : x + 1 ≤ 100
     ·have := ih (x + 1) a b h1 hb; omega
     ·next hlt _ => omega
   ·omega
 have := key 60 1 a.toNat b.toNat (by omega) (by omega)
 refine ⟨by simp only; omega, ?_⟩
 show (P59 a b).natAbs < 10000000
 unfold P59 P133
 omega
def P135 (a b : Int) (s : List UInt8) : List UInt8 :=
 if s = [116, 101, 120, 116] then P9 a b
 else if s = [109, 111, 118, 101, 115] then (if (P23 a b).2 = true then 58 :: (P23 a b).1 else [110, 111, 110, 101])
 else if s = [116, 101, 114, 109, 115] then P197 (P39 a b).1
 else if s = [99, 114, 111, 115, 115, 105, 110, 103, 115] then Go.Lib.itoa (P72 a b)
 else if s = [101, 110, 100, 115] then P30 (P57 a b)
 else if s = [114, 105, 110, 103, 115] then Go.Lib.itoa (P105 a)
 else if s = [108, 105, 110, 107] then (if (P12 a b).2.2 = true then Go.Lib.itoa (P70 (P12 a b).1 (P12 a b).2.1).1 ++ 58 :: Go.Lib.itoa (P70 (P12 a b).1 (P12 a b).2.1).2.1 else [110, 111, 110, 101])
 else match P55 s with
  | none => [119, 104, 97, 116]
  | some n => if 1 ≤ n ∧ n ≤ 12 then Go.Lib.itoa (P71 a b n) else [110, 111, 110, 101]
theorem P300 {a b : Int} (h : (P12 a b).2.2 = true) : P44 (P12 a b).1 (P12 a b).2.1 := by
 by_cases hc : P0 a b ∧ (-60 ≤ a ∧ a ≤ 60)
 ·exact P285 hc.1 hc.2
 ·unfold P12 at h; rw [if_neg hc] at h; cases h
def P51 (a b : Int) (l : List S31) (s : List UInt8) : Int × Int × List S31 × List UInt8 :=
 if (rdv s).2.2 = true then ((dov a b l (rdv s).1 (rdv s).2.1).1, (dov a b l (rdv s).1 (rdv s).2.1).2.1, (dov a b l (rdv s).1 (rdv s).2.1).2.2.1, if (dov a b l (rdv s).1 (rdv s).2.1).2.2.2 = true then [111, 107] else [110, 111, 116])
 else (a, b, l, P135 a b s)
def P73 (a b : Int) (l : List S31) (s : List UInt8) : Int × Int × List S31 × List UInt8 := if P13 a b l then P51 a b l s else (0, 0, [], [])
theorem P301 (l : List UInt8) : (rdv l).2.1.length ≤ l.length := by
 unfold rdv
 repeat' split
 all_goals simp
theorem P302 (a : Int) : F68.f a = some (decide (-1000000 ≤ a ∧ a ≤ 1000000)) := by
 unfold F68.f
 by_cases h : -1000000 ≤ a
 ·rw [if_pos h]; exact P40 ⟨fun x => ⟨h, x⟩, fun x => x.2⟩
 ·rw [if_neg h]; exact (P24 (fun x => h x.1)).symm
theorem P303 (n : Nat) : ∀ (a b : Int), b.natAbs ≤ n → a.natAbs ≤ 9223372036854775807 → b.natAbs ≤ 9223372036854775807 → ∀ k, n < k → F14.l0 k a b = some (Int.gcd a b : Int) := by
 induction n with
 | zero =>
  intro a b hb ha _ k hk
  obtain ⟨k, rfl⟩ : ∃ m, k = m + 1 := ⟨k - 1, by omega⟩
  obtain rfl : b = 0 := by omega
  simp only [F14.l0]
  rw [if_pos trivial, P74 (by omega) (by omega), Int.gcd_zero_right]
 | succ n ih =>
  intro a b hb ha hb' k hk
  obtain ⟨k, rfl⟩ : ∃ m, k = m + 1 := ⟨k - 1, by omega⟩
  simp only [F14.l0]
  by_cases h : b = 0
  ·subst h; rw [if_pos rfl, P74 (by omega) (by omega), Int.gcd_zero_right]
  ·have := P146 a h
   rw [if_neg h, ih b (Int.tmod a b) (by omega) hb' (by omega) k (by omega), P147]
theorem P136 {a b : Int} {k : Nat} (ha : a.natAbs ≤ 9223372036854775807) (hb : b.natAbs ≤ 9223372036854775807) (hk : b.natAbs < k) : F14.f k a b = some (Int.gcd a b : Int) :=
 P303 b.natAbs a b (Nat.le_refl _) ha hb k hk
theorem P45 (a b : Int) {k : Nat} (hk : 1000001 ≤ k) : F2.f k a b = some (decide (P0 a b)) := by
 unfold F2.f
 rw [P302]; simp only [Option.bind_some, decide_eq_true_eq]
 by_cases h1 : -1000000 ≤ a ∧ a ≤ 1000000
 ·rw [if_pos h1]
  by_cases h2 : b < 0
  ·rw [if_pos h2]; exact (P24 (fun x => by have := x.2.1; omega)).symm
  ·rw [if_neg h2]
   by_cases h2' : b > 1000000
   ·rw [if_pos h2']; exact (P24 (fun x => by have := x.2.1; omega)).symm
   ·rw [if_neg h2', P136 (by omega) (by omega) (by omega)]; simp only [Option.bind_some]
    have hb : (((Int.gcd a b : Nat) : Int) == 1) = decide (Int.gcd a b = 1) := by
     rw [Bool.eq_iff_iff]; simp; omega
    rw [hb]
    by_cases h4 : b = 0
    ·rw [if_pos h4]
     by_cases h5 : a = 1
     ·rw [if_pos h5]; exact P40 ⟨fun h => ⟨h1, by omega, h, fun _ => h5⟩, fun h => h.2.2.1⟩
     ·rw [if_neg h5]; exact (P24 (fun x => h5 (x.2.2.2 h4))).symm
    ·rw [if_neg h4]; exact P40 ⟨fun h => ⟨h1, by omega, h, fun h' => absurd h' h4⟩, fun h => h.2.2.1⟩
 ·rw [if_neg h1]; exact (P24 (fun x => h1 x.1)).symm
theorem P137 (a b m : Int) {k : Nat} (hk : 1000001 ≤ k) (hm : 0 ≤ m) (hm' : m ≤ 1000000) : F50.f k a b m = some (decide (P8 a b m)) := by
 unfold F50.f
 rw [P45 a b hk]; simp only [Option.bind_some, decide_eq_true_eq]
 by_cases h : P0 a b
 ·rw [if_pos h, P1 (by omega) (by omega)]
  by_cases h1 : a ≥ -m
  ·rw [if_pos h1]
   by_cases h2 : a ≤ m
   ·rw [if_pos h2]; exact P40 ⟨fun x => ⟨h, ⟨h1, h2⟩, x⟩, fun x => x.2.2⟩
   ·rw [if_neg h2]; exact (P24 (fun x => h2 x.2.1.2)).symm
  ·rw [if_neg h1]; exact (P24 (fun x => h1 x.2.1.1)).symm
 ·rw [if_neg h]; exact (P24 (fun x => h x.1)).symm
theorem P304 {a b : Int} (ha : -60 ≤ a ∧ a ≤ 60) (hb : 0 < b) : F82.f a b = some (cl a b) := by
 unfold F82.f
 have h1 := P274 a b ha
 have h2 := P275 a b ha
 have h3 := P273 a hb
 rw [if_neg (by omega), P1 (n := Int.tdiv a b) (by omega) (by omega), P1 (n := Int.tdiv a b * b) (by omega) (by omega), P1 (n := Int.tdiv a b + 1) (by omega) (by omega)]
 rw [← h3]; split <;> rfl
theorem P305 (n : Nat) : ∀ (out : List Int) (a b : Int), out.length + n ≤ 1000 → (-60 ≤ a ∧ a ≤ 60) → (0 < b ∧ b ≤ 60) → b ≤ n → ∀ k, n < k → F41.l0 k out a b = some (out ++ P14 n a b) := by
 induction n with
 | zero => intro out a b _ _ hb hn k hk; omega
 | succ n ih =>
  intro out a b ho ha hb hn k hk
  obtain ⟨k, rfl⟩ : ∃ m, k = m + 1 := ⟨k - 1, by omega⟩
  simp only [F41.l0, P14]
  have h1 := P194 a hb.1
  rw [if_neg (by omega), P304 ha hb.1]; simp only [Option.bind_some]
  rw [if_pos (by omega), P1 (n := cl a b * b) (by omega) (by omega), P1 (by omega) (by omega)]
  by_cases h : cl a b * b - a = 0
  ·rw [if_pos h, h, P276]
  ·rw [if_neg h, ih (out ++ [cl a b]) b (cl a b * b - a) (by simp; omega) (by omega) (by omega) (by omega) k (by omega)]
   simp
theorem P306 (a b : Int) {k : Nat} (hk : 1000001 ≤ k) : F63.f k a b = some (P39 a b) := by
 unfold F63.f P39 F41.f
 rw [P137 a b 60 hk (by omega) (by omega)]; simp only [Option.bind_some, decide_eq_true_eq]
 by_cases h : P8 a b 60
 ·have h2 := h.1.2.1
  have h3 := h.2
  rw [if_pos h]
  by_cases h0 : b = 0
  ·rw [if_pos h0, if_neg (fun x => x.2 h0)]
  ·rw [if_neg h0, if_pos ⟨h, h0⟩, P305 60 [] a b (by simp) h3.1 (by omega) (by omega) k (by omega)]; rfl
 ·rw [if_neg h, if_neg (fun x => h x.1)]
theorem P307 {a b : Int} (h : P0 a b) {k : Nat} (hk : 1000001 ≤ k) : F71.f k a b = some (P57 a b) := by
 unfold F71.f F79.f P57
 rw [P45 _ _ hk]; simp only [Option.bind_some, decide_eq_true_eq]
 rw [if_pos h]
 by_cases h1 : Int.tmod a 2 = 0
 ·rw [if_pos h1, if_pos h1]; rfl
 ·rw [if_neg h1, if_neg h1]
  by_cases h2 : Int.tmod b 2 = 0
  ·rw [if_pos h2, if_pos h2]; rfl
  ·rw [if_neg h2, if_neg h2]; rfl
theorem P308 {a b : Int} (h : P0 a b) {k : Nat} (hk : 1000001 ≤ k) : F70.f k a b = some (P105 a) := by
 unfold F70.f F79.f P105
 rw [P45 _ _ hk]; simp only [Option.bind_some, decide_eq_true_eq]
 rw [if_pos h]
 by_cases h1 : Int.tmod a 2 = 0
 ·rw [if_pos h1, if_pos h1]; rfl
 ·rw [if_neg h1, if_neg h1]
  by_cases h2 : Int.tmod b 2 = 0
  ·rw [if_pos h2]; rfl
  ·rw [if_neg h2]; rfl
theorem P309 (l : List Int) (hl : l.length ≤ 100) (hb : ∀ x ∈ l, -60 ≤ x ∧ x ≤ 60) (n : Nat) : ∀ i : Nat, i + n = l.length → ∀ k, n < k → F24.l0 k ((l.take i).map fun x => ba (Go.Lib.itoa x)) l (l.length : Int) (i : Int) = some (ba (P30 l)) := by
 induction n with
 | zero =>
  intro i hi k hk
  obtain ⟨k, rfl⟩ : ∃ m, k = m + 1 := ⟨k - 1, by omega⟩
  simp only [F24.l0]
  have hr := P280 l.length l rfl hb
  have e : (l.map fun x => ba (Go.Lib.itoa x)).map (fun s => s.data.toList) = l.map Go.Lib.itoa := by
   rw [List.map_map]; rfl
  rw [if_neg (by omega), List.take_of_length_le (by omega)]
  unfold strings_Join.f
  rw [e, List.length_map]
  have e2 : Go.Lib.join (l.map Go.Lib.itoa) (⟨#[44]⟩ : ByteArray).data.toList = P30 l := rfl
  rw [e2, if_pos ⟨by omega, by omega⟩]; rfl
 | succ n ih =>
  intro i hi k hk
  obtain ⟨k, rfl⟩ : ∃ m, k = m + 1 := ⟨k - 1, by omega⟩
  have hil : i < l.length := by omega
  simp only [F24.l0]
  have hd := P203 l i hil
  have hr : rd l (i : Int) = l[i] := by
   have e := List.drop_eq_getElem_cons hil
   rw [e] at hd; injection hd with h1 _; exact h1.symm
  have hx := hb l[i] (List.getElem_mem hil)
  rw [if_pos (by omega), if_pos (by omega), if_pos (by omega), hr, P99 (by omega)]; simp only [Option.bind_some]
  rw [if_pos (by simp; omega), P1 (by omega) (by omega)]
  have := ih (i + 1) (by omega) k (by omega)
  rw [List.take_succ_eq_append_getElem hil, List.map_append] at this
  exact this
theorem P206 (l : List Int) (hl : l.length ≤ 100) (hb : ∀ x ∈ l, -60 ≤ x ∧ x ≤ 60) {k : Nat} (hk : 200 ≤ k) : F24.f k l = some (ba (P30 l)) := by
 unfold F24.f
 exact P309 l hl hb l.length 0 (Nat.zero_add _) k (by omega)
theorem P207 {a b : Int} (h : P0 a b) : F51.f a b = some (ba (P9 a b)) := by
 have hb := P84 h
 have h1 := P53 hb.1
 have h2 := P53 hb.2
 unfold F51.f P9
 rw [P99 (by omega), P99 (by omega)]; simp only [Option.bind_some]
 by_cases h3 : b = 1
 ·rw [if_pos h3, if_pos h3]
 ·rw [if_neg h3, if_neg h3]
  rw [P5, if_pos (by omega)]
  have e : ba (Go.Lib.itoa a) ++ (⟨#[47]⟩ : ByteArray) = ba (Go.Lib.itoa a ++ [47]) := P18 _ [47]
  rw [e, P5, P5, if_pos (by simp; omega), P18]
  simp
theorem P138 (s : ByteArray) {k : Nat} (hk : 1000002 ≤ k) (a : Int) (e : Option Int) (b : Int) : F21.j0 k s a e b = some (if e.isNone = true ∧ P0 a b ∧ P9 a b = s.data.toList then (a, b, true) else (0, 0, false)) := by
 obtain ⟨k, rfl⟩ : ∃ m, k = m + 1 := ⟨k - 1, by omega⟩
 simp only [F21.j0]
 by_cases h : e.isNone = true
 ·rw [if_pos h, P45 _ _ (by omega)]; simp only [Option.bind_some, decide_eq_true_eq]
  by_cases hf : P0 a b
  ·rw [if_pos hf, P207 hf]; simp only [Option.bind_some]
   rw [P47, ByteArray.toList_eq]
   by_cases he : P9 a b = s.data.toList
   ·rw [if_pos he, if_pos ⟨h, hf, he⟩]
   ·rw [if_neg he, if_neg (fun x => he x.2.2)]
  ·rw [if_neg hf, if_neg (fun x => hf x.2.1)]
 ·rw [if_neg h, if_neg (fun x => h x.1)]
theorem P139 (s : ByteArray) (c : UInt8) (hs : s.size ≤ 100000000) : strings_Cut.f s ⟨#[c]⟩ = some (ba (Go.Lib.cut s.data.toList [c]).1, ba (Go.Lib.cut s.data.toList [c]).2.1, (Go.Lib.cut s.data.toList [c]).2.2) := by
 unfold strings_Cut.f
 rw [if_pos (by omega)]; rfl
theorem P208 (s : ByteArray) {k : Nat} (hs : s.size ≤ 100000000) (hk : 1000002 ≤ k) : F21.f k s = some (P22 s.data.toList) := by
 have hl : s.data.toList.length = s.size := rfl
 unfold F21.f
 rw [P139 s 47 hs]; simp only [Option.bind_some]
 rcases P110 s.data.toList with ⟨a, b, hf, ht, hr⟩ | ⟨hno, hr⟩
 ·rw [hr]
  have hb := P84 hf
  by_cases h1 : b = 1
  ·have e : s.data.toList = Go.Lib.itoa a := by rw [← ht]; unfold P9; rw [if_pos h1]
   rw [e, P78 (P83 a)]; simp only
   rw [P98 hb.1]; simp only [Option.bind_some]
   rw [if_neg (by decide), P138 s hk, if_pos ⟨rfl, by rw [← h1]; exact hf, by rw [← ht, h1]⟩, h1]
  ·have e : s.data.toList = Go.Lib.itoa a ++ 47 :: Go.Lib.itoa b := by rw [← ht]; unfold P9; rw [if_neg h1]
   rw [e, P85 _ (P83 a)]; simp only
   rw [P98 hb.1, P98 hb.2]; simp only [Option.bind_some]
   rw [if_pos trivial, if_pos (by rfl), P138 s hk, if_pos ⟨rfl, hf, ht⟩]
 ·rw [hr]
  have J : ∀ a e b, F21.j0 k s a e b = some (0, 0, false) := by
   intro a e b
   rw [P138 s hk, if_neg (fun x => hno a b x.2.1 x.2.2)]
  have L : ∀ w : List UInt8, w.length ≤ s.data.toList.length → ∃ v e, strconv_Atoi.f (ba w) = some (v, e) := fun w hw => P160 (ba w) (by rw [P5]; omega)
  rcases P115 47 s.data.toList with h | ⟨x, y, e, h⟩
  ·rw [P78 h]; simp only
   obtain ⟨v, er, h1⟩ := L s.data.toList (Nat.le_refl _)
   rw [h1]; simp only [Option.bind_some]
   rw [if_neg (by decide), J]
  ·obtain ⟨v, er, h1⟩ := L x (by rw [e]; simp)
   obtain ⟨v', er', h2⟩ := L y (by rw [e]; simp; omega)
   rw [e, P85 _ h]; simp only
   rw [h1, h2]; simp only [Option.bind_some]
   rw [if_pos trivial]
   split
   ·rw [J]
   ·rfl
theorem P91 {α : Type} (p : α → Bool) : ∀ l : List α, (∀ x ∈ l.dropWhile p, p x = true) → ∀ x ∈ l, p x = true
 | [], _ => fun x hx => by simp at hx
 | a :: l, h => by
  intro x hx
  by_cases ha : p a = true
  ·rw [List.dropWhile_cons_of_pos ha] at h
   rcases List.mem_cons.1 hx with rfl | hx
   ·exact ha
   ·exact P91 p l h x hx
  ·rw [List.dropWhile_cons_of_neg ha] at h
   exact h x hx
theorem P209 {α : Type} (p : α → Bool) : ∀ l : List α, (∀ x ∈ l, p x = true) → l.dropWhile p = []
 | [], _ => rfl
 | a :: l, h => by
  rw [List.dropWhile_cons_of_pos (h a (by simp))]
  exact P209 p l fun x hx => h x (by simp [hx])
theorem P310 {α : Type} (p : α → Bool) : ∀ l : List α, l.dropWhile p = [] → ∀ x ∈ l, p x = true :=
 fun l h => P91 p l (by rw [h]; simp)
theorem P311 (l cs : List UInt8) : Go.Lib.trimS l cs = [] ↔ ∀ c ∈ l, c ∈ cs := by
 unfold Go.Lib.trimS Go.Lib.trimLeftS Go.Lib.trimRightS
 constructor
 ·intro h
  have h1 := P310 _ _ h
  have h2 := P91 (cs.contains ·) l.reverse (fun x hx => h1 x (by simpa using hx))
  intro c hc
  simpa using h2 c (by simpa using hc)
 ·intro h
  rw [P209 (cs.contains ·) l.reverse (fun x hx => by simpa using h x (by simpa using hx))]
  rfl
theorem P312 {s : ByteArray} {cs : List UInt8} (hs : s.size ≤ 100000000) (hl : cs.length < 4294967281) (ha : cs.all (fun b => decide (b.toNat < 128)) = true) :
  strings_Trim.f s ⟨⟨cs⟩⟩ = some ⟨⟨Go.Lib.trimS s.data.toList cs⟩⟩ := by
 unfold strings_Trim.f
 rw [if_pos ⟨by omega, by simpa [ByteArray.size] using hl, ha⟩]
theorem P313 (s : ByteArray) (hs : s.size ≤ 100000000) : F84.f s = some (decide (P31 s.data.toList)) := by
 unfold F84.f
 rw [P312 hs (by decide) (by decide)]; simp only [Option.bind_some]
 have e : P31 s.data.toList ↔ Go.Lib.trimS s.data.toList [84, 116, 82] = [] := by
  rw [P311]; unfold P31 P77; simp
 by_cases h : P31 s.data.toList
 ·rw [decide_eq_true h, e.1 h, ByteArray.toList_eq]; rfl
 ·rw [decide_eq_false h]
  have h' : Go.Lib.trimS s.data.toList [84, 116, 82] ≠ [] := fun x => h (e.2 x)
  cases h2 : Go.Lib.trimS s.data.toList [84, 116, 82] with
  | nil => exact absurd h2 h'
  | cons a l => rw [ByteArray.toList_eq]; rfl
theorem P210 (s : ByteArray) (hs : s.size ≤ 100000000) : F73.f s = some (decide (P56 s)) := by
 unfold F73.f
 rw [P313 s hs]; simp only [Option.bind_some]
 have e : s.data.toList.length = s.size := rfl
 by_cases h : (s.size : Int) ≤ 40
 ·rw [if_pos h]; exact P40 ⟨fun x => ⟨by omega, x⟩, fun x => x.2⟩
 ·rw [if_neg h]; exact (P24 (fun x => by have := x.1; omega)).symm
theorem P140 (rd : Bool) (kind : Int) (t : ByteArray) {k : Nat} (hk : 1 ≤ k) (ht : t.size ≤ 100000000) (h0 : ¬ (kind = 0 ∧ P41 t.data.toList)) (hr : rd = decide (kind = 1 ∧ (P22 t.data.toList).2.2 = true)) : F11.j1 k rd kind t = some (ba (P2 kind t.data.toList)) := by
 obtain ⟨k, rfl⟩ : ∃ m, k = m + 1 := ⟨k - 1, by omega⟩
 simp only [F11.j1]
 unfold P2
 rw [if_neg h0, P95, hr]
 by_cases h1 : kind = 1 ∧ (P22 t.data.toList).2.2 = true
 ·rw [decide_eq_true h1, if_pos rfl, if_pos h1, if_pos (by omega)]
  exact congrArg some (P18 [116, 97, 107, 101, 32] t.data.toList)
 ·rw [decide_eq_false h1, if_neg (by decide), if_neg h1]
  by_cases h2 : kind = 2 ∧ t.data.toList = []
  ·rw [if_pos (by simp [h2.1, h2.2]), if_pos h2]; rfl
  ·rw [if_neg (by simpa using h2), if_neg h2]
   by_cases h3 : kind = 3 ∧ t.data.toList = []
   ·rw [if_pos (by simp [h3.1, h3.2]), if_pos h3]; rfl
   ·rw [if_neg (by simpa using h3), if_neg h3]
    by_cases h4 : kind = 4 ∧ t.data.toList = []
    ·rw [if_pos (by simp [h4.1, h4.2]), if_pos h4]; rfl
    ·rw [if_neg (by simpa using h4), if_neg h4]; rfl
theorem P141 (kind : Int) (t : ByteArray) {k : Nat} (ht : t.size ≤ 100000000) (hk : 300000010 ≤ k) : F11.f k kind t = some (ba (P2 kind t.data.toList)) := by
 obtain ⟨k, rfl⟩ : ∃ m, k = m + 1 := ⟨k - 1, by omega⟩
 unfold F11.f
 rw [P208 t ht (by omega)]; simp only [Option.bind_some]
 by_cases h0 : kind = 0
 ·rw [if_pos h0, P210 t (by omega)]; simp only [Option.bind_some, F11.j0]
  by_cases hd : P56 t
  ·rw [decide_eq_true hd, if_pos rfl, if_pos (by omega)]
   unfold P2
   rw [if_pos ⟨h0, hd⟩]
   exact congrArg some (P18 [100, 97, 110, 99, 101, 32] t.data.toList)
  ·rw [decide_eq_false hd, if_neg (by decide), if_neg (by omega)]
   exact P140 _ _ _ (by omega) ht (fun x => hd x.2) (by rw [h0]; rfl)
 ·rw [if_neg h0]; simp only [F11.j0]
  rw [if_neg (by decide)]
  by_cases h1 : kind = 1
  ·rw [if_pos h1]
   refine P140 _ _ _ (by omega) ht (fun x => h0 x.1) ?_
   rw [h1]; simp
  ·rw [if_neg h1]
   exact P140 _ _ _ (by omega) ht (fun x => h0 x.1) (by simp [h1])
def P142 (w : List UInt8) : Int := if w = [100, 97, 110, 99, 101] then 0 else if w = [116, 97, 107, 101] then 1 else if w = [109, 105, 114, 114, 111, 114] then 2 else if w = [117, 110, 116, 105, 101] then 3 else if w = [98, 97, 99, 107] then 4 else -1
theorem P314 (x : ByteArray) {k : Nat} (hk : 10 ≤ k) : F43.f k [(⟨#[100, 97, 110, 99, 101]⟩ : ByteArray), (⟨#[116, 97, 107, 101]⟩ : ByteArray), (⟨#[109, 105, 114, 114, 111, 114]⟩ : ByteArray), (⟨#[117, 110, 116, 105, 101]⟩ : ByteArray), (⟨#[98, 97, 99, 107]⟩ : ByteArray)] x
  = some (P142 x.data.toList) := by
 obtain ⟨k, rfl⟩ : ∃ m, k = m + 6 := ⟨k - 6, by omega⟩
 have w : ∀ i : Int, 0 ≤ i → i ≤ 10 → wrap64 (i + 1) = i + 1 := fun i h0 h1 => P1 (by omega) (by omega)
 unfold F43.f P142
 simp only [F43.l0, List.length_cons, List.length_nil, ByteArray.toList_eq]
 rw [w 0 (by omega) (by omega)]
 rw [w (0 + 1) (by omega) (by omega)]
 rw [w (0 + 1 + 1) (by omega) (by omega)]
 rw [w (0 + 1 + 1 + 1) (by omega) (by omega)]
 rw [w (0 + 1 + 1 + 1 + 1) (by omega) (by omega)]
 by_cases h0 : x.data.toList = [100, 97, 110, 99, 101]
 ·simp [h0, rdOf]
 ·by_cases h1 : x.data.toList = [116, 97, 107, 101]
  ·simp [h1, rdOf]
  ·by_cases h2 : x.data.toList = [109, 105, 114, 114, 111, 114]
   ·simp [h2, rdOf]
   ·by_cases h3 : x.data.toList = [117, 110, 116, 105, 101]
    ·simp [h3, rdOf]
    ·by_cases h4 : x.data.toList = [98, 97, 99, 107]
     ·simp [h4, rdOf]
     ·simp [h0, h1, h2, h3, h4, rdOf]
theorem P143 (s : ByteArray) {k : Nat} (hs : s.size ≤ 100000000) (hk : 300000010 ≤ k) : F55.f k s = some ((rdv s.data.toList).1, ba (rdv s.data.toList).2.1, (rdv s.data.toList).2.2) := by
 have hl : s.data.toList.length = s.size := rfl
 unfold F55.f
 rw [P139 s 32 hs]; simp only [Option.bind_some]
 rw [P314 _ (by omega)]; simp only [Option.bind_some]
 rw [ByteArray.toList_eq, P35]
 by_cases h0 : s.data.toList = []
 ·rw [if_pos h0, h0]; rfl
 ·rw [if_neg h0]
  generalize hw : Go.Lib.cut s.data.toList [32] = c
  generalize hkd : P142 c.1 = kd
  have hc2 : c.2.1.length ≤ s.data.toList.length := by
   rw [← hw]; unfold Go.Lib.cut; split
   ·simp
   ·simp
  rw [P141 _ _ (by rw [P5]; omega) (by omega)]; simp only [Option.bind_some]
  rw [P47, P35]
  rcases P113 s.data.toList with ⟨k', t, hne, hd, hr⟩ | ⟨hno, hr⟩
  ·rw [hr]
   have e : kd = k' ∧ c.2.1 = t := by
    rcases P114 hd hne with ⟨rfl, hs', hx⟩ | ⟨rfl, hs', hx⟩ | ⟨rfl, rfl, hs'⟩ | ⟨rfl, rfl, hs'⟩ | ⟨rfl, rfl, hs'⟩
    ·rw [hs', P85 t (by decide)] at hw; subst hw; exact ⟨by rw [← hkd]; rfl, rfl⟩
    ·rw [hs', P85 t (by decide)] at hw; subst hw; exact ⟨by rw [← hkd]; rfl, rfl⟩
    ·rw [hs', P78 (by decide)] at hw; subst hw; exact ⟨by rw [← hkd]; rfl, rfl⟩
    ·rw [hs', P78 (by decide)] at hw; subst hw; exact ⟨by rw [← hkd]; rfl, rfl⟩
    ·rw [hs', P78 (by decide)] at hw; subst hw; exact ⟨by rw [← hkd]; rfl, rfl⟩
   rw [e.1, e.2, if_pos hd]
  ·rw [hr, if_neg (fun x => h0 (hno _ _ x))]; rfl
theorem P211 {a b n : Int} {k : Nat} (hk : 1000001 ≤ k) (h : P0 a b) (hn : -1000000 ≤ n ∧ n ≤ 1000000) : F56.f k a b n = some (P37 a b n) := by
 unfold F56.f
 rw [P169 h hn, P45 _ _ hk]; simp only [Option.bind_some, decide_eq_true_eq]
 unfold P37; split <;> rfl
theorem P212 {a b : Int} {k : Nat} (h : ¬ (a = 0 ∧ b = 0)) (ha : a.natAbs ≤ 1000000) (hb : b.natAbs ≤ 1000000) (hk : 1000001 ≤ k) : F49.f k a b = some (P43 a b) := by
 unfold F49.f
 rw [P136 (by omega) (by omega) (by omega)]; simp only [Option.bind_some]
 have hg := P88 h
 have hl := P165 h
 rw [P1 (n := -((Int.gcd a b : Nat) : Int)) (by omega) (by omega)]
 unfold P43
 by_cases h1 : b < 0
 ·rw [if_pos h1, if_neg (by omega), if_pos (.inl h1), P26 (by omega), P26 (by omega)]
 ·rw [if_neg h1]
  by_cases h2 : b = 0
  ·rw [if_pos h2]
   by_cases h3 : a < 0
   ·rw [if_pos h3, if_neg (by omega), if_pos (.inr ⟨h2, h3⟩), P26 (by omega), P26 (by omega)]
   ·rw [if_neg h3, if_neg (by omega), if_neg (by omega), P26 (by omega), P26 (by omega)]
  ·rw [if_neg h2, if_neg (by omega), if_neg (by omega), P26 (by omega), P26 (by omega)]
theorem P315 {a b : Int} : P37 a b 1 = P33 (if P0 (a + b) b then some (a + b, b) else none) := by
 unfold P37; rw [Int.one_mul]; split <;> rfl
theorem P316 {a b : Int} : P37 a b (-1) = P33 (if P0 (a - b) b then some (a - b, b) else none) := by
 unfold P37; rw [show a + -1 * b = a - b by omega]; split <;> rfl
theorem P317 (s : ByteArray) (hs : s.size ≤ 40) (n : Nat) : ∀ (i : Nat) (f : Int × Int), i + n = s.size → P0 f.1 f.2 → ∀ k, n + 1000002 ≤ k →
  F31.l0 k s (s.size : Int) (i : Int) f.1 f.2 = some (P33 (P38 (s.data.toList.drop i) f)) := by
 induction n with
 | zero =>
  intro i f hi hf k hk
  obtain ⟨k, rfl⟩ : ∃ m, k = m + 1 := ⟨k - 1, by omega⟩
  simp only [F31.l0]
  rw [if_neg (by omega), P75 (by omega)]; rfl
 | succ n ih =>
  intro i f hi hf k hk
  obtain ⟨k, rfl⟩ : ∃ m, k = m + 1 := ⟨k - 1, by omega⟩
  obtain ⟨m, hd, hb⟩ := P60 (s := s) (i := i) (by omega)
  have e1 : (((m.toNat : Nat) : Int) = 84) ↔ m = 84 := P52 (n := 84) (by omega)
  have e2 : (((m.toNat : Nat) : Int) = 116) ↔ m = 116 := P52 (n := 116) (by omega)
  obtain ⟨a, b⟩ := f
  have IH := fun g hg => ih (i + 1) g (by omega) hg k (by omega)
  simp only at hf
  simp only [F31.l0]
  rw [if_pos (by omega), if_pos (by omega), if_pos (by omega), hb, hd, P1 (n := (i : Int) + 1) (by omega) (by omega), show ((i : Int) + 1) = ((i + 1 : Nat) : Int) by omega]
  simp only [P38]
  unfold P49
  simp only
  by_cases h1 : m = 84
  ·rw [if_pos (e1.2 h1), if_pos h1, P211 (by omega) hf (by omega), P315]; simp only [Option.bind_some]
   by_cases hp : P0 (a + b) b
   ·rw [if_pos hp]; simp only [P33, Option.bind_some]
    exact IH (a + b, b) hp
   ·rw [if_neg hp]; rfl
  ·rw [if_neg (fun x => h1 (e1.1 x)), if_neg h1]
   by_cases h2 : m = 116
   ·rw [if_pos (e2.2 h2), if_pos h2, P211 (by omega) hf (by omega), P316]; simp only [Option.bind_some]
    by_cases hp : P0 (a - b) b
    ·rw [if_pos hp]; simp only [P33, Option.bind_some]
     exact IH (a - b, b) hp
    ·rw [if_neg hp]; rfl
   ·have g1 := hf.1
    have g2 := hf.2.1
    have g4 := hf.2.2.2
    rw [if_neg (fun x => h2 (e2.1 x)), if_neg h2, P1 (n := -b) (by omega) (by omega), P212 (by omega) (by omega) (by omega) (by omega), P90 hf]; simp only [Option.bind_some]
    exact IH (P29 a b) (P117 hf)
theorem P318 (s : ByteArray) (hs : s.size ≤ 40) {a b : Int} (hf : P0 a b) {k : Nat} (hk : 1000100 ≤ k) : F31.f k a b s = some (P33 (P38 s.data.toList (a, b))) := by
 unfold F31.f
 have := P317 s hs s.size 0 (a, b) (by omega) hf k (by omega)
 rw [List.drop_zero] at this
 exact this
theorem P319 {a b : Int} (h : P0 a b) : F83.f a b = some (P36 a b) := by
 unfold F83.f P36
 have h1 := h.1
 split
 ·rw [P1 (by omega) (by omega)]
 ·rfl
theorem P320 (a b : Int) (t : ByteArray) {k : Nat} (ht : t.size ≤ 100000000) (hk : 1000100 ≤ k) : F69.f k a b t = some (P66 a b t.data.toList) := by
 unfold F69.f P66
 rw [P45 _ _ (by omega)]; simp only [Option.bind_some, decide_eq_true_eq]
 by_cases h : P0 a b
 ·rw [if_pos h, P210 t ht]; simp only [Option.bind_some, decide_eq_true_eq]
  by_cases h2 : P56 t
  ·have h3 : P41 t.data.toList := h2
   rw [if_pos h2, if_pos ⟨h3, h⟩, P318 t h2.1 h hk]; rfl
  ·rw [if_neg h2, if_neg (fun x => h2 x.1)]
 ·rw [if_neg h, if_neg (fun x => h x.2)]
theorem P213 (a b : Int) : decide (P8 a b 12) = (P23 a b).2 := by
 unfold P23
 by_cases h : P27 a b
 ·rw [if_pos h]; exact decide_eq_true (show P8 a b 12 from ⟨h.1, h.2.1, h.2.2⟩)
 ·rw [if_neg h]; exact decide_eq_false (fun x : P8 a b 12 => h ⟨x.1, x.2.1, x.2.2⟩)
theorem P321 (a b kind : Int) (t : ByteArray) {k : Nat} (hf : P0 a b) (ht : t.size ≤ 100000000) (hk : 1000200 ≤ k) :
  ∃ v : Int × Int × Bool, F42.f k a b kind t = some v ∧ v.2.2 = (P19 a b kind t.data.toList).2.2 ∧ (v.2.2 = true → v = P19 a b kind t.data.toList) := by
 obtain ⟨k, rfl⟩ : ∃ m, k = m + 1 := ⟨k - 1, by omega⟩
 unfold F42.f P19
 rw [P95]
 by_cases h0 : kind = 0
 ·rw [if_pos h0, if_pos h0, P320 _ _ _ ht (by omega)]
  exact ⟨_, rfl, rfl, fun _ => rfl⟩
 ·rw [if_neg h0, if_neg h0]
  by_cases h1 : kind = 1
  ·rw [if_pos h1, if_pos h1, P208 _ ht (by omega)]
   exact ⟨_, rfl, rfl, fun _ => rfl⟩
  ·rw [if_neg h1, if_neg h1]
   have j : ∀ z : Bool, F42.j0 (k + 1) z a b kind t = if z = true then some ((P36 a b).1, (P36 a b).2, true) else (if kind = 3 then (if t.toList = ([] : List UInt8) then some (0, 1, decide (P8 a b 12)) else some (0, 0, false)) else some (0, 0, false)) := by
    intro z
    simp only [F42.j0]
    rw [P319 hf, P137 a b 12 (by omega) (by omega) (by omega)]; rfl
   by_cases h2 : kind = 2
   ·rw [if_pos h2, j]
    by_cases h3 : t.data.toList = []
    ·rw [if_pos (by simpa using h3), if_pos ⟨h2, h3⟩]
     exact ⟨_, rfl, rfl, fun _ => rfl⟩
    ·rw [if_neg (by simpa using h3), if_neg (show ¬ (kind = 2 ∧ t.data.toList = []) from fun x => h3 x.2), if_neg (show ¬ kind = 3 by omega), if_neg (show ¬ (kind = 3 ∧ t.data.toList = []) from fun x => h3 x.2)]
     exact ⟨_, rfl, rfl, fun x => by cases x⟩
   ·rw [if_neg h2, j, if_neg (by decide), if_neg (show ¬ (kind = 2 ∧ t.data.toList = []) from fun x => h2 x.1)]
    by_cases h3 : kind = 3
    ·rw [if_pos h3]
     by_cases h4 : t.data.toList = []
     ·rw [if_pos (show t.toList = [] by rw [ByteArray.toList_eq]; exact h4), if_pos ⟨h3, h4⟩, P213]
      exact ⟨_, rfl, rfl, fun _ => rfl⟩
     ·rw [if_neg (show ¬ t.toList = [] by rw [ByteArray.toList_eq]; exact h4), if_neg (show ¬ (kind = 3 ∧ t.data.toList = []) from fun x => h4 x.2)]
      exact ⟨_, rfl, rfl, fun x => by cases x⟩
    ·rw [if_neg h3, if_neg (show ¬ (kind = 3 ∧ t.data.toList = []) from fun x => h3 x.1)]
     exact ⟨_, rfl, rfl, fun x => by cases x⟩
theorem P81 (a b : Int) (l : List S31) (hl : l.length ≤ 100000000) : F44.f a b l = some (a, b, l) := by
 unfold F44.f
 simp only [Option.bind_some, List.nil_append]
 rw [if_pos (by simp; omega)]
theorem P214 (a b : Int) (l : List S31) (kind : Int) (t : ByteArray) {k : Nat} (hf : P0 a b) (hl : l.length ≤ 10000000) (ht : t.size ≤ 100000000) (hk : 1000300 ≤ k) :
  F17.f k a b l kind t = some (dov a b l kind t.data.toList) := by
 obtain ⟨k, rfl⟩ : ∃ m, k = m + 1 := ⟨k - 1, by omega⟩
 unfold F17.f dov
 rw [P81 a b l (by omega)]; simp only [Option.bind_some]
 rw [P95]
 obtain ⟨v, hv, hv2, hv3⟩ := P321 a b kind t (k := k + 1) hf ht (by omega)
 by_cases h4 : kind = 4 ∧ t.data.toList = []
 ·rw [if_pos (by simp [h4.1, h4.2])]
  by_cases h5 : l = []
  ·subst h5
   have e0 : wrap64 ((([] : List S31).length : Int) - 1) = -1 := by rw [P1 (by simp) (by simp)]; simp
   rw [e0, if_pos (show (-1 : Int) < 0 by decide), if_neg (show ¬ (kind = 4 ∧ t.data.toList = [] ∧ ([] : List S31) ≠ []) from fun x => x.2.2 rfl)]
   have e : (P19 a b kind t.data.toList).2.2 = false := by
    unfold P19
    rw [if_neg (by omega), if_neg (by omega), if_neg (by omega), if_neg (by omega)]
   rw [if_neg (fun x => by rw [e] at x; exact absurd x.1 (by decide))]
  ·have hl0 : 0 < l.length := List.length_pos_iff.2 h5
   rw [P1 (by omega) (by omega), if_neg (by omega), if_pos (by omega), if_pos (by omega), if_pos (by omega), if_pos ⟨h4.1, h4.2, h5⟩, P81 _ _ _ (by rw [List.length_take]; omega), show (l.length : Int) - 1 = ((l.length - 1 : Nat) : Int) by omega]; rfl
 ·rw [if_neg (by simpa using h4), if_neg (fun x => h4 ⟨x.1, x.2.1⟩), hv]; simp only [Option.bind_some, F17.j0]
  by_cases h5 : v.2.2 = true
  ·have e := hv3 h5
   rw [if_pos h5, ← e]
   by_cases h6 : v.1 = a ∧ v.2.1 = b
   ·rw [if_pos (by simp [h6.1, h6.2]), if_neg (show ¬ (v.2.2 = true ∧ ¬ (v.1 = a ∧ v.2.1 = b)) from fun x => x.2 h6)]
   ·rw [if_neg (by simpa using h6), if_pos (by omega), if_pos (show v.2.2 = true ∧ ¬ (v.1 = a ∧ v.2.1 = b) from ⟨h5, h6⟩)]
    have e1 : (l ++ [(⟨a, b⟩ : S31)]).length = l.length + 1 := by simp
    unfold P50
    rw [e1]
    by_cases h9 : l.length + 1 > 8
    ·rw [if_pos (show ((l.length + 1 : Nat) : Int) > 8 by omega), if_pos (show 1 ≤ ((l.length + 1 : Nat) : Int) by omega), if_pos h9, P81 _ _ _ (by rw [List.length_drop, e1]; omega)]; rfl
    ·rw [if_neg (show ¬ ((l.length + 1 : Nat) : Int) > 8 by omega), if_neg h9, P81 _ _ _ (by rw [e1]; omega)]; rfl
  ·rw [if_neg h5, if_pos trivial, if_neg (fun x => h5 (hv2.trans x.1))]
theorem P322 (n : Nat) : ∀ (acc : List Int) (a b : Nat), b ≤ n → acc.length + b < 17592186044416 → a ≤ 9223372036854775807 → b ≤ 9223372036854775807 → ∀ k, n < k → F27.l0 k acc (a : Int) (b : Int) = some (acc ++ P6 a b) := by
 induction n with
 | zero =>
  intro acc a b hb hl ha _ k hk
  obtain ⟨k, rfl⟩ : ∃ m, k = m + 1 := ⟨k - 1, by omega⟩
  obtain rfl : b = 0 := by omega
  simp only [F27.l0]
  rw [if_neg (by omega), P58, List.append_nil]
 | succ n ih =>
  intro acc a b hb hl ha hb' k hk
  obtain ⟨k, rfl⟩ : ∃ m, k = m + 1 := ⟨k - 1, by omega⟩
  simp only [F27.l0]
  by_cases h : b = 0
  ·rw [if_neg (by omega), h, P58, List.append_nil]
  ·have h1 := Nat.mod_lt a (show b > 0 by omega)
   have h2 := Nat.div_le_self a b
   have h3 : (0 : Int) ≤ ((a / b : Nat) : Int) := Int.natCast_nonneg _
   rw [if_pos (by omega), if_neg (by omega), if_pos (by omega), P287, P288, P1 (by omega) (by omega), ih _ b (a % b) (by omega) (by rw [List.length_append]; simp; omega) hb' (by omega) k (by omega), P106 a h]
   simp
theorem P323 {a b : Int} {k : Nat} (ha : a.natAbs ≤ 9223372036854775807) (hb : 0 ≤ b) (hb' : b ≤ 1000000) (hk : 1000001 ≤ k) : F27.f k a b = some (P6 a.natAbs b.natAbs) := by
 unfold F27.f
 rw [P74 (by omega) (by omega)]
 have e : b = ((b.natAbs : Nat) : Int) := by omega
 have := P322 b.natAbs [] a.natAbs b.natAbs (Nat.le_refl _) (by simp; omega) ha (by omega) k (by omega)
 rw [← e] at this
 rw [this]; rfl
theorem P324 (l : List Int) (hl : l.length ≤ 1000000) (hp : ∀ x ∈ l, 0 ≤ x) (n : Nat) : ∀ (s : Int) (i : Nat), i + n = l.length → 0 ≤ s → s + (l.drop i).sum ≤ 4611686018427387904 → ∀ k, n < k → F39.l0 k s l (l.length : Int) (i : Int) = some (s + (l.drop i).sum) := by
 induction n with
 | zero =>
  intro s i hi hs hb k hk
  obtain ⟨k, rfl⟩ : ∃ m, k = m + 1 := ⟨k - 1, by omega⟩
  simp only [F39.l0]
  rw [if_neg (by omega), List.drop_of_length_le (by omega)]; simp
 | succ n ih =>
  intro s i hi hs hb k hk
  obtain ⟨k, rfl⟩ : ∃ m, k = m + 1 := ⟨k - 1, by omega⟩
  simp only [F39.l0]
  have hd := P203 l i (by omega)
  have h0 := P204 (l.drop (i + 1)) (fun x hx => hp x (List.mem_of_mem_drop hx))
  have h1 : 0 ≤ rd l (i : Int) := hp _ (List.mem_of_mem_drop (i := i) (by rw [hd]; simp))
  rw [hd, List.sum_cons] at hb
  rw [if_pos (by omega), if_pos (by omega), if_pos (by omega), P1 (by omega) (by omega), P1 (n := (i : Int) + 1) (by omega) (by omega)]
  have := ih (s + rd l (i : Int)) (i + 1) (by omega) (by omega) (by omega) k (by omega)
  rw [hd, List.sum_cons, ← Int.add_assoc, ← this]; rfl
theorem P325 (a b : Int) {k : Nat} (hk : 1000002 ≤ k) : F39.f k a b = some (P72 a b) := by
 unfold F39.f P72
 rw [P45 _ _ (by omega)]; simp only [Option.bind_some, decide_eq_true_eq]
 by_cases h : P0 a b
 ·have h1 := h.1
  have h2 := h.2.1
  rw [if_pos h, if_pos h, P323 (by omega) (by omega) (by omega) (by omega)]; simp only [Option.bind_some]
  have hl := P289 b.natAbs a.natAbs b.natAbs (Nat.le_refl _)
  have hs := P201 b.natAbs a.natAbs b.natAbs (Nat.le_refl _)
  have := P324 (P6 a.natAbs b.natAbs) (by omega) (P200 b.natAbs _ _ (Nat.le_refl _)) _ 0 0 (Nat.zero_add _) (by omega) (by rw [List.drop_zero]; omega) k (by omega)
  rw [List.drop_zero, Int.zero_add] at this
  exact this
 ·rw [if_neg h, if_neg h]
theorem P326 (a b : Int) {k : Nat} (hk : 1000002 ≤ k) : F36.f k a b = some (P12 a b) := by
 obtain ⟨k, rfl⟩ : ∃ m, k = m + 1 := ⟨k - 1, by omega⟩
 unfold F36.f
 rw [P45 _ _ (by omega)]; simp only [Option.bind_some, decide_eq_true_eq]
 have no : ¬ (P0 a b ∧ (-60 ≤ a ∧ a ≤ 60)) → F36.j0 (k + 1) true a b = some (P12 a b) := by
  intro h; simp only [F36.j0]; rw [if_pos trivial]; unfold P12; rw [if_neg h]
 by_cases h : P0 a b
 ·rw [if_pos h]
  by_cases h1 : a < -60
  ·rw [if_pos h1]; exact no (fun x => by omega)
  ·rw [if_neg h1]
   by_cases h2 : a > 60
   ·rw [decide_eq_true h2]; exact no (fun x => by omega)
   ·rw [decide_eq_false h2]; simp only [F36.j0]; rw [if_neg (by decide)]
    by_cases h0 : a = 0
    ·rw [if_pos h0]; unfold P12; rw [if_pos ⟨h, by omega⟩, if_pos h0]
    ·rw [if_neg h0]; exact P283 h (by omega) h0
 ·rw [if_neg h]; exact no (fun x => h x.1)
theorem P327 (n : Nat) : ∀ (x a b : Nat), 0 < a → b ≤ x + n → x ≤ 100 → a ≤ 100 → b ≤ 100 → ∀ k, n + 1 < k → F28.l0 k (x : Int) (a : Int) (b : Int) = some ((a : Int), ((P69 n x a b : Nat) : Int)) := by
 induction n with
 | zero =>
  intro x a b ha hb hx _ _ k hk
  obtain ⟨k, rfl⟩ : ∃ m, k = m + 1 := ⟨k - 1, by omega⟩
  simp only [F28.l0]
  rw [if_neg (by omega)]; rfl
 | succ n ih =>
  intro x a b ha hb hx ha' hb' k hk
  obtain ⟨k, rfl⟩ : ∃ m, k = m + 1 := ⟨k - 1, by omega⟩
  simp only [F28.l0, P69]
  by_cases h : x < b
  ·have hm : x * b ≤ 100 * 100 := Nat.mul_le_mul hx hb'
   rw [if_pos (by omega), if_neg (by omega), if_pos h, ← Int.natCast_mul, P1 (n := ((x * b : Nat) : Int)) (by omega) (by omega), P134]
   by_cases h1 : x * b % a = 1
   ·rw [if_pos (by omega), if_pos h1, P1 (by omega) (by omega)]
    obtain ⟨k, rfl⟩ : ∃ m, k = m + 1 := ⟨k - 1, by omega⟩
    simp only [F28.l0]
    rw [if_neg (by omega)]
   ·rw [if_neg (by omega), if_neg h1, P1 (by omega) (by omega)]
    have := ih (x + 1) a b ha (by omega) (by omega) ha' hb' k (by omega)
    rw [← this]; rfl
  ·rw [if_neg (by omega), if_neg h]
theorem P328 {a b : Int} {k : Nat} (h : P44 a b) (hk : 1000 ≤ k) : F28.f k a b = some (a, P59 a b) := by
 have hr := P198 h
 unfold F28.f P59 P133
 obtain ⟨a, rfl⟩ := Int.eq_ofNat_of_zero_le hr.1
 obtain ⟨b, rfl⟩ := Int.eq_ofNat_of_zero_le hr.2.2.1
 by_cases ha : a = 0
 ·subst ha
  have := (P282 b).1 h
  obtain rfl : b = 1 := by omega
  obtain ⟨k, rfl⟩ : ∃ m, k = m + 1 := ⟨k - 1, by omega⟩
  simp only [F28.l0]
  rw [if_neg (by omega)]; rfl
 ·exact P327 60 1 a b (by omega) (by omega) (by omega) (by omega) (by omega) k (by omega)
theorem P329 (a b c : Int) {k : Nat} (hk : 1000001 ≤ k) : F66.f k a b c = some (P71 a b c) := by
 unfold F66.f P71
 rw [P45 _ _ hk]; simp only [Option.bind_some, decide_eq_true_eq]
 by_cases h : P0 a b
 ·have h1 := h.1
  rw [if_pos h]
  by_cases c1 : c < 1
  ·rw [if_pos c1, if_neg (by omega)]
  ·rw [if_neg c1]
   by_cases c2 : c > 12
   ·rw [if_pos c2, if_neg (by omega)]
   ·rw [if_neg c2, P136 (by omega) (by omega) (by omega), if_pos (show P0 a b ∧ (1 ≤ c ∧ c ≤ 12) from ⟨h, by omega, by omega⟩)]; simp only [Option.bind_some]; rw [P286 a (by omega) (by omega)]
 ·rw [if_neg h, if_neg (fun x => h x.1)]
theorem P330 (n : Nat) : ∀ (t : List UInt8) (a b : Int) (r : List UInt8), P27 a b → t.length + n ≤ 1000 → unt n t a b = some r → ∀ k, n + 1000003 ≤ k → F37.l0 k (ba t) a b = some (ba r) := by
 induction n with
 | zero => intro t a b r _ _ h; simp [unt] at h
 | succ n ih =>
  intro t a b r hs ht h k hk
  obtain ⟨k, rfl⟩ : ∃ m, k = m + 1 := ⟨k - 1, by omega⟩
  simp only [F37.l0]
  simp only [unt] at h
  have h1 := hs.2
  have h2 := hs.1.2.1
  by_cases h0 : a = 0
  ·rw [if_pos h0] at h ⊢; cases h; rfl
  ·rw [if_neg h0] at h ⊢
   by_cases h1 : a < 0
   ·rw [if_pos h1] at h ⊢
    have hp := P171 hs h1
    rw [P5, if_pos (by omega), P1 (by omega) (by omega)]
    have := ih (t ++ [84]) (a + b) b r hp (by simp; omega) h k (by omega)
    rw [← P18] at this
    exact this
   ·rw [if_neg h1] at h ⊢
    rw [P5, if_pos (by omega), P1 (by omega) (by omega), P212 (by omega) (by omega) (by omega) (by omega), P90 hs.1]; simp only [Option.bind_some]
    have := ih (t ++ [82]) _ _ r (P170 hs) (by simp; omega) h k (by omega)
    rw [← P18] at this
    exact this
theorem P331 {a b : Int} (h : (P23 a b).2 = true) {k : Nat} (hk : 1001000 ≤ k) : F37.f k a b = some (ba (P23 a b).1) := by
 unfold F37.f
 unfold P23 at h ⊢
 by_cases hS : P27 a b
 ·rw [if_pos hS]
  obtain ⟨r, hr⟩ := P119 hS
  have := P330 100 [] a b r hS (by simp) hr k (by omega)
  rw [hr]; exact this
 ·rw [if_neg hS] at h; cases h
theorem P332 {a b : Int} (hf : P0 a b) (s : ByteArray) {k : Nat} (hs : s.size ≤ 100000000) (hk : 400000000 ≤ k) : F6.f k a b s = some (ba (P135 a b s.data.toList)) := by
 unfold F6.f P135
 simp only [ByteArray.toList_eq]
 have hsz : s.data.toList.length = s.size := rfl
 generalize hz : s.data.toList = z at *
 have num : ∀ {n : Int}, n.natAbs < 10000000 → strconv_Itoa.f n = some (ba (Go.Lib.itoa n)) := fun h => P99 (by omega)
 have ht := P295 a b
 have he := P281 a b
 by_cases q0 : z = [116, 101, 120, 116]
 ·rw [if_pos q0, if_pos q0]
  rw [P207 hf]; rfl
 ·rw [if_neg q0, if_neg q0]
  by_cases q1 : z = [109, 111, 118, 101, 115]
  ·rw [if_pos q1, if_pos q1]
   rw [P137 a b 12 (by omega) (by omega) (by omega), P213]; simp only [Option.bind_some]
   split
   ·next hu =>
    have := P298 a b
    rw [P331 hu (by omega)]; simp only [Option.bind_some]
    rw [P5, if_pos (by omega)]
    have e : (⟨#[58]⟩ : ByteArray) ++ ba (P23 a b).1 = ba (58 :: (P23 a b).1) := P18 [58] _
    rw [e]
   ·rfl
  ·rw [if_neg q1, if_neg q1]
   by_cases q2 : z = [116, 101, 114, 109, 115]
   ·rw [if_pos q2, if_pos q2]
    rw [P306 a b (by omega)]; simp only [Option.bind_some]
    unfold P197
    by_cases h : (P39 a b).2 = true
    ·rw [if_pos h, if_neg (ht.2.2.1 h), P206 _ ht.1 ht.2.1 (by omega)]; rfl
    ·rw [if_neg h, if_pos (ht.2.2.2 (by simpa using h))]; rfl
   ·rw [if_neg q2, if_neg q2]
    by_cases q3 : z = [99, 114, 111, 115, 115, 105, 110, 103, 115]
    ·rw [if_pos q3, if_pos q3]
     rw [P325 a b (by omega)]; simp only [Option.bind_some]
     rw [num (P296 a b)]; rfl
    ·rw [if_neg q3, if_neg q3]
     by_cases q4 : z = [101, 110, 100, 115]
     ·rw [if_pos q4, if_pos q4]
      rw [P307 hf (by omega)]; simp only [Option.bind_some]
      rw [P206 _ he.1 he.2.1 (by omega)]; rfl
     ·rw [if_neg q4, if_neg q4]
      by_cases q5 : z = [114, 105, 110, 103, 115]
      ·rw [if_pos q5, if_pos q5]
       rw [P308 hf (by omega)]; simp only [Option.bind_some]
       rw [num (by unfold P105; split <;> decide)]; rfl
      ·rw [if_neg q5, if_neg q5]
       by_cases q6 : z = [108, 105, 110, 107]
       ·rw [if_pos q6, if_pos q6]
        rw [P326 a b (by omega)]; simp only [Option.bind_some]
        split
        ·next hlk =>
         have hP := P300 hlk
         have hb := P299 hP
         have e0 : P70 (P12 a b).1 (P12 a b).2.1 = ((P12 a b).1, P59 (P12 a b).1 (P12 a b).2.1, true) := by unfold P70; rw [if_pos hP]
         rw [e0] at hb ⊢
         simp only at hb ⊢
         rw [P328 hP (by omega)]; simp only [Option.bind_some]
         have l1 := P53 hb.1
         have l2 := P53 hb.2
         rw [num hb.1, num hb.2]; simp only [Option.bind_some]
         have e : ∀ x : List UInt8, ba x ++ (⟨#[58]⟩ : ByteArray) = ba (x ++ [58]) := fun x => P18 x [58]
         rw [P5, if_pos (by omega), e, P5, P5, if_pos (by simp; omega), P18]
         simp
        ·rfl
       ·rw [if_neg q6, if_neg q6]
        obtain ⟨k, rfl⟩ : ∃ m, k = m + 2 := ⟨k - 2, by omega⟩
        have what : ∀ n : Int, F6.j0 (k + 2) n true a b = some (ba [119, 104, 97, 116]) := by
         intro n; simp only [F6.j0]; rw [if_pos trivial]; rfl
        unfold strings_CutPrefix.f
        simp only [Option.bind_some]
        rw [hz]
        have ez : (⟨(Go.Lib.trimPrefix z [99, 111, 108, 111, 117, 114, 115, 32]).toArray⟩ : ByteArray) = ba (Go.Lib.trimPrefix z [99, 111, 108, 111, 117, 114, 115, 32]) := rfl
        rw [ez]
        have hlen : (Go.Lib.trimPrefix z [99, 111, 108, 111, 117, 114, 115, 32]).length ≤ z.length := by
         unfold Go.Lib.trimPrefix; split <;> simp
        obtain ⟨v, er, hv⟩ := P160 (ba (Go.Lib.trimPrefix z [99, 111, 108, 111, 117, 114, 115, 32])) (by rw [P5]; omega)
        cases hcn : P55 z with
        | some n =>
         obtain ⟨b1, b2, e⟩ := P293 hcn
         have hp : Go.Lib.hasPrefix z [99, 111, 108, 111, 117, 114, 115, 32] = true := by
          unfold Go.Lib.hasPrefix; rw [e]; exact List.isPrefixOf_iff_prefix.2 ⟨_, rfl⟩
         have htp : Go.Lib.trimPrefix z [99, 111, 108, 111, 117, 114, 115, 32] = Go.Lib.itoa n := by
          unfold Go.Lib.trimPrefix; rw [if_pos hp, e]; rfl
         rw [htp, P98 (by omega)]; simp only [Option.bind_some]
         rw [if_pos hp, if_pos (by rfl), if_neg (by omega), if_neg (by omega), num (by omega)]; simp only [Option.bind_some, P47, ByteArray.toList_eq, P35]
         rw [show (Go.Lib.itoa n != Go.Lib.itoa n) = false by simp]
         simp only [F6.j0]
         rw [if_neg (by decide)]
         by_cases h1 : n < 1
         ·rw [if_pos h1, if_neg (by omega)]; simp only [F6.j1]; rw [if_pos trivial]; rfl
         ·rw [if_neg h1]
          by_cases h2 : n > 12
          ·rw [decide_eq_true h2, if_neg (by omega)]; simp only [F6.j1]; rw [if_pos trivial]; rfl
          ·rw [decide_eq_false h2, if_pos (by omega)]; simp only [F6.j1]
           rw [if_neg (by decide), P329 _ _ _ (by omega)]; simp only [Option.bind_some]
           rw [num (P297 a b n)]; rfl
        | none =>
         rw [hv]; simp only [Option.bind_some]
         by_cases hp : Go.Lib.hasPrefix z [99, 111, 108, 111, 117, 114, 115, 32] = true
         ·rw [if_pos hp]
          split
          ·split
           ·rw [what]
           ·split
            ·rw [what]
            ·next h1 h2 =>
             rw [num (by omega)]; simp only [Option.bind_some, P47, ByteArray.toList_eq, P35]
             by_cases he : Go.Lib.itoa v = Go.Lib.trimPrefix z [99, 111, 108, 111, 117, 114, 115, 32]
             ·have hz2 : z = [99, 111, 108, 111, 117, 114, 115, 32] ++ Go.Lib.itoa v := by
               rw [he]
               unfold Go.Lib.trimPrefix
               rw [if_pos hp]
               unfold Go.Lib.hasPrefix at hp
               obtain ⟨t, rfl⟩ := List.isPrefixOf_iff_prefix.1 hp
               simp
              rw [hz2, P294 (by omega) (by omega)] at hcn
              cases hcn
             ·rw [show (Go.Lib.itoa v != Go.Lib.trimPrefix z [99, 111, 108, 111, 117, 114, 115, 32]) = true by simpa using he, what]
          ·rw [what]
         ·rw [if_neg hp, what]
theorem P333 {a b : Int} {l : List S31} (hd : P13 a b l) (s : ByteArray) {k : Nat} (hs : s.size ≤ 100000000) (hk : 400000000 ≤ k) :
  F52.f k a b l s = some ((P51 a b l s.data.toList).1, (P51 a b l s.data.toList).2.1, (P51 a b l s.data.toList).2.2.1, ba (P51 a b l s.data.toList).2.2.2) := by
 have hf := hd.1
 have h8 := hd.2.1
 unfold F52.f P51
 rw [P143 s hs (by omega)]; simp only [Option.bind_some]
 by_cases hr : (rdv s.data.toList).2.2 = true
 ·have ht : (ba (rdv s.data.toList).2.1).size ≤ 100000000 := by
   have := P301 s.data.toList
   rw [P5]; have hsz : s.data.toList.length = s.size := rfl; omega
  rw [if_pos hr, if_pos hr, P214 a b l _ _ hf (by omega) ht (by omega)]; simp only [Option.bind_some, P35]
  split <;> rfl
 ·rw [if_neg hr, if_neg hr, P81 a b l (by omega)]; simp only [Option.bind_some]
  rw [P332 hf s hs hk]; rfl
theorem P334 (l : List S31) (hl : l.length ≤ 1000000000) (n : Nat) : ∀ i : Nat, i + n = l.length → ∀ k, n + 1000001 ≤ k → ∃ r, F45.l0 k l (l.length : Int) (i : Int) = some r ∧ (r ≥ 0 ↔ ¬ P32 (l.drop i)) := by
 induction n with
 | zero =>
  intro i hi k hk
  obtain ⟨k, rfl⟩ : ∃ m, k = m + 1 := ⟨k - 1, by omega⟩
  simp only [F45.l0]
  rw [if_neg (by omega), List.drop_of_length_le (by omega)]
  refine ⟨-1, rfl, ?_⟩
  constructor
  ·intro h; omega
  ·intro h; exact absurd (by intro x hx; simp at hx) h
 | succ n ih =>
  intro i hi k hk
  obtain ⟨k, rfl⟩ : ∃ m, k = m + 1 := ⟨k - 1, by omega⟩
  obtain ⟨r, h1, h2⟩ := ih (i + 1) (by omega) k (by omega)
  simp only [F45.l0]
  unfold F75.f
  rw [if_pos (by omega), if_pos (by omega), if_pos (by omega), P45 _ _ (by omega), P116 l i (by omega)]; simp only [Option.bind_some]
  by_cases h : P0 (rd_T31 l (i : Int)).f0 (rd_T31 l (i : Int)).f1
  ·rw [decide_eq_true h, if_neg (by decide), P1 (by omega) (by omega), show ((i : Int) + 1) = ((i + 1 : Nat) : Int) by omega]
   refine ⟨r, h1, ?_⟩
   rw [h2, P87]
   exact ⟨fun x y => x y.2, fun x y => x ⟨h, y⟩⟩
  ·rw [decide_eq_false h, if_pos (by decide)]
   refine ⟨_, rfl, ?_⟩
   rw [P87]
   exact ⟨fun _ y => h y.1, fun _ => by omega⟩
theorem P335 (l : List S31) (hl : l.length ≤ 1000000000) (z : Int) {k : Nat} (hk : l.length + 1000001 ≤ k) : F77.f k l z = some (decide (¬ P32 l)) := by
 unfold F77.f F45.f
 obtain ⟨r, h1, h2⟩ := P334 l hl l.length 0 (by omega) k (by omega)
 rw [List.drop_zero] at h2
 rw [show ((0 : Nat) : Int) = 0 from rfl] at h1
 rw [h1]; simp only [Option.bind_some]
 exact P40 h2
theorem P215 (a b : Int) (l : List S31) (hl : l.length ≤ 1000000000) {k : Nat} (hk : 1001000 ≤ k) : F47.f k a b l = some (decide (P13 a b l)) := by
 unfold F47.f
 rw [P45 _ _ (by omega)]; simp only [Option.bind_some, decide_eq_true_eq]
 by_cases h : P0 a b
 ·rw [if_pos h]
  by_cases h1 : (l.length : Int) ≤ 8
  ·rw [if_pos h1, P335 l hl _ (by omega)]; simp only [Option.bind_some]
   by_cases h2 : P32 l
   ·rw [decide_eq_false (not_not_intro h2), decide_eq_true (show P13 a b l from ⟨h, by omega, h2⟩)]; rfl
   ·rw [decide_eq_true h2, decide_eq_false (fun x : P13 a b l => h2 x.2.2)]; rfl
  ·rw [if_neg h1]; exact (P24 (fun x => by have := x.2.1; omega)).symm
 ·rw [if_neg h]; exact (P24 (fun x => h x.1)).symm
theorem P336 (a b : Int) (l : List S31) (s : ByteArray) {k : Nat} (hl : l.length ≤ 100000000) (hs : s.size ≤ 100000000) (hk : 400000000 ≤ k) :
  F57.f k a b l s = some ((P73 a b l s.data.toList).1, (P73 a b l s.data.toList).2.1, (P73 a b l s.data.toList).2.2.1, ba (P73 a b l s.data.toList).2.2.2) := by
 unfold F57.f P73
 rw [P215 a b l (by omega) (by omega)]; simp only [Option.bind_some, decide_eq_true_eq]
 by_cases hd : P13 a b l
 ·rw [if_pos hd, if_pos hd, P333 hd s hs hk]; rfl
 ·rw [if_neg hd, if_neg hd]; rfl
theorem P337 (C : List S38) (hC : C.length ≤ 1000000) (hz : ∀ c ∈ C, c.f1.size ≤ 100000000) (m : Nat) : ∀ (i : Nat) (n a b : Int) (l : List S31), i + m = C.length → 0 ≤ n → n ≤ i → P13 a b l → ∀ k, m + 1001000 ≤ k →
  F12.l0 k n C (C.length : Int) (i : Int) a b l = some (P34 (C.drop i) a b l n) := by
 induction m with
 | zero =>
  intro i n a b l hi h0 hn hd k hk
  obtain ⟨k, rfl⟩ : ∃ q, k = q + 1 := ⟨k - 1, by omega⟩
  simp only [F12.l0]
  rw [if_neg (by omega), List.drop_of_length_le (by omega)]; rfl
 | succ m ih =>
  intro i n a b l hi h0 hn hd k hk
  obtain ⟨k, rfl⟩ : ∃ q, k = q + 1 := ⟨k - 1, by omega⟩
  have hdr := P240 C i (by omega)
  have hm := hz _ (List.mem_of_mem_drop (i := i) (by rw [hdr]; simp) : rd_T38 C (i : Int) ∈ C)
  have h8 := hd.2.1
  simp only [F12.l0]
  rw [hdr]
  simp only [P34]
  generalize rd_T38 C (i : Int) = c at *
  rw [if_pos (by omega), if_pos (by omega), if_pos (by omega), P214 a b l c.f0 c.f1 hd.1 (by omega) hm (by omega)]; simp only [Option.bind_some]
  rw [P1 (n := (i : Int) + 1) (by omega) (by omega), P1 (n := n + 1) (by omega) (by omega), show ((i : Int) + 1) = ((i + 1 : Nat) : Int) by omega]
  split
  ·exact ih (i + 1) (n + 1) _ _ _ (by omega) (by omega) (by omega) (P100 hd) k (by omega)
  ·exact ih (i + 1) n _ _ _ (by omega) (by omega) (by omega) hd k (by omega)
theorem P338 (a b : Int) (l : List S31) (C : List S38) {k : Nat} (hl : l.length ≤ 100000000) (hz : ∀ c ∈ C, c.f1.size ≤ 100000000) (hC : C.length ≤ 100000000) (hk : 2002000 ≤ k) : F12.f k a b l C = some (P101 a b l C) := by
 obtain ⟨k, rfl⟩ : ∃ q, k = q + 1 := ⟨k - 1, by omega⟩
 unfold F12.f P101
 rw [P215 a b l (by omega) (by omega)]; simp only [Option.bind_some, decide_eq_true_eq]
 by_cases h : P13 a b l
 ·have h8 := h.2.1
  rw [if_pos h]; simp only [F12.j0, decide_eq_true_eq]
  by_cases h2 : (C.length : Int) > 40
  ·rw [if_pos h2, if_neg (fun x => by have := x.2; omega)]
  ·rw [if_neg h2, if_pos ⟨h, by omega⟩, P81 a b l hl]; simp only [Option.bind_some]
   have := P337 C (by omega) hz C.length 0 0 a b l (by omega) (by omega) (by omega) h k (by omega)
   rw [List.drop_zero] at this
   exact this
 ·rw [if_neg h]; simp only [F12.j0]
  rw [if_pos trivial, if_neg (fun x => h x.1)]
theorem P339 (s : ByteArray) (hs : s.size ≤ 50000000) (n : Nat) : ∀ (i : Nat) (out : List S38), i ≤ s.size → s.size < i + n → out.length ≤ i → ∀ k, n + 300000020 ≤ k →
  F25.l0 k s out (i : Int) = some (out ++ (rjF [] (s.data.toList.drop i)).1, ((i + (rjF [] (s.data.toList.drop i)).2 : Nat) : Int)) := by
 induction n with
 | zero => intro i out h1 h2; omega
 | succ n ih =>
  intro i out hi hn ho k hk
  obtain ⟨k, rfl⟩ : ∃ m, k = m + 1 := ⟨k - 1, by omega⟩
  have hl : s.data.toList.length = s.size := rfl
  simp only [F25.l0]
  have e : s.extract (i : Int).toNat s.size = ba (s.data.toList.drop i) := by
   rw [P64, Int.toNat_natCast, List.take_of_length_le (by rw [List.length_drop]; omega)]
  have hdl : (s.data.toList.drop i).length = s.size - i := by rw [List.length_drop]; omega
  rw [if_pos (by omega), if_pos (by omega), e]
  generalize hL : s.data.toList.drop i = L at *
  have hc := P139 (ba L) 10 (by rw [P5]; omega)
  rw [hc, P35]; simp only [Option.bind_some]
  rcases P115 10 L with h | ⟨a, b, rfl, h⟩
  ·rw [P78 h]; dsimp only
   rw [P143 _ (by rw [P5]; omega) (by omega)]; simp only [Option.bind_some]
   rw [if_neg (by decide), P161 _ _ h]; simp
  ·rw [P85 b h]; dsimp only
   have hal : a.length + 1 + b.length = s.size - i := by rw [← hdl]; simp; omega
   rw [P143 _ (by rw [P5]; omega) (by omega)]; simp only [Option.bind_some]
   rw [if_pos trivial, P35, P162 a [] b h, List.nil_append]
   by_cases hr : (rdv a).2.2 = true
   ·rw [if_pos hr, if_pos hr, if_pos (by omega), P5, P1 (n := (a.length : Int) + 1) (by omega) (by omega), P1 (by omega) (by omega), show ((i : Int) + ((a.length : Int) + 1)) = ((i + (a.length + 1) : Nat) : Int) by omega]
    have hd2 : s.data.toList.drop (i + (a.length + 1)) = b := by
     rw [← List.drop_drop, hL]
     simp
    rw [ih (i + (a.length + 1)) _ (by omega) (by omega) (by simp; omega) k (by omega), hd2]
    have e2 : (⟨(rdv a).1, ba (rdv a).2.1⟩ : S38) = rdc a := rfl
    rw [e2, List.append_assoc]
    congr 2
    simp; omega
   ·rw [if_neg hr, if_neg hr]; simp
theorem P216 (s : ByteArray) (hs : s.size ≤ 50000000) {k : Nat} (hk : 360000000 ≤ k) : F25.f k s = some ((rjF [] s.data.toList).1, ((rjF [] s.data.toList).2 : Int)) := by
 unfold F25.f
 have := P339 s hs (s.size + 1) 0 [] (by omega) (by omega) (by simp) k (by omega)
 rw [List.drop_zero] at this
 rw [show (0 : Int) = ((0 : Nat) : Int) by rfl, this]; simp
theorem P340 (l : List S38) (i : Nat) (h : i < l.length) : l.drop i = rd_T38 l (i : Int) :: l.drop (i + 1) := by
 rw [List.drop_eq_getElem_cons h]
 unfold rd_T38
 simp [h]
def P21 (l : List UInt8) : List S38 → Int × ByteArray × Bool
 | [] => (0, ⟨#[]⟩, false)
 | c :: r => if P2 c.f0 c.f1.data.toList = l then (c.f0, c.f1, true) else P21 l r
theorem P341 (s : ByteArray) (hne : s.data.toList ≠ []) (C : List S38) (hC : C.length ≤ 10) (hsz : ∀ c ∈ C, c.f1.size ≤ 100000000) (n : Nat) : ∀ i : Nat, i + n = C.length → ∀ k, n + 300000011 ≤ k →
  F5.l0 k s C (i : Int) = some (P21 s.data.toList (C.drop i)) := by
 induction n with
 | zero =>
  intro i hi k hk
  obtain ⟨k, rfl⟩ : ∃ m, k = m + 1 := ⟨k - 1, by omega⟩
  simp only [F5.l0]
  rw [if_neg (by omega), List.drop_of_length_le (by omega)]; rfl
 | succ n ih =>
  intro i hi k hk
  obtain ⟨k, rfl⟩ : ∃ m, k = m + 1 := ⟨k - 1, by omega⟩
  have hd := P340 C i (by omega)
  have hm : rd_T38 C (i : Int) ∈ C := List.mem_of_mem_drop (i := i) (by rw [hd]; simp)
  simp only [F5.l0]
  rw [if_pos (by omega), ByteArray.toList_eq, if_neg hne, if_pos (by omega), P129 _ _ (hsz _ hm) (by omega), P1 (by omega) (by omega), show ((i : Int) + 1) = ((i + 1 : Nat) : Int) by omega, ih (i + 1) (by omega) k (by omega), hd]
  simp only [Option.bind_some, P21]
  rw [P47]
  split <;> rfl
theorem P217 {l : List UInt8} : ∀ {C : List S38}, (P21 l C).2.2 = true → ∃ c ∈ C, P2 c.f0 c.f1.data.toList = l ∧ P21 l C = (c.f0, c.f1, true)
 | [], h => by simp [P21] at h
 | c :: r, h => by
  simp only [P21] at h ⊢
  by_cases hc : P2 c.f0 c.f1.data.toList = l
  ·exact ⟨c, by simp, hc, by rw [if_pos hc]⟩
  ·rw [if_neg hc] at h ⊢
   obtain ⟨d, h1, h2, h3⟩ := P217 h
   exact ⟨d, by simp [h1], h2, h3⟩
theorem P218 {l : List UInt8} : ∀ {C : List S38}, ¬ (P21 l C).2.2 = true → P21 l C = (0, ⟨#[]⟩, false) ∧ ∀ c ∈ C, P2 c.f0 c.f1.data.toList ≠ l
 | [], _ => ⟨rfl, by simp⟩
 | c :: r, h => by
  simp only [P21] at h ⊢
  by_cases hc : P2 c.f0 c.f1.data.toList = l
  ·rw [if_pos hc] at h; exact absurd rfl h
  ·rw [if_neg hc] at h ⊢
   obtain ⟨h1, h2⟩ := P218 h
   refine ⟨h1, fun d hd => ?_⟩
   rcases List.mem_cons.1 hd with rfl | hd
   ·exact hc
   ·exact h2 d hd
theorem P219 {l : List UInt8} (hne : l ≠ []) (C : List S38) (h : ∀ k t, P2 k t = l → (⟨k, ba t⟩ : S38) ∈ C) : P21 l C = ((rdv l).1, ba (rdv l).2.1, (rdv l).2.2) := by
 by_cases hf : (P21 l C).2.2 = true
 ·obtain ⟨c, _, h2, h3⟩ := P217 hf
  have := P112 (k := c.f0) (t := c.f1.data.toList) (by rw [h2]; exact hne)
  rw [h2] at this
  rw [h3, this]; rfl
 ·obtain ⟨h1, h2⟩ := P218 hf
  rcases P113 l with ⟨k, t, _, hd, _⟩ | ⟨_, hr⟩
  ·exact absurd hd (h2 _ (h k t hd))
  ·rw [h1, hr]; rfl
theorem P342 (s : ByteArray) {k : Nat} (hs : s.size ≤ 100000000) (hk : 300000100 ≤ k) : F5.f k s = some ((rdv s.data.toList).1, ba (rdv s.data.toList).2.1, (rdv s.data.toList).2.2) := by
 obtain ⟨k, rfl⟩ : ∃ m, k = m + 1 := ⟨k - 1, by omega⟩
 have hl : s.data.toList.length = s.size := rfl
 unfold F5.f
 have hc := P184 s 32 (k := k + 1) hs (by omega)
 rw [show (((32 : UInt8).toNat : Nat) : Int) = 32 from rfl] at hc
 rw [hc]; simp only [Option.bind_some, List.length_map, F5.j0]
 have hsub := P104 32 s.data.toList []
 by_cases hne : s.data.toList = []
 ·have L0 : ∀ (C : List S38) (n i k : Nat), i + n = C.length → C.length ≤ 10 → n < k → F5.l0 k s C (i : Int) = some (0, ⟨#[]⟩, false) := by
   intro C n
   induction n with
   | zero =>
    intro i k hi hC hk
    obtain ⟨k, rfl⟩ : ∃ m, k = m + 1 := ⟨k - 1, by omega⟩
    simp only [F5.l0]
    rw [if_neg (by omega)]
   | succ n ih =>
    intro i k hi hC hk
    obtain ⟨k, rfl⟩ : ∃ m, k = m + 1 := ⟨k - 1, by omega⟩
    simp only [F5.l0]
    rw [if_pos (by omega), ByteArray.toList_eq, if_pos hne, P1 (by omega) (by omega), show ((i : Int) + 1) = ((i + 1 : Nat) : Int) by omega]
    exact ih (i + 1) k (by omega) hC (by omega)
  rw [hne]
  have e : (P3 32 [] ([] : List UInt8)).length = 1 := rfl
  rw [e, if_neg (by decide)]
  exact L0 _ 3 0 k rfl (by decide) (by omega)
 ·have L := fun (C : List S38) (hC : C.length ≤ 10) (hsz : ∀ c ∈ C, c.f1.size ≤ 100000000) => P341 s hne C hC hsz C.length 0 (by omega) k (by omega)
  by_cases h2 : (P3 32 [] s.data.toList).length = 2
  ·obtain ⟨x, y, hxy⟩ : ∃ x y, P3 32 [] s.data.toList = [x, y] := by
    match h : P3 32 [] s.data.toList, h2 with
    | [x, y], _ => exact ⟨x, y, rfl⟩
   have hy := hsub y (by rw [hxy]; simp)
   rw [hxy, if_pos (by rfl), if_pos (by simp), if_pos (by simp)]
   have e1 : rdOf ByteArray.empty (List.map ba [x, y]) 1 = ba y := rfl
   rw [e1]
   refine (L _ (by simp) ?_).trans (congrArg some ?_)
   ·intro c hc
    have hy2 : (ba y).size ≤ 100000000 := by rw [P5]; simp at hy; omega
    simp at hc
    rcases hc with rfl | rfl | rfl | rfl | rfl
    ·decide
    ·decide
    ·decide
    ·exact hy2
    ·exact hy2
   ·rw [List.drop_zero]
    refine P219 hne _ fun k' t hd => ?_
    rcases P114 hd hne with ⟨rfl, hs', hx⟩ | ⟨rfl, hs', hx⟩ | ⟨rfl, rfl, hs'⟩ | ⟨rfl, rfl, hs'⟩ | ⟨rfl, rfl, hs'⟩
    ·have : y = t := by
      rw [hs', P76 _ _ _ (by decide), P65 _ _ hx] at hxy
      simp at hxy; exact hxy.2.symm
     rw [this]; simp
    ·have : y = t := by
      rw [hs', P76 _ _ _ (by decide), P65 _ _ hx] at hxy
      simp at hxy; exact hxy.2.symm
     rw [this]; simp
    ·exact .head _
    ·exact .tail _ (.head _)
    ·exact .tail _ (.tail _ (.head _))
  ·rw [if_neg (by omega)]
   refine (L _ (by decide) ?_).trans (congrArg some ?_)
   ·intro c hc
    simp at hc
    rcases hc with rfl | rfl | rfl <;> decide
   ·rw [List.drop_zero]
    refine P219 hne _ fun k' t hd => ?_
    rcases P114 hd hne with ⟨rfl, hs', hx⟩ | ⟨rfl, hs', hx⟩ | ⟨rfl, rfl, hs'⟩ | ⟨rfl, rfl, hs'⟩ | ⟨rfl, rfl, hs'⟩
    ·exact absurd (by rw [hs', P76 _ _ _ (by decide), P65 _ _ hx]; rfl) h2
    ·exact absurd (by rw [hs', P76 _ _ _ (by decide), P65 _ _ hx]; rfl) h2
    ·exact .head _
    ·exact .tail _ (.head _)
    ·exact .tail _ (.tail _ (.head _))
theorem P343 (s : ByteArray) (hs : s.size ≤ 50000000) (n : Nat) : ∀ (i j : Nat) (out : List S38), i + n = s.size → j ≤ i → out.length ≤ j → ∀ k, n + 300000200 ≤ k →
  F26.l0 k s out (j : Int) (i : Int) = some (out ++ (rjF ((s.data.toList.take i).drop j) (s.data.toList.drop i)).1, ((j + (rjF ((s.data.toList.take i).drop j) (s.data.toList.drop i)).2 : Nat) : Int)) := by
 induction n with
 | zero =>
  intro i j out hi hj ho k hk
  obtain ⟨k, rfl⟩ : ∃ m, k = m + 1 := ⟨k - 1, by omega⟩
  simp only [F26.l0]
  rw [if_neg (by omega), P75 (by omega)]
  simp [rjF]
 | succ n ih =>
  intro i j out hi hj ho k hk
  obtain ⟨k, rfl⟩ : ∃ m, k = m + 1 := ⟨k - 1, by omega⟩
  have hl : s.data.toList.length = s.size := rfl
  simp only [F26.l0]
  obtain ⟨c, hd, hb⟩ := P60 (s := s) (i := i) (by omega)
  have htk : (s.data.toList.take (i + 1)).drop j = (s.data.toList.take i).drop j ++ [c] := by
   have hlt : i < s.data.toList.length := by omega
   have hc : s.data.toList[i] = c := by
    have := List.drop_eq_getElem_cons hlt
    rw [this] at hd
    exact (List.cons.inj hd).1
   rw [List.take_succ_eq_append_getElem hlt, hc, List.drop_append_of_le_length (by rw [List.length_take]; omega)]
  rw [if_pos (by omega), if_pos (by omega), hb, hd]
  simp only [rjF]
  have hc10 : (((c.toNat : Nat) : Int) = 10) ↔ c = 10 := P52 (n := 10) (by omega)
  by_cases hc : c = 10
  ·rw [if_pos (hc10.2 hc), if_pos hc, if_pos (by omega), if_pos (by omega), if_pos (by omega)]
   have e : s.extract (j : Int).toNat (i : Int).toNat = ba ((s.data.toList.take i).drop j) := by
    rw [P64, Int.toNat_natCast, Int.toNat_natCast, List.drop_take]
   have hlen : ((s.data.toList.take i).drop j).length = i - j := by rw [List.length_drop, List.length_take]; omega
   rw [e]
   generalize hcur : (s.data.toList.take i).drop j = cur at *
   rw [P342 _ (by rw [P5]; omega) (by omega), P35]; simp only [Option.bind_some]
   by_cases hr : (rdv cur).2.2 = true
   ·rw [if_pos hr, if_pos hr, if_pos (by omega), P1 (by omega) (by omega), show ((i : Int) + 1) = ((i + 1 : Nat) : Int) by omega, ih (i + 1) (i + 1) _ (by omega) (by omega) (by simp; omega) k (by omega)]
    have e3 : (s.data.toList.take (i + 1)).drop (i + 1) = [] := List.drop_of_length_le (by rw [List.length_take]; omega)
    have e2 : (⟨(rdv cur).1, ba (rdv cur).2.1⟩ : S38) = rdc cur := rfl
    rw [e3, e2, List.append_assoc]
    congr 2
    simp; omega
   ·rw [if_neg hr, if_neg hr]; simp
  ·rw [if_neg (fun x => hc (hc10.1 x)), if_neg hc, P1 (by omega) (by omega), show ((i : Int) + 1) = ((i + 1 : Nat) : Int) by omega, ih (i + 1) j out (by omega) (by omega) ho k (by omega), htk]
theorem P344 (s : ByteArray) (hs : s.size ≤ 50000000) {k : Nat} (hk : 360000000 ≤ k) : F26.f k s = some ((rjF [] s.data.toList).1, ((rjF [] s.data.toList).2 : Int)) := by
 unfold F26.f
 have := P343 s hs s.size 0 0 [] (by omega) (by omega) (by simp) k (by omega)
 rw [List.drop_zero] at this
 rw [show (0 : Int) = ((0 : Nat) : Int) by rfl, this]; simp
theorem P345 (l : List S38) (hl : l.length ≤ 1048576) (n : Nat) : ∀ (i : Nat) (acc : List UInt8), i + n = l.length → acc.length + szd (l.drop i) + 7 * n ≤ 50000000 → ∀ k, n + 300000020 ≤ k →
  F30.l0 k l (ba acc) (i : Int) = some (P42 acc (P7 (l.drop i))) := by
 induction n with
 | zero =>
  intro i acc hi hb k hk
  obtain ⟨k, rfl⟩ : ∃ m, k = m + 1 := ⟨k - 1, by omega⟩
  simp only [F30.l0]
  rw [if_neg (by omega), List.drop_of_length_le (by omega)]
  simp [P7, P42]
 | succ n ih =>
  intro i acc hi hb k hk
  obtain ⟨k, rfl⟩ : ∃ m, k = m + 1 := ⟨k - 1, by omega⟩
  have hd := P97 l i (by omega)
  simp only [F30.l0]
  rw [hd] at hb ⊢
  generalize rd_T38 l (i : Int) = c at *
  have e : szd (c :: l.drop (i + 1)) = c.f1.size + szd (l.drop (i + 1)) := by simp [szd]
  have hlen := P96 c.f0 c.f1.data.toList
  have hcs : c.f1.data.toList.length = c.f1.size := rfl
  rw [if_pos (by omega), if_pos (by omega), P129 _ _ (by omega) (by omega)]
  simp only [Option.bind_some, P7]
  rw [P47]
  by_cases h : P2 c.f0 c.f1.data.toList = []
  ·rw [if_pos h, if_pos h]; rfl
  ·rw [if_neg h, if_neg h]
   have IH := ih (i + 1) (acc ++ (P2 c.f0 c.f1.data.toList ++ [10])) (by omega) (by simp; omega) k (by omega)
   rw [P5, P5, if_pos (by omega)]
   have e1 : (ba acc ++ ba (P2 c.f0 c.f1.data.toList)) ++ (⟨#[10]⟩ : ByteArray) = ba (acc ++ (P2 c.f0 c.f1.data.toList ++ [10])) := by rw [P18, ← List.append_assoc]; exact P18 _ [10]
   rw [e1, P18, P5, if_pos (by simp; omega)]
   rw [P1 (by omega) (by omega), show ((i : Int) + 1) = ((i + 1 : Nat) : Int) by omega, IH]
   cases P7 (l.drop (i + 1)) with
   | none => rfl
   | some x => simp [P42]
theorem P346 (l : List S38) (hl : l.length ≤ 1048576) (hb : szd l ≤ 1048576) {k : Nat} (hk : 310000000 ≤ k) : F30.f k l = some (P42 [] (P7 l)) := by
 unfold F30.f
 have := P345 l hl l.length 0 [] (by omega) (by simp; omega) k (by omega)
 rw [List.drop_zero] at this
 exact this
theorem P347 (l : List S38) (hl : l.length ≤ 1048576) (n : Nat) : ∀ (i : Nat) (acc : List UInt8), i + n = l.length → acc.length + szd (l.drop i) + 7 * n ≤ 50000000 → ∀ k, n + 300000020 ≤ k →
  F32.l0 k (ba acc) l (l.length : Int) (i : Int) = some (P42 acc (P7 (l.drop i))) := by
 induction n with
 | zero =>
  intro i acc hi hb k hk
  obtain ⟨k, rfl⟩ : ∃ m, k = m + 1 := ⟨k - 1, by omega⟩
  simp only [F32.l0]
  rw [if_neg (by omega), List.drop_of_length_le (by omega)]
  simp [P7, P42]
 | succ n ih =>
  intro i acc hi hb k hk
  obtain ⟨k, rfl⟩ : ∃ m, k = m + 1 := ⟨k - 1, by omega⟩
  have hd := P97 l i (by omega)
  simp only [F32.l0]
  rw [hd] at hb ⊢
  generalize rd_T38 l (i : Int) = c at *
  have e : szd (c :: l.drop (i + 1)) = c.f1.size + szd (l.drop (i + 1)) := by simp [szd]
  have hlen := P96 c.f0 c.f1.data.toList
  have hcs : c.f1.data.toList.length = c.f1.size := rfl
  rw [if_pos (by omega), if_pos (by omega), if_pos (by omega), P141 _ _ (by omega) (by omega)]
  simp only [Option.bind_some, P7]
  rw [P47]
  by_cases h : P2 c.f0 c.f1.data.toList = []
  ·rw [if_pos h, if_pos h]; rfl
  ·rw [if_neg h, if_neg h]
   have IH := ih (i + 1) (acc ++ (P2 c.f0 c.f1.data.toList ++ [10])) (by omega) (by simp; omega) k (by omega)
   have e1 : ba (P2 c.f0 c.f1.data.toList) ++ (⟨#[10]⟩ : ByteArray) = ba (P2 c.f0 c.f1.data.toList ++ [10]) := P18 _ [10]
   rw [P5, if_pos (by omega), e1, P5, P5, if_pos (by simp; omega), P18]
   rw [P1 (by omega) (by omega), show ((i : Int) + 1) = ((i + 1 : Nat) : Int) by omega, IH]
   cases P7 (l.drop (i + 1)) with
   | none => rfl
   | some x => simp [P42]
theorem P348 (l : List S38) (hl : l.length ≤ 1048576) (hb : szd l ≤ 1048576) {k : Nat} (hk : 310000000 ≤ k) : F32.f k l = some (P42 [] (P7 l)) := by
 unfold F32.f
 have := P347 l hl l.length 0 [] (by omega) (by simp; omega) k (by omega)
 rw [List.drop_zero] at this
 exact this
theorem P349 (a b : Int) (l : List S31) (hl : l.length ≤ 1000000) (n : Nat) : ∀ i : Nat, i + n = l.length → ∀ k, n < k → F23.l0 k (i : Int) a b l a b l = some true := by
 induction n with
 | zero =>
  intro i hi k hk
  obtain ⟨k, rfl⟩ : ∃ m, k = m + 1 := ⟨k - 1, by omega⟩
  simp only [F23.l0]
  rw [if_neg (by omega)]
 | succ n ih =>
  intro i hi k hk
  obtain ⟨k, rfl⟩ : ∃ m, k = m + 1 := ⟨k - 1, by omega⟩
  simp only [F23.l0]
  rw [if_pos (by omega), if_pos (by omega), if_pos (by omega), if_neg (by simp), P1 (by omega) (by omega), show ((i : Int) + 1) = ((i + 1 : Nat) : Int) by omega]
  exact ih (i + 1) (by omega) k (by omega)
theorem P350 (a b : Int) (l : List S31) {k : Nat} (hl : l.length ≤ 1000000) (hk : l.length + 2 ≤ k) : F23.f k a b l a b l = some true := by
 obtain ⟨k, rfl⟩ : ∃ m, k = m + 1 := ⟨k - 1, by omega⟩
 unfold F23.f
 rw [if_neg (by simp), show ((l.length : Int) != (l.length : Int)) = false by simp]
 simp only [F23.j0]
 rw [if_neg (by decide)]
 exact P349 a b l hl l.length 0 (by omega) k (by omega)
theorem P351 (l : List S38) (hl : l.length ≤ 1000000000) (n : Nat) : ∀ (i : Nat), i + n = l.length → ∀ k, n < k → F35.l0 k l l (i : Int) = some true := by
 induction n with
 | zero =>
  intro i hi k hk
  obtain ⟨k, rfl⟩ : ∃ m, k = m + 1 := ⟨k - 1, by omega⟩
  simp only [F35.l0]
  rw [if_neg (by omega)]
 | succ n ih =>
  intro i hi k hk
  obtain ⟨k, rfl⟩ : ∃ m, k = m + 1 := ⟨k - 1, by omega⟩
  simp only [F35.l0]
  rw [if_pos (by omega), if_pos (by omega), if_pos (by omega), if_neg (by simp), P1 (by omega) (by omega)]
  exact ih (i + 1) (by omega) k (by omega)
theorem P220 (l : List S38) {k : Nat} (hl : l.length ≤ 1000000000) (hk : l.length < k) : F35.f k l l = some true := by
 unfold F35.f
 rw [if_pos rfl]
 exact P351 l hl _ 0 (Nat.zero_add _) k hk
theorem P144 {k : Nat} (hk : 1000001 ≤ k) : F62.f k = some true := by
 unfold F62.f F67.f
 simp only [P45 _ _ hk, Option.bind_some]
 rw [if_pos (by decide)]
 congr 1
theorem P352 {l : List Int} (h : ∀ x ∈ l, (Lit.int .u8 x).wf = true) {k : Nat} (hk : 310000000 ≤ k) : ∃ t, F78.f k l = some t ∧ t.size ≤ 40000 := by
 unfold F78.f
 obtain ⟨s, hs, hr⟩ := P149 h
 rw [hs]; simp only [Option.bind_some]
 obtain ⟨L, q, hL, hlen, hz, q0, q1⟩ := P257 (k := k) hr (p := 0) (by omega) (by omega) (by omega)
 rw [hL]; simp only [Option.bind_some]
 have hsz : szd L ≤ 300 * L.length := by
  clear hL hlen
  induction L with
  | nil => simp [szd]
  | cons c r ih =>
   have h1 := (hz c (by simp)).1
   have h2 := ih (fun d hd => hz d (by simp [hd]))
   have e : szd (c :: r) = c.f1.size + szd r := by simp [szd]
   rw [e, List.length_cons]; omega
 rw [P346 L (by omega) (by omega) (by omega)]; simp only [Option.bind_some]
 obtain ⟨x, hx⟩ := P163 L (fun c hc => (hz c hc).2)
 have hxl := P164 L x hx
 have hT : (P42 [] (P7 L)).size ≤ 31000 := by
  rw [hx]; show (ba ([] ++ x)).size ≤ _; rw [P5]; simp; omega
 generalize P42 [] (P7 L) = t at *
 obtain ⟨v, hv, v0, v1, _⟩ := P17 (k := k) (p := q) 3 hr (by omega) (by omega) (by omega)
 rw [hv]; simp only [Option.bind_some]
 split
 ·obtain ⟨d, q', hd, hds, _, _⟩ := P245 (k := k) (p := q + 1) t hr (by omega) (by omega) (by omega) (by omega)
  rw [hd]; exact ⟨d, rfl, by omega⟩
 ·split
  ·rw [P1 (by omega) (by omega)]
   obtain ⟨w, hw, w0, w1, _⟩ := P17 (k := k) (p := q + 1) ((t.size : Int) + 1) hr (by omega) (by omega) (by omega)
   have w1 := w1 (by omega)
   rw [hw]; simp only [Option.bind_some]
   rw [if_pos w0, if_pos (by omega)]
   exact ⟨_, rfl, by rw [ByteArray.size_extract]; omega⟩
  ·exact ⟨_, rfl, by omega⟩
theorem P353 (l : List S38) (i : Nat) (h : i < l.length) : l.drop i = rd_T38 l (i : Int) :: l.drop (i + 1) := P97 l i h
theorem P354 {a b : Int} {l : List S31} {c : S38} (h : P2 c.f0 c.f1.data.toList ≠ []) : P51 a b l (P2 c.f0 c.f1.data.toList) = ((dov a b l c.f0 c.f1.data.toList).1, (dov a b l c.f0 c.f1.data.toList).2.1, (dov a b l c.f0 c.f1.data.toList).2.2.1, if (dov a b l c.f0 c.f1.data.toList).2.2.2 = true then [111, 107] else [110, 111, 116]) := by
 unfold P51
 rw [P112 h, if_pos rfl]
theorem P221 (s : ByteArray) (L : List S38) (n : Nat) (a b : Int) (l : List S31) (x y : Int) (z : List S31) (hL : L.length ≤ 1000000) (hz : ∀ c ∈ L, c.f1.size ≤ 100000000) (hs : szd L ≤ 1048576) (hn : n ≤ s.size) (hj : P7 L = some (s.data.toList.take n)) (hl : l.length ≤ 9)
  (hd : P13 a b l → (x, y, z) = P16 L a b l) {k i : Nat} (hk : 310001000 ≤ k) : laws_FnReadJournal.j4 k s L (n : Int) (i : Int) false a b l x y z = some true := by
 obtain ⟨k, rfl⟩ : ∃ m, k = m + 1 := ⟨k - 1, by omega⟩
 simp only [laws_FnReadJournal.j4]
 rw [if_neg (by decide), P338 a b l L (by omega) hz (by omega) (by omega)]; simp only [Option.bind_some]
 rw [if_pos (by omega), P348 L (by omega) hs (by omega), hj]; simp only [Option.bind_some]
 have e : (P42 [] (some (s.data.toList.take n))).toList = (s.extract 0 (n : Int).toNat).toList := by
  rw [P64]; simp [P42, P47]
 rw [if_pos (by omega), if_pos e, P131 a b l (by omega) (by omega)]; simp only [Option.bind_some, decide_eq_true_eq]
 by_cases h : P13 a b l
 ·rw [if_pos h]
  by_cases h4 : (L.length : Int) > 40
  ·rw [if_pos h4, P144 (by omega)]; rfl
  ·have hr : P101 a b l L = P34 L a b l 0 := by unfold P101; rw [if_pos ⟨h, by omega⟩]
   obtain ⟨r1, r2, r3⟩ := P123 L a b l 0
   have hok := P176 L h
   have hx := hd h
   rw [if_neg h4, hr, r1, r2, r3, show x = (P16 L a b l).1 by rw [← hx], show y = (P16 L a b l).2.1 by rw [← hx], show z = (P16 L a b l).2.2 by rw [← hx]]
   have h8 := hok.2.1
   rw [P350 _ _ _ (by omega) (by omega)]; simp only [Option.bind_some]
   rw [if_pos trivial, P144 (by omega)]; rfl
 ·rw [if_neg h, P144 (by omega)]; rfl
theorem P355 (s : ByteArray) (L : List S38) (n : Nat) (a b : Int) (l : List S31) (hL : L.length ≤ 1000000) (hz : ∀ c ∈ L, P2 c.f0 c.f1.data.toList ≠ [] ∧ c.f1.size ≤ 10000000) (hs : szd L ≤ 1048576) (hn : n ≤ s.size) (hj : P7 L = some (s.data.toList.take n)) (hl : l.length ≤ 9) (m : Nat) : ∀ (i : Nat) (x y : Int) (z : List S31), i + m = L.length → (P13 a b l → P13 x y z ∧ P16 (L.drop i) x y z = P16 L a b l) → ∀ k, 2 * m + 400002000 < k →
  laws_FnReadJournal.l1 k s L (n : Int) (i : Int) a b l x y z = some true := by
 induction m with
 | zero =>
  intro i x y z hi hd k hk
  obtain ⟨k, rfl⟩ : ∃ q, k = q + 1 := ⟨k - 1, by omega⟩
  simp only [laws_FnReadJournal.l1]
  rw [if_neg (by omega)]
  refine P221 s L n a b l x y z hL (fun c hc => by have := (hz c hc).2; omega) hs hn hj hl (fun h => ?_) (by omega)
  have := (hd h).2
  rw [List.drop_of_length_le (by omega)] at this
  exact this
 | succ m ih =>
  intro i x y z hi hd k hk
  obtain ⟨k, rfl⟩ : ∃ q, k = q + 2 := ⟨k - 2, by omega⟩
  have hdr := P353 L i (by omega)
  have hm := hz _ (List.mem_of_mem_drop (i := i) (by rw [hdr]; simp) : rd_T38 L (i : Int) ∈ L)
  simp only [laws_FnReadJournal.l1]
  rw [if_pos (by omega), P131 a b l (by omega) (by omega)]; simp only [Option.bind_some]
  by_cases h : P13 a b l
  ·obtain ⟨hp, hr⟩ := hd h
   have h8 := hp.2.1
   rw [decide_eq_true h]
   simp only [laws_FnReadJournal.j4]
   rw [if_pos trivial, if_pos (by omega), if_pos (by omega)]
   rw [hdr] at hr
   simp only [P16] at hr
   generalize rd_T38 L (i : Int) = c at *
   unfold F60.f
   rw [P141 c.f0 c.f1 (by omega) (by omega)]; simp only [Option.bind_some]
   have hdl := P96 c.f0 c.f1.data.toList
   have hsz : c.f1.data.toList.length = c.f1.size := rfl
   rw [P336 x y z _ (by omega) (by rw [P5]; omega) (by omega), P35]; simp only [Option.bind_some]
   have e : P73 x y z (P2 c.f0 c.f1.data.toList) = P51 x y z (P2 c.f0 c.f1.data.toList) := by unfold P73; rw [if_pos hp]
   rw [e, P354 hm.1]; simp only
   have next := ih (i + 1) _ _ _ (by omega) (fun _ => ⟨P100 (kind := c.f0) (t := c.f1.data.toList) hp, hr⟩) k (by omega)
   rw [P1 (by omega) (by omega), show ((i : Int) + 1) = ((i + 1 : Nat) : Int) by omega, P47]
   by_cases ho : (dov x y z c.f0 c.f1.data.toList).2.2.2 = true
   ·rw [if_pos ho, if_pos rfl]; exact next
   ·rw [if_neg ho, if_neg (by decide), if_pos rfl]; exact next
  ·rw [decide_eq_false h]
   exact P221 s L n a b l x y z hL (fun c hc => by have := (hz c hc).2; omega) hs hn hj hl (fun h' => absurd h' h) (by omega)
theorem P356 (more : List Int) (hmore : ∀ x ∈ more, (Lit.int .u8 x).wf = true) (s : ByteArray) (hs : s.size ≤ 40000) (m : Nat) : ∀ (i : Nat), i + m = s.size + 1 → ∀ k, m + 500000000 < k →
  laws_FnReadJournal.l0 k more s (rjF [] s.data.toList).1 ((rjF [] s.data.toList).2 : Int) (i : Int) = some true := by
 have hl : s.data.toList.length = s.size := rfl
 have hlen := P86 s.data.toList []
 simp only [List.length_nil, Nat.zero_add] at hlen
 induction m with
 | zero =>
  intro i hi k hk
  obtain ⟨k, rfl⟩ : ∃ q, k = q + 1 := ⟨k - 1, by omega⟩
  simp only [laws_FnReadJournal.l0]
  obtain ⟨a, b, p, C, hd, hp, hC, hz⟩ := P269 (k := k) hmore (by omega)
  rw [if_neg (by omega), hd]; simp only [Option.bind_some]
  obtain ⟨i1, i2⟩ := P122 s.data.toList []
  simp only [List.length_nil, Nat.zero_add] at i1 i2
  have hj := P121 s.data.toList []
  rw [List.nil_append] at hj
  exact P355 s _ _ a b p (by omega) (fun c hc => ⟨(i1 c hc).1, by have := (i1 c hc).2; omega⟩) (by omega) (by omega) hj hp _ 0 a b p (Nat.zero_add _) (fun h => ⟨h, by rw [List.drop_zero]⟩) k (by omega)
 | succ m ih =>
  intro i hi k hk
  obtain ⟨k, rfl⟩ : ∃ q, k = q + 1 := ⟨k - 1, by omega⟩
  simp only [laws_FnReadJournal.l0]
  have e : s.extract 0 (i : Int).toNat = ba (s.data.toList.take i) := by rw [P64]; simp
  have hi2 := P86 (s.data.toList.take i) []
  obtain ⟨q, hq⟩ := P120 s.data.toList [] i
  rw [if_pos (by omega), if_pos (by omega), e, P216 _ (by rw [P5, List.length_take]; omega) (by omega), P35]; simp only [Option.bind_some]
  generalize hA : rjF [] (s.data.toList.take i) = A at *
  generalize rjF [] s.data.toList = B at *
  have h1 : A.1.length ≤ B.1.length := by rw [hq, List.length_take]; omega
  have h2 : B.1.take A.1.length = A.1 := by
   rw [hq, List.length_take]
   by_cases hc : q ≤ B.1.length
   ·rw [Nat.min_eq_left hc]
   ·rw [Nat.min_eq_right (by omega), List.take_of_length_le (by omega), List.take_of_length_le (by omega)]
  have hmn : mn (A.1.length : Int) (B.1.length : Int) = (A.1.length : Int) := by unfold mn; split <;> omega
  simp only [List.length_nil, Nat.zero_add, List.length_take] at hi2
  rw [if_neg (by omega), hmn, if_pos (by omega), if_pos (by omega), Int.toNat_natCast, h2, P220 _ (by omega) (by omega)]; simp only [Option.bind_some]
  rw [if_pos trivial, if_neg (by omega), P1 (by omega) (by omega), show ((i : Int) + 1) = ((i + 1 : Nat) : Int) by omega]
  exact ih (i + 1) (by omega) k (by omega)
theorem FnReadJournal : laws_FnReadJournal.Pure := by
 intro l more _ _ hw _ _ hm
 refine ⟨600000000, ?_⟩
 have top : ∀ b : Bool, laws_FnReadJournal.j0 600000000 l more b = some true := by
  intro b
  simp only [laws_FnReadJournal.j0]
  by_cases hb : b = true
  ·rw [if_pos hb]
  ·obtain ⟨t, ht, hsz⟩ := P352 (k := 599999999) hw (by omega)
   rw [if_neg hb, ht]; simp only [Option.bind_some]
   rw [P216 t (by omega) (by omega), P344 t (by omega) (by omega)]; simp only [Option.bind_some]
   have hlen := P86 t.data.toList []
   have hl : t.data.toList.length = t.size := rfl
   simp only [List.length_nil, Nat.zero_add] at hlen
   rw [P220 _ (by omega) (by omega)]; simp only [Option.bind_some]
   rw [if_pos trivial, show (((rjF [] t.data.toList).2 : Int) != ((rjF [] t.data.toList).2 : Int)) = false by simp]
   simp only [laws_FnReadJournal.j1]
   rw [if_neg (by decide)]
   exact P356 more hm t hsz (t.size + 1) 0 (by omega) _ (by omega)
 unfold laws_FnReadJournal.f
 split <;> exact top _
end Go.Proofs.YtofmlbgfcohhoaaGreatDoor.Pure
