/- FnExactMirrorDance: the program's MirrorDance answers as the reference's does, for all arguments. -/
import Derived.Lib.AtoiAll
import Derived.Lib.ItoaNum
import Derived.Test.YtgbnlaalfebaeaaDoorPFnExactMirrorDancex0
import Derived.Test.YtgbnlaalfebaeaaDoorPFnExactMirrorDancex1
set_option linter.unusedVariables false
set_option linter.unusedSimpArgs false
namespace Go.Proofs.YtgbnlaalfebaeaaDoor.Pure
open Go.RowKit Go.Proofs.YtgbnlaalfebaeaaDoor.PFnExactMirrorDance Go.Proofs.YtgbnlaalfebaeaaDoorW.PrintWords Go.Proofs.YtgbnlaalfebaeaaDoorW.PrintLast Go.Proofs.YtgbnlaalfebaeaaDoorW.PrintMore Go.Proofs.YtgbnlaalfebaeaaDoor.Lib

-- base
theorem wrap64_in {n : Int} (h : -9223372036854775808 ≤ n) (h' : n ≤ 9223372036854775807) : wrap64 n = n := by unfold wrap64; omega
theorem i64_of_wf {n : Int} (h : (Lit.int .i64 n).wf = true) : -9223372036854775808 ≤ n ∧ n ≤ 9223372036854775807 := by
  simpa [Lit.wf, IntKind.min, IntKind.max, IntKind.signed, IntKind.bits] using h
theorem bigk : ∃ k : Nat, 1000000000 ≤ k := ⟨1000000000, Nat.le_refl _⟩
theorem dec_true {p : Prop} [Decidable p] (h : p) : some (decide p) = some true := by simp [h]
theorem dec_false {p : Prop} [Decidable p] (h : ¬ p) : some (decide p) = some false := by simp [h]
theorem dec_iff {p q : Prop} [Decidable p] [Decidable q] (h : p ↔ q) : some (decide p) = some (decide q) := by simp [h]
theorem ite_to {c : Prop} [Decidable c] {α : Type} {x y z : α} (h1 : c → x = z) (h2 : ¬ c → y = z) : (if c then x else y) = z := by
  by_cases h : c
  · rw [if_pos h]; exact h1 h
  · rw [if_neg h]; exact h2 h

-- bytes
theorem bt_drop {s : ByteArray} {i : Nat} (h : i < s.size) : ∃ c : UInt8, s.data.toList.drop i = c :: s.data.toList.drop (i + 1) ∧ bt s (i : Int) = ((c.toNat : Nat) : Int) := by
  have hl : i < s.data.toList.length := by simpa using h
  refine ⟨s.data.toList[i], List.drop_eq_getElem_cons hl, ?_⟩
  unfold bt
  rw [dif_pos (by simpa using h)]
  simp
  rfl
theorem drop_end {s : ByteArray} {i : Nat} (h : s.size ≤ i) : s.data.toList.drop i = [] := List.drop_of_length_le (by simpa using h)
theorem toList_length (s : ByteArray) : s.data.toList.length = s.size := by simp
theorem u8_eq {c : UInt8} {n : Nat} (hn : n < 256) : ((c.toNat : Nat) : Int) = (n : Int) ↔ c = UInt8.ofNat n := by
  constructor
  · intro h
    apply UInt8.toNat_inj.1
    rw [UInt8.toNat_ofNat']
    omega
  · intro h
    subst h
    rw [UInt8.toNat_ofNat']
    omega

-- dancemath
def MoveP (c : UInt8) : Prop := c = 84 ∨ c = 116 ∨ c = 82
instance (c : UInt8) : Decidable (MoveP c) := by unfold MoveP; infer_instance
def AllM (l : List UInt8) : Prop := ∀ c ∈ l, MoveP c
instance (l : List UInt8) : Decidable (AllM l) := by unfold AllM; infer_instance
theorem allM_nil : AllM [] := by intro c h; simp at h
theorem allM_cons (c : UInt8) (l : List UInt8) : AllM (c :: l) ↔ MoveP c ∧ AllM l := by unfold AllM; simp
/-- A dance: of at most 40 moves. -/
def DanceL (l : List UInt8) : Prop := l.length ≤ 40 ∧ AllM l
instance (l : List UInt8) : Decidable (DanceL l) := by unfold DanceL; infer_instance
def DanceP (s : ByteArray) : Prop := DanceL s.data.toList
instance (s : ByteArray) : Decidable (DanceP s) := by unfold DanceP; infer_instance

-- digmath
/-- A digit. -/
def DigP (c : UInt8) : Prop := 48 ≤ c.toNat ∧ c.toNat ≤ 57
instance (c : UInt8) : Decidable (DigP c) := by unfold DigP; infer_instance
theorem dig_of {n : Nat} (h : n < 10) : DigP (UInt8.ofNat (48 + n)) ∧ (UInt8.ofNat (48 + n)).toNat = 48 + n := by
  have : (UInt8.ofNat (48 + n)).toNat = 48 + n := by rw [UInt8.toNat_ofNat']; omega
  exact ⟨by unfold DigP; omega, this⟩
theorem dd_small {u : Nat} (h : u < 10) : Go.Lib.decDigits u = [UInt8.ofNat (48 + u)] := by rw [Go.Lib.decDigits, dif_pos h]
theorem dd_big {u : Nat} (h : ¬ u < 10) : Go.Lib.decDigits u = Go.Lib.decDigits (u / 10) ++ [UInt8.ofNat (48 + u % 10)] := by rw [Go.Lib.decDigits, dif_neg h]
theorem dd_all (n : Nat) : ∀ u, u < n → ∀ c ∈ Go.Lib.decDigits u, DigP c := by
  induction n with
  | zero => intro u hu; omega
  | succ n ih =>
    intro u hu c hc
    by_cases h : u < 10
    · rw [dd_small h] at hc
      simp only [List.mem_singleton] at hc
      subst hc; exact (dig_of h).1
    · rw [dd_big h] at hc
      rcases List.mem_append.1 hc with h1 | h1
      · exact ih (u / 10) (by omega) c h1
      · simp only [List.mem_singleton] at h1
        subst h1; exact (dig_of (Nat.mod_lt _ (by omega))).1
theorem dd_digits (u : Nat) : ∀ c ∈ Go.Lib.decDigits u, DigP c := dd_all (u + 1) u (by omega)
theorem dd_length (n : Nat) : ∀ u, u < 10 ^ (n + 1) → (Go.Lib.decDigits u).length ≤ n + 1 := by
  induction n with
  | zero => intro u hu; rw [dd_small (by omega)]; simp
  | succ n ih =>
    intro u hu
    by_cases h : u < 10
    · rw [dd_small h]; simp
    · rw [dd_big h]
      have := ih (u / 10) (by rw [Nat.pow_succ] at hu; omega)
      simp; omega
theorem dd_pos (u : Nat) : 1 ≤ (Go.Lib.decDigits u).length := by
  by_cases h : u < 10
  · rw [dd_small h]; simp
  · rw [dd_big h]; simp
/-- The value of digits, from a value on. -/
def digF (a : Nat) (l : List UInt8) : Nat := l.foldl (fun a c => 10 * a + (c.toNat - 48)) a
theorem digF_append (a : Nat) (l m : List UInt8) : digF a (l ++ m) = digF (digF a l) m := by unfold digF; rw [List.foldl_append]
theorem dd_value (n : Nat) : ∀ u, u < n → digF 0 (Go.Lib.decDigits u) = u := by
  induction n with
  | zero => intro u hu; omega
  | succ n ih =>
    intro u hu
    by_cases h : u < 10
    · rw [dd_small h]; show 10 * 0 + ((UInt8.ofNat (48 + u)).toNat - 48) = u; rw [(dig_of h).2]; omega
    · rw [dd_big h, digF_append, ih (u / 10) (by omega)]
      show 10 * (u / 10) + ((UInt8.ofNat (48 + u % 10)).toNat - 48) = u
      rw [(dig_of (Nat.mod_lt _ (by omega))).2]; omega
theorem dd_val (u : Nat) : digF 0 (Go.Lib.decDigits u) = u := dd_value (u + 1) u (by omega)
theorem dd_head (n : Nat) : ∀ u, u < n → 1 ≤ u → ∃ c r, Go.Lib.decDigits u = c :: r ∧ c.toNat ≠ 48 := by
  induction n with
  | zero => intro u hu; omega
  | succ n ih =>
    intro u hu h1
    by_cases h : u < 10
    · rw [dd_small h]; exact ⟨_, [], rfl, by rw [(dig_of h).2]; omega⟩
    · obtain ⟨c, r, e, hc⟩ := ih (u / 10) (by omega) (by omega)
      rw [dd_big h, e]; exact ⟨c, _, rfl, hc⟩
theorem dd_first (u : Nat) : ∃ c r, Go.Lib.decDigits u = c :: r ∧ DigP c ∧ (1 ≤ u → c.toNat ≠ 48) ∧ (u < 10 → r = []) := by
  by_cases h : u < 10
  · rw [dd_small h]; exact ⟨_, [], rfl, (dig_of h).1, fun h1 => by rw [(dig_of h).2]; omega, fun _ => rfl⟩
  · obtain ⟨c, r, e, hc⟩ := dd_head (u + 1) u (by omega) (by omega)
    exact ⟨c, r, e, dd_digits u c (by rw [e]; simp), fun _ => hc, fun x => absurd x h⟩
/-- Digits read, from a value on; false at another byte. -/
def digL : Int → List UInt8 → Int × Bool
  | a, [] => (a, true)
  | a, c :: r => if DigP c then digL (10 * a + ((c.toNat : Int) - 48)) r else (0, false)
theorem digL_all (l : List UInt8) (h : ∀ c ∈ l, DigP c) : ∀ a : Nat, digL (a : Int) l = (((digF a l : Nat) : Int), true) := by
  induction l with
  | nil => intro a; rfl
  | cons c r ih =>
    intro a
    have hc := h c (by simp)
    simp only [digL]
    rw [if_pos hc]
    have hc' := hc
    unfold DigP at hc'
    rw [show 10 * (a : Int) + ((c.toNat : Int) - 48) = ((10 * a + (c.toNat - 48) : Nat) : Int) by omega, ih (fun c hc => h c (by simp [hc]))]
    rfl
/-- What the reference reads as a number: without a sign. -/
def digs0 (l : List UInt8) : Int × Bool := if (1 ≤ l.length ∧ l.length ≤ 7) ∧ ¬ (1 < l.length ∧ l.head? = some 48) then digL 0 l else (0, false)
/-- What the reference reads as a number. -/
def digsv : List UInt8 → Int × Bool
  | [] => digs0 []
  | [c] => digs0 [c]
  | c :: d :: r => if c = 45 then (-(digsv (d :: r)).1, (digsv (d :: r)).2 && decide ((digsv (d :: r)).1 > 0)) else digs0 (c :: d :: r)
theorem digs0_dd {u : Nat} (h : u < 10000000) : digs0 (Go.Lib.decDigits u) = ((u : Int), true) := by
  unfold digs0
  have h1 := dd_pos u
  have h2 := dd_length 6 u (by omega)
  obtain ⟨c, r, e, hc, hz, hr⟩ := dd_first u
  have no : ¬ (1 < (Go.Lib.decDigits u).length ∧ (Go.Lib.decDigits u).head? = some 48) := by
    rintro ⟨hl, hh⟩
    rw [e] at hl hh
    simp only [List.head?_cons, Option.some.injEq] at hh
    by_cases hu : u < 10
    · rw [hr hu] at hl; simp at hl
    · exact hz (by omega) (by rw [hh]; rfl)
  rw [if_pos ⟨⟨h1, by omega⟩, no⟩]
  have := digL_all _ (dd_digits u) 0
  rw [dd_val] at this
  exact this
theorem digsv_plain {l : List UInt8} (h : ∀ c ∈ l, DigP c) : digsv l = digs0 l := by
  match l, h with
  | [], _ => rfl
  | [c], _ => rfl
  | c :: d :: r, h =>
    simp only [digsv]
    rw [if_neg]
    intro x
    have := (h c (by simp)).1
    rw [x] at this
    exact absurd this (by decide)
theorem digsv_itoa {n : Int} (h : n.natAbs < 10000000) : digsv (Go.Lib.itoa n) = (n, true) := by
  unfold Go.Lib.itoa
  by_cases hn : n < 0
  · rw [if_pos hn]
    obtain ⟨c, r, e, _⟩ := dd_first n.natAbs
    have h1 := digsv_plain (dd_digits n.natAbs)
    rw [digs0_dd h] at h1
    rw [e] at h1 ⊢
    simp only [digsv]
    rw [if_pos trivial, h1]
    simp only [Prod.mk.injEq, Bool.true_and, decide_eq_true_eq]
    omega
  · rw [if_neg hn, digsv_plain (dd_digits _), digs0_dd (by omega)]
    simp only [Prod.mk.injEq, and_true]
    omega
/-- No byte of a numeral but digits and a sign. -/
theorem itoa_mem {n : Int} {c : UInt8} (h : c ∈ Go.Lib.itoa n) : c = 45 ∨ DigP c := by
  unfold Go.Lib.itoa at h
  split at h
  · rcases List.mem_cons.1 h with h1 | h1
    · exact .inl h1
    · exact .inr (dd_digits _ c h1)
  · exact .inr (dd_digits _ c h)
theorem itoa_length {n : Int} (h : n.natAbs < 10000000) : (Go.Lib.itoa n).length ≤ 8 := by
  unfold Go.Lib.itoa
  have h2 := dd_length 6 n.natAbs (by omega)
  split
  · simp; omega
  · rw [show n.toNat = n.natAbs by omega]; omega

-- frac
/-- A fraction in lowest terms, as FractionOk tells it. -/
def Frac (a b : Int) : Prop := (-1000000 ≤ a ∧ a ≤ 1000000) ∧ (0 ≤ b ∧ b ≤ 1000000) ∧ Int.gcd a b = 1 ∧ (b = 0 → a = 1)
instance (a b : Int) : Decidable (Frac a b) := by unfold Frac; infer_instance

-- small
def Small (a b m : Int) : Prop := Frac a b ∧ (-m ≤ a ∧ a ≤ m) ∧ b ≤ m
instance (a b m : Int) : Decidable (Small a b m) := by unfold Small; infer_instance

-- gcdmath
theorem natAbs_tmod_lt (a : Int) {b : Int} (h : b ≠ 0) : (Int.tmod a b).natAbs < b.natAbs := by
  rw [Int.natAbs_tmod]
  exact Nat.mod_lt _ (by omega)
theorem gcd_tmod (a b : Int) : Int.gcd b (Int.tmod a b) = Int.gcd a b := by
  unfold Int.gcd
  rw [Int.natAbs_tmod, Nat.gcd_comm a.natAbs, Nat.gcd_rec b.natAbs a.natAbs, Nat.gcd_comm]
theorem mx_abs {a : Int} (h : -9223372036854775808 < a) (h' : a ≤ 9223372036854775807) : mx a (wrap64 (-a)) = (a.natAbs : Int) := by
  rw [wrap64_in (by omega) (by omega)]; unfold mx; split <;> omega

-- nummath
theorem mul_bd {a b : Int} {m n : Nat} (h : a.natAbs ≤ m) (h' : b.natAbs ≤ n) : (a * b).natAbs ≤ m * n := by
  rw [Int.natAbs_mul]; exact Nat.mul_le_mul h h'
/-- NumberOf of two fractions. -/
def numv (a b c d : Int) : Int := if Small a b 1000 ∧ Small c d 1000 then (((a * d + c * b).natAbs : Nat) : Int) else -1
theorem num_value {a b c d : Int} (h : Small a b 1000) (h' : Small c d 1000) :
    mx (wrap64 ((wrap64 (a * d)) + (wrap64 (c * b)))) (wrap64 (-(wrap64 ((wrap64 (a * d)) + (wrap64 (c * b)))))) = (((a * d + c * b).natAbs : Nat) : Int) := by
  have h1 := mul_bd (a := a) (b := d) (m := 1000) (n := 1000) (by have := h.2.1; omega) (by have := h'.1.2.1; have := h'.2.2; omega)
  have h2 := mul_bd (a := c) (b := b) (m := 1000) (n := 1000) (by have := h'.2.1; omega) (by have := h.1.2.1; have := h.2.2; omega)
  rw [wrap64_in (n := a * d) (by omega) (by omega), wrap64_in (n := c * b) (by omega) (by omega), wrap64_in (n := a * d + c * b) (by omega) (by omega), mx_abs (by omega) (by omega)]

-- textmath
/-- A text out of a list of bytes. -/
def ba (l : List UInt8) : ByteArray := ⟨⟨l⟩⟩
theorem ba_list (l : List UInt8) : (ba l).data.toList = l := rfl
theorem ba_toList (l : List UInt8) : (ba l).toList = l := by rw [ByteArray.toList_eq]; rfl
theorem ba_of (s : ByteArray) : ba s.data.toList = s := rfl
theorem ba_size (l : List UInt8) : (ba l).size = l.length := rfl
theorem ba_append (l m : List UInt8) : ba l ++ ba m = ba (l ++ m) := by
  apply ByteArray.ext
  rw [ByteArray.data_append]
  simp [ba]
theorem ba_extract (s : ByteArray) (a e : Nat) : s.extract a e = ba ((s.data.toList.drop a).take (e - a)) := by
  apply ByteArray.ext
  apply Array.toList_inj.1
  simp [ba, List.drop_take]
/-- A fraction's text. -/
def fracT (a b : Int) : List UInt8 := if b = 1 then Go.Lib.itoa a else Go.Lib.itoa a ++ 47 :: Go.Lib.itoa b
/-- The pieces between a byte. -/
def splitL (c : UInt8) : List UInt8 → List UInt8 → List (List UInt8)
  | cur, [] => [cur]
  | cur, x :: r => if x = c then cur :: splitL c [] r else splitL c (cur ++ [x]) r
theorem splitL_none {c : UInt8} : ∀ (l cur : List UInt8), (∀ x ∈ l, x ≠ c) → splitL c cur l = [cur ++ l]
  | [], cur, _ => by simp [splitL]
  | x :: r, cur, h => by
    simp only [splitL]
    rw [if_neg (h x (by simp)), splitL_none r (cur ++ [x]) (fun y hy => h y (by simp [hy]))]
    simp
theorem splitL_one {c : UInt8} : ∀ (l cur m : List UInt8), (∀ x ∈ l, x ≠ c) → splitL c cur (l ++ c :: m) = (cur ++ l) :: splitL c [] m
  | [], cur, m, _ => by simp [splitL]
  | x :: r, cur, m, h => by
    simp only [List.cons_append, splitL]
    rw [if_neg (h x (by simp)), splitL_one r (cur ++ [x]) m (fun y hy => h y (by simp [hy]))]
    simp
theorem splitL_ne (c : UInt8) (cur l : List UInt8) : splitL c cur l ≠ [] := by
  cases l with
  | nil => simp [splitL]
  | cons x r => simp only [splitL]; split <;> simp [splitL_ne]
theorem splitL_cons (c : UInt8) : ∀ (l cur : List UInt8), ∃ x r, splitL c cur l = x :: r
  | [], cur => ⟨_, _, rfl⟩
  | y :: r, cur => by
    simp only [splitL]
    split
    · exact ⟨_, _, rfl⟩
    · exact splitL_cons c r _
theorem itoa_no47 (n : Int) : ∀ x ∈ Go.Lib.itoa n, x ≠ 47 := by
  intro x hx h
  rcases itoa_mem hx with h1 | h1
  · rw [h] at h1; exact absurd h1 (by decide)
  · rw [h] at h1; exact absurd h1 (by decide)
/-- What the reference reads out of the pieces. -/
def readW : List (List UInt8) → Int × Int × Bool
  | [x] => ((digsv x).1, 1, (digsv x).2)
  | [x, y] => ((digsv x).1, (digsv y).1, (digsv x).2 && (digsv y).2)
  | _ => (0, 0, false)
/-- What ReadFraction answers. -/
def readL (l : List UInt8) : Int × Int × Bool :=
  if (readW (splitL 47 [] l)).2.2 = true ∧ Frac (readW (splitL 47 [] l)).1 (readW (splitL 47 [] l)).2.1 ∧ fracT (readW (splitL 47 [] l)).1 (readW (splitL 47 [] l)).2.1 = l then
    ((readW (splitL 47 [] l)).1, (readW (splitL 47 [] l)).2.1, true) else (0, 0, false)
theorem frac_bd {a b : Int} (h : Frac a b) : a.natAbs < 10000000 ∧ b.natAbs < 10000000 := by
  have h1 := h.1
  have h2 := h.2.1
  omega
theorem readW_fracT {a b : Int} (h : Frac a b) : readW (splitL 47 [] (fracT a b)) = (a, b, true) := by
  have hb := frac_bd h
  unfold fracT
  split
  · next hb1 =>
    rw [splitL_none _ _ (itoa_no47 a), List.nil_append]
    simp only [readW]
    rw [digsv_itoa hb.1, hb1]
  · rw [splitL_one _ _ _ (itoa_no47 a), splitL_none _ _ (itoa_no47 b)]
    simp only [List.nil_append, readW]
    rw [digsv_itoa hb.1, digsv_itoa hb.2]; rfl
theorem readL_fracT {a b : Int} (h : Frac a b) : readL (fracT a b) = (a, b, true) := by
  unfold readL
  rw [readW_fracT h, if_pos ⟨rfl, h, rfl⟩]
/-- ReadFraction tells the one fraction whose text it is. -/
theorem readL_iff (l : List UInt8) : (∃ a b, Frac a b ∧ fracT a b = l ∧ readL l = (a, b, true)) ∨ ((∀ a b, Frac a b → fracT a b ≠ l) ∧ readL l = (0, 0, false)) := by
  by_cases h : (readW (splitL 47 [] l)).2.2 = true ∧ Frac (readW (splitL 47 [] l)).1 (readW (splitL 47 [] l)).2.1 ∧ fracT (readW (splitL 47 [] l)).1 (readW (splitL 47 [] l)).2.1 = l
  · left
    exact ⟨_, _, h.2.1, h.2.2, by unfold readL; rw [if_pos h]⟩
  · right
    refine ⟨?_, by unfold readL; rw [if_neg h]⟩
    intro a b hf he
    subst he
    rw [readW_fracT hf] at h
    exact h ⟨rfl, hf, rfl⟩
theorem fracT_length {a b : Int} (h : Frac a b) : (fracT a b).length ≤ 17 := by
  have hb := frac_bd h
  have h1 := itoa_length hb.1
  have h2 := itoa_length hb.2
  unfold fracT
  split
  · omega
  · simp; omega

-- mirdbase
/-- A move, and a dance, in the mirror. -/
def mirB (c : UInt8) : UInt8 := if c = 84 then 116 else if c = 116 then 84 else 82
def mirL (l : List UInt8) : List UInt8 := l.map mirB
/-- What MirrorDance answers. -/
def mirDv (l : List UInt8) : List UInt8 := if DanceL l then mirL l else []
theorem mirB_move (c : UInt8) : MoveP (mirB c) := by
  unfold mirB MoveP
  split
  · simp
  · split <;> simp
theorem mirB_mirB {c : UInt8} (h : MoveP c) : mirB (mirB c) = c := by
  unfold MoveP at h
  rcases h with rfl | rfl | rfl <;> decide
theorem mirL_dance {l : List UInt8} (h : DanceL l) : DanceL (mirL l) := by
  refine ⟨by unfold mirL; rw [List.length_map]; exact h.1, ?_⟩
  intro c hc
  obtain ⟨x, _, rfl⟩ := List.mem_map.1 hc
  exact mirB_move x
theorem mirL_mirL {l : List UInt8} (h : AllM l) : mirL (mirL l) = l := by
  unfold mirL
  rw [List.map_map]
  conv => rhs; rw [← List.map_id l]
  apply List.map_congr_left
  intro c hc
  exact mirB_mirB (h c hc)
theorem mirDv_mirDv {l : List UInt8} (h : DanceL l) : mirDv (mirDv l) = l := by
  unfold mirDv
  rw [if_pos h, if_pos (mirL_dance h), mirL_mirL h.2]

-- trimmath
theorem all_of_dropWhile {α : Type} (p : α → Bool) : ∀ l : List α, (∀ x ∈ l.dropWhile p, p x = true) → ∀ x ∈ l, p x = true
  | [], _ => fun x hx => by simp at hx
  | a :: l, h => by
    intro x hx
    by_cases ha : p a = true
    · rw [List.dropWhile_cons_of_pos ha] at h
      rcases List.mem_cons.1 hx with rfl | hx
      · exact ha
      · exact all_of_dropWhile p l h x hx
    · rw [List.dropWhile_cons_of_neg ha] at h
      exact h x hx
theorem dropWhile_nil_of_all {α : Type} (p : α → Bool) : ∀ l : List α, (∀ x ∈ l, p x = true) → l.dropWhile p = []
  | [], _ => rfl
  | a :: l, h => by
    rw [List.dropWhile_cons_of_pos (h a (by simp))]
    exact dropWhile_nil_of_all p l fun x hx => h x (by simp [hx])
theorem all_of_dropWhile_nil {α : Type} (p : α → Bool) : ∀ l : List α, l.dropWhile p = [] → ∀ x ∈ l, p x = true :=
  fun l h => all_of_dropWhile p l (by rw [h]; simp)
theorem trimS_nil (l cs : List UInt8) : Go.Lib.trimS l cs = [] ↔ ∀ c ∈ l, c ∈ cs := by
  unfold Go.Lib.trimS Go.Lib.trimLeftS Go.Lib.trimRightS
  constructor
  · intro h
    have h1 := all_of_dropWhile_nil _ _ h
    have h2 := all_of_dropWhile (cs.contains ·) l.reverse (fun x hx => h1 x (by simpa using hx))
    intro c hc
    simpa using h2 c (by simpa using hc)
  · intro h
    rw [dropWhile_nil_of_all (cs.contains ·) l.reverse (fun x hx => by simpa using h x (by simpa using hx))]
    rfl
theorem strings_Trim_f {s : ByteArray} {cs : List UInt8} (hs : s.size ≤ 100000000) (hl : cs.length < 4294967281) (ha : cs.all (fun b => decide (b.toNat < 128)) = true) :
    strings_Trim.f s ⟨⟨cs⟩⟩ = some ⟨⟨Go.Lib.trimS s.data.toList cs⟩⟩ := by
  unfold strings_Trim.f
  rw [if_pos ⟨by omega, by simpa [ByteArray.size] using hl, ha⟩]

-- impl_isDance
theorem impl_areMoves_f (s : ByteArray) (hs : s.size ≤ 100000000) : impl_areMoves.f s = some (decide (AllM s.data.toList)) := by
  unfold impl_areMoves.f
  rw [strings_Trim_f hs (by decide) (by decide)]; simp only [Option.bind_some]
  have e : AllM s.data.toList ↔ Go.Lib.trimS s.data.toList [84, 116, 82] = [] := by
    rw [trimS_nil]; unfold AllM MoveP; simp
  by_cases h : AllM s.data.toList
  · rw [decide_eq_true h, e.1 h, ByteArray.toList_eq]; rfl
  · rw [decide_eq_false h]
    have h' : Go.Lib.trimS s.data.toList [84, 116, 82] ≠ [] := fun x => h (e.2 x)
    cases h2 : Go.Lib.trimS s.data.toList [84, 116, 82] with
    | nil => exact absurd h2 h'
    | cons a l => rw [ByteArray.toList_eq]; rfl
theorem impl_isDance_f (s : ByteArray) (hs : s.size ≤ 100000000) : impl_isDance.f s = some (decide (DanceP s)) := by
  unfold impl_isDance.f
  rw [impl_areMoves_f s hs]; simp only [Option.bind_some]
  have e : s.data.toList.length = s.size := rfl
  by_cases h : (s.size : Int) ≤ 40
  · rw [if_pos h]; exact dec_iff ⟨fun x => ⟨by omega, x⟩, fun x => x.2⟩
  · rw [if_neg h]; exact (dec_false (fun x => by have := x.1; omega)).symm

-- impl_MirrorDance
theorem mirT_dance {s : ByteArray} (h : DanceP s) : Rep.mirT s = ba (mirL s.data.toList) := by
  apply ByteArray.ext
  apply Array.toList_inj.1
  unfold Rep.mirT
  rw [strOfNums_data]
  unfold bytesOf
  rw [List.map_map, List.map_map]
  show _ = List.map mirB s.data.toList
  apply List.map_congr_left
  intro c hc
  rcases h.2 c hc with rfl | rfl | rfl <;> rfl
theorem impl_MirrorDance_f (s : ByteArray) (hs : s.size ≤ 100000000) : impl_MirrorDance.f s = some (ba (mirDv s.data.toList)) := by
  unfold impl_MirrorDance.f mirDv
  rw [impl_isDance_f s hs]; simp only [Option.bind_some, decide_eq_true_eq]
  by_cases h : DanceP s
  · have h' : DanceL s.data.toList := h
    rw [if_pos h, if_pos h']
    unfold impl_mirrorDance.f
    rw [if_pos (by omega), mirT_dance h]; rfl
  · have h' : ¬ DanceL s.data.toList := h
    rw [if_neg h, if_neg h']; rfl

-- spec_DanceOk
theorem spec_DanceOk_l0 (s : ByteArray) (hs : s.size ≤ 1000000000) (n : Nat) : ∀ i : Nat, i + n = s.size → ∀ k, n < k → spec_DanceOk.l0 k s (i : Int) = some (decide (s.size ≤ 40 ∧ AllM (s.data.toList.drop i))) := by
  induction n with
  | zero =>
    intro i hi k hk
    obtain ⟨k, rfl⟩ : ∃ m, k = m + 1 := ⟨k - 1, by omega⟩
    simp only [spec_DanceOk.l0]
    rw [if_neg (by omega), drop_end (by omega)]
    exact dec_iff ⟨fun x => ⟨by omega, allM_nil⟩, fun x => by omega⟩
  | succ n ih =>
    intro i hi k hk
    obtain ⟨k, rfl⟩ : ∃ m, k = m + 1 := ⟨k - 1, by omega⟩
    obtain ⟨c, hd, hb⟩ := bt_drop (s := s) (i := i) (by omega)
    simp only [spec_DanceOk.l0]
    rw [if_pos (by omega), if_pos (by omega), hb, hd, wrap64_in (by omega) (by omega), show ((i : Int) + 1) = ((i + 1 : Nat) : Int) by omega, ih (i + 1) (by omega) k (by omega)]
    have e1 : (((c.toNat : Nat) : Int) = 84) ↔ c = 84 := u8_eq (n := 84) (by omega)
    have e2 : (((c.toNat : Nat) : Int) = 116) ↔ c = 116 := u8_eq (n := 116) (by omega)
    have e3 : (((c.toNat : Nat) : Int) = 82) ↔ c = 82 := u8_eq (n := 82) (by omega)
    have yes : MoveP c → some (decide (s.size ≤ 40 ∧ AllM (s.data.toList.drop (i + 1)))) = some (decide (s.size ≤ 40 ∧ AllM (c :: s.data.toList.drop (i + 1)))) := by
      intro h; exact dec_iff ⟨fun x => ⟨x.1, (allM_cons _ _).2 ⟨h, x.2⟩⟩, fun x => ⟨x.1, ((allM_cons _ _).1 x.2).2⟩⟩
    by_cases h1 : c = 84
    · rw [if_pos (e1.2 h1)]; exact yes (.inl h1)
    · rw [if_neg (fun x => h1 (e1.1 x))]
      by_cases h2 : c = 116
      · rw [if_pos (e2.2 h2)]; exact yes (.inr (.inl h2))
      · rw [if_neg (fun x => h2 (e2.1 x))]
        by_cases h3 : c = 82
        · rw [if_pos (e3.2 h3)]; exact yes (.inr (.inr h3))
        · rw [if_neg (fun x => h3 (e3.1 x))]
          exact (dec_false (fun x => by rcases ((allM_cons _ _).1 x.2).1 with y | y | y <;> contradiction)).symm
theorem spec_DanceOk_f (s : ByteArray) {k : Nat} (hs : s.size ≤ 100000000) (hk : 100000001 ≤ k) : spec_DanceOk.f k s = some (decide (DanceP s)) := by
  unfold spec_DanceOk.f
  have := spec_DanceOk_l0 s (by omega) s.size 0 (by omega) k (by omega)
  rw [show ((0 : Nat) : Int) = 0 from rfl] at this
  rw [this]
  exact dec_iff (by unfold DanceP DanceL; simp)

-- spec_MirrorDance
theorem spec_MirrorDance_l0 (s : ByteArray) (hd : DanceP s) (n : Nat) : ∀ (i : Nat) (a : List UInt8), i + n = s.size → a.length = i → ∀ k, 100000002 + 2 * n < k →
    spec_MirrorDance.l0 k s (ba a) (i : Int) = some (ba (a ++ mirL (s.data.toList.drop i))) := by
  have hs : s.size ≤ 40 := hd.1
  induction n with
  | zero =>
    intro i a hi ha k hk
    obtain ⟨k, rfl⟩ : ∃ m, k = m + 2 := ⟨k - 2, by omega⟩
    simp only [spec_MirrorDance.l0, spec_MirrorDance.j1]
    rw [if_neg (by omega), if_neg (by decide), drop_end (by omega)]
    simp [mirL]
  | succ n ih =>
    intro i a hi ha k hk
    obtain ⟨k, rfl⟩ : ∃ m, k = m + 2 := ⟨k - 2, by omega⟩
    obtain ⟨c, hc, hb⟩ := bt_drop (s := s) (i := i) (by omega)
    have e1 : (((c.toNat : Nat) : Int) = 84) ↔ c = 84 := u8_eq (n := 84) (by omega)
    have e2 : (((c.toNat : Nat) : Int) = 116) ↔ c = 116 := u8_eq (n := 116) (by omega)
    have hm : MoveP c := hd.2 c (List.mem_of_mem_drop (i := i) (by rw [hc]; simp))
    have hz : (ba a).size + 1 ≤ 9223372036854775807 := by rw [ba_size]; omega
    have go : ∀ x : UInt8, mirB c = x → spec_MirrorDance.l0 k s (ba a ++ ba [x]) (wrap64 ((i : Int) + 1)) = some (ba (a ++ mirL (s.data.toList.drop i))) := by
      intro x hx
      rw [ba_append, wrap64_in (by omega) (by omega), show ((i : Int) + 1) = ((i + 1 : Nat) : Int) by omega, ih (i + 1) (a ++ [x]) (by omega) (by simp [ha]) k (by omega), hc]
      simp [mirL, hx]
    simp only [spec_MirrorDance.l0]
    rw [if_pos (by omega), spec_DanceOk_f s (by omega) (by omega)]
    simp only [Option.bind_some, spec_MirrorDance.j1]
    rw [if_pos (decide_eq_true hd), if_pos (by omega), if_pos (by omega), hb]
    by_cases h1 : c = 84
    · rw [if_pos (e1.2 h1), if_pos hz]; exact go 116 (by rw [h1]; rfl)
    · rw [if_neg (fun x => h1 (e1.1 x))]
      by_cases h2 : c = 116
      · rw [if_pos (e2.2 h2), if_pos hz]; exact go 84 (by rw [h2]; rfl)
      · rw [if_neg (fun x => h2 (e2.1 x)), if_pos hz]; exact go 82 (by unfold mirB; rw [if_neg h1, if_neg h2])
theorem spec_MirrorDance_f (s : ByteArray) {k : Nat} (hs : s.size ≤ 100000000) (hk : 100001000 ≤ k) : spec_MirrorDance.f k s = some (ba (mirDv s.data.toList)) := by
  unfold spec_MirrorDance.f mirDv
  by_cases h : DanceP s
  · have h' : DanceL s.data.toList := h
    have h40 : s.size ≤ 40 := h.1
    have := spec_MirrorDance_l0 s h s.size 0 [] (by omega) rfl k (by omega)
    rw [if_pos h']
    show spec_MirrorDance.l0 k s (ba []) 0 = _
    simpa using this
  · have h' : ¬ DanceL s.data.toList := h
    rw [if_neg h']
    obtain ⟨k, rfl⟩ : ∃ m, k = m + 2 := ⟨k - 2, by omega⟩
    simp only [spec_MirrorDance.l0]
    rw [spec_DanceOk_f s hs (by omega)]
    simp only [Option.bind_some, spec_MirrorDance.j1, decide_eq_false h]
    by_cases h0 : 0 < (s.size : Int)
    · rw [if_pos h0]; rfl
    · rw [if_neg h0]; rfl

theorem FnExactMirrorDance (s : ByteArray) (_ : s.size ≤ 140737488351232) :
    ∃ k, laws_FnExactMirrorDance.f k s = some true := by
  refine ⟨100002000, ?_⟩
  unfold laws_FnExactMirrorDance.f
  by_cases h : (s.size : Int) > 1048576
  · rw [if_pos h]
  · rw [if_neg h, spec_MirrorDance_f s (by omega) (by omega)]; simp only [Option.bind_some]
    rw [impl_MirrorDance_f s (by omega)]; simp only [Option.bind_some]
    rw [if_pos trivial]

end Go.Proofs.YtgbnlaalfebaeaaDoor.Pure
