/- FnExactTwistsIn: the program's TwistsIn answers as the reference's does, for all arguments. -/
import Derived.Test.YtkjefpihjgflhaaDoorPFnExactTwistsInx0
import Derived.Test.YtkjefpihjgflhaaDoorPFnExactTwistsInx1
set_option linter.unusedVariables false
set_option linter.unusedSimpArgs false
namespace Go.Proofs.YtkjefpihjgflhaaDoor.Pure
open Go.RowKit Go.Proofs.YtkjefpihjgflhaaDoor.PFnExactTwistsIn Go.Proofs.YtkjefpihjgflhaaDoorW.PrintWords Go.Proofs.YtkjefpihjgflhaaDoorW.PrintLast Go.Proofs.YtkjefpihjgflhaaDoorW.PrintMore Go.Proofs.YtkjefpihjgflhaaDoor.Lib

-- base
theorem wrap64_in {n : Int} (h : -9223372036854775808 ≤ n) (h' : n ≤ 9223372036854775807) : wrap64 n = n := by unfold wrap64; omega
theorem i64_of_wf {n : Int} (h : (Lit.int .i64 n).wf = true) : -9223372036854775808 ≤ n ∧ n ≤ 9223372036854775807 := by
  simpa [Lit.wf, IntKind.min, IntKind.max, IntKind.signed, IntKind.bits] using h
theorem bigk : ∃ k : Nat, 1000000000 ≤ k := ⟨1000000000, Nat.le_refl _⟩
theorem dec_true {p : Prop} [Decidable p] (h : p) : some (decide p) = some true := by simp [h]
theorem dec_false {p : Prop} [Decidable p] (h : ¬ p) : some (decide p) = some false := by simp [h]
theorem dec_iff {p q : Prop} [Decidable p] [Decidable q] (h : p ↔ q) : some (decide p) = some (decide q) := by simp [h]
theorem ite_to {c : Prop} [Decidable c] {α : Type} {x y z : α} (h1 : c → x = z) (h2 : ¬ c → y = z) : (if c then x else y) = z := by
  by_cases h : c
  · rw [if_pos h]; exact h1 h
  · rw [if_neg h]; exact h2 h

-- bytes
theorem bt_drop {s : ByteArray} {i : Nat} (h : i < s.size) : ∃ c : UInt8, s.data.toList.drop i = c :: s.data.toList.drop (i + 1) ∧ bt s (i : Int) = ((c.toNat : Nat) : Int) := by
  have hl : i < s.data.toList.length := by simpa using h
  refine ⟨s.data.toList[i], List.drop_eq_getElem_cons hl, ?_⟩
  unfold bt
  rw [dif_pos (by simpa using h)]
  simp
  rfl
theorem drop_end {s : ByteArray} {i : Nat} (h : s.size ≤ i) : s.data.toList.drop i = [] := List.drop_of_length_le (by simpa using h)
theorem toList_length (s : ByteArray) : s.data.toList.length = s.size := by simp
theorem u8_eq {c : UInt8} {n : Nat} (hn : n < 256) : ((c.toNat : Nat) : Int) = (n : Int) ↔ c = UInt8.ofNat n := by
  constructor
  · intro h
    apply UInt8.toNat_inj.1
    rw [UInt8.toNat_ofNat']
    omega
  · intro h
    subst h
    rw [UInt8.toNat_ofNat']
    omega

-- dancemath
def MoveP (c : UInt8) : Prop := c = 84 ∨ c = 116 ∨ c = 82
instance (c : UInt8) : Decidable (MoveP c) := by unfold MoveP; infer_instance
def AllM (l : List UInt8) : Prop := ∀ c ∈ l, MoveP c
instance (l : List UInt8) : Decidable (AllM l) := by unfold AllM; infer_instance
theorem allM_nil : AllM [] := by intro c h; simp at h
theorem allM_cons (c : UInt8) (l : List UInt8) : AllM (c :: l) ↔ MoveP c ∧ AllM l := by unfold AllM; simp
/-- A dance: of at most 40 moves. -/
def DanceL (l : List UInt8) : Prop := l.length ≤ 40 ∧ AllM l
instance (l : List UInt8) : Decidable (DanceL l) := by unfold DanceL; infer_instance
def DanceP (s : ByteArray) : Prop := DanceL s.data.toList
instance (s : ByteArray) : Decidable (DanceP s) := by unfold DanceP; infer_instance

-- twistsmath
/-- The twists of a dance: its moves other than turns. -/
def twistsL : List UInt8 → Nat
  | [] => 0
  | c :: l => (if c = 82 then 0 else 1) + twistsL l
theorem twistsL_le (l : List UInt8) : twistsL l ≤ l.length := by
  induction l with
  | nil => simp [twistsL]
  | cons c l ih => simp only [twistsL, List.length_cons]; split <;> omega
theorem twistsL_count (l : List UInt8) : twistsL l + l.count 82 = l.length := by
  induction l with
  | nil => rfl
  | cons c l ih =>
    simp only [twistsL, List.length_cons, List.count_cons]
    by_cases h : c = 82
    · subst h; simp; omega
    · rw [if_neg h, if_neg (by simpa using h)]; omega
/-- What TwistsIn answers. -/
def twistsv (s : ByteArray) : Int := if DanceP s then (twistsL s.data.toList : Int) else -1

-- trimmath
theorem all_of_dropWhile {α : Type} (p : α → Bool) : ∀ l : List α, (∀ x ∈ l.dropWhile p, p x = true) → ∀ x ∈ l, p x = true
  | [], _ => fun x hx => by simp at hx
  | a :: l, h => by
    intro x hx
    by_cases ha : p a = true
    · rw [List.dropWhile_cons_of_pos ha] at h
      rcases List.mem_cons.1 hx with rfl | hx
      · exact ha
      · exact all_of_dropWhile p l h x hx
    · rw [List.dropWhile_cons_of_neg ha] at h
      exact h x hx
theorem dropWhile_nil_of_all {α : Type} (p : α → Bool) : ∀ l : List α, (∀ x ∈ l, p x = true) → l.dropWhile p = []
  | [], _ => rfl
  | a :: l, h => by
    rw [List.dropWhile_cons_of_pos (h a (by simp))]
    exact dropWhile_nil_of_all p l fun x hx => h x (by simp [hx])
theorem all_of_dropWhile_nil {α : Type} (p : α → Bool) : ∀ l : List α, l.dropWhile p = [] → ∀ x ∈ l, p x = true :=
  fun l h => all_of_dropWhile p l (by rw [h]; simp)
theorem trimS_nil (l cs : List UInt8) : Go.Lib.trimS l cs = [] ↔ ∀ c ∈ l, c ∈ cs := by
  unfold Go.Lib.trimS Go.Lib.trimLeftS Go.Lib.trimRightS
  constructor
  · intro h
    have h1 := all_of_dropWhile_nil _ _ h
    have h2 := all_of_dropWhile (cs.contains ·) l.reverse (fun x hx => h1 x (by simpa using hx))
    intro c hc
    simpa using h2 c (by simpa using hc)
  · intro h
    rw [dropWhile_nil_of_all (cs.contains ·) l.reverse (fun x hx => by simpa using h x (by simpa using hx))]
    rfl
theorem strings_Trim_f {s : ByteArray} {cs : List UInt8} (hs : s.size ≤ 100000000) (hl : cs.length < 4294967281) (ha : cs.all (fun b => decide (b.toNat < 128)) = true) :
    strings_Trim.f s ⟨⟨cs⟩⟩ = some ⟨⟨Go.Lib.trimS s.data.toList cs⟩⟩ := by
  unfold strings_Trim.f
  rw [if_pos ⟨by omega, by simpa [ByteArray.size] using hl, ha⟩]

-- impl_isDance
theorem impl_areMoves_f (s : ByteArray) (hs : s.size ≤ 100000000) : impl_areMoves.f s = some (decide (AllM s.data.toList)) := by
  unfold impl_areMoves.f
  rw [strings_Trim_f hs (by decide) (by decide)]; simp only [Option.bind_some]
  have e : AllM s.data.toList ↔ Go.Lib.trimS s.data.toList [84, 116, 82] = [] := by
    rw [trimS_nil]; unfold AllM MoveP; simp
  by_cases h : AllM s.data.toList
  · rw [decide_eq_true h, e.1 h, ByteArray.toList_eq]; rfl
  · rw [decide_eq_false h]
    have h' : Go.Lib.trimS s.data.toList [84, 116, 82] ≠ [] := fun x => h (e.2 x)
    cases h2 : Go.Lib.trimS s.data.toList [84, 116, 82] with
    | nil => exact absurd h2 h'
    | cons a l => rw [ByteArray.toList_eq]; rfl
theorem impl_isDance_f (s : ByteArray) (hs : s.size ≤ 100000000) : impl_isDance.f s = some (decide (DanceP s)) := by
  unfold impl_isDance.f
  rw [impl_areMoves_f s hs]; simp only [Option.bind_some]
  have e : s.data.toList.length = s.size := rfl
  by_cases h : (s.size : Int) ≤ 40
  · rw [if_pos h]; exact dec_iff ⟨fun x => ⟨by omega, x⟩, fun x => x.2⟩
  · rw [if_neg h]; exact (dec_false (fun x => by have := x.1; omega)).symm

-- impl_TwistsIn
theorem strings_Count_f (s : ByteArray) (c : UInt8) : strings_Count.f s ⟨#[c]⟩ = some ((s.data.toList.count c : Nat) : Int) := rfl
theorem impl_TwistsIn_f (s : ByteArray) (hs : s.size ≤ 100000000) : impl_TwistsIn.f s = some (twistsv s) := by
  unfold impl_TwistsIn.f twistsv
  rw [impl_isDance_f s hs]; simp only [Option.bind_some, decide_eq_true_eq, strings_Count_f]
  by_cases h : DanceP s
  · rw [if_pos h, if_pos h]
    have h1 := twistsL_count s.data.toList
    have h2 : s.data.toList.length = s.size := rfl
    rw [wrap64_in (by omega) (by omega)]; congr 1; omega
  · rw [if_neg h, if_neg h]

-- spec_DanceOk
theorem spec_DanceOk_l0 (s : ByteArray) (hs : s.size ≤ 1000000000) (n : Nat) : ∀ i : Nat, i + n = s.size → ∀ k, n < k → spec_DanceOk.l0 k s (i : Int) = some (decide (s.size ≤ 40 ∧ AllM (s.data.toList.drop i))) := by
  induction n with
  | zero =>
    intro i hi k hk
    obtain ⟨k, rfl⟩ : ∃ m, k = m + 1 := ⟨k - 1, by omega⟩
    simp only [spec_DanceOk.l0]
    rw [if_neg (by omega), drop_end (by omega)]
    exact dec_iff ⟨fun x => ⟨by omega, allM_nil⟩, fun x => by omega⟩
  | succ n ih =>
    intro i hi k hk
    obtain ⟨k, rfl⟩ : ∃ m, k = m + 1 := ⟨k - 1, by omega⟩
    obtain ⟨c, hd, hb⟩ := bt_drop (s := s) (i := i) (by omega)
    simp only [spec_DanceOk.l0]
    rw [if_pos (by omega), if_pos (by omega), hb, hd, wrap64_in (by omega) (by omega), show ((i : Int) + 1) = ((i + 1 : Nat) : Int) by omega, ih (i + 1) (by omega) k (by omega)]
    have e1 : (((c.toNat : Nat) : Int) = 84) ↔ c = 84 := u8_eq (n := 84) (by omega)
    have e2 : (((c.toNat : Nat) : Int) = 116) ↔ c = 116 := u8_eq (n := 116) (by omega)
    have e3 : (((c.toNat : Nat) : Int) = 82) ↔ c = 82 := u8_eq (n := 82) (by omega)
    have yes : MoveP c → some (decide (s.size ≤ 40 ∧ AllM (s.data.toList.drop (i + 1)))) = some (decide (s.size ≤ 40 ∧ AllM (c :: s.data.toList.drop (i + 1)))) := by
      intro h; exact dec_iff ⟨fun x => ⟨x.1, (allM_cons _ _).2 ⟨h, x.2⟩⟩, fun x => ⟨x.1, ((allM_cons _ _).1 x.2).2⟩⟩
    by_cases h1 : c = 84
    · rw [if_pos (e1.2 h1)]; exact yes (.inl h1)
    · rw [if_neg (fun x => h1 (e1.1 x))]
      by_cases h2 : c = 116
      · rw [if_pos (e2.2 h2)]; exact yes (.inr (.inl h2))
      · rw [if_neg (fun x => h2 (e2.1 x))]
        by_cases h3 : c = 82
        · rw [if_pos (e3.2 h3)]; exact yes (.inr (.inr h3))
        · rw [if_neg (fun x => h3 (e3.1 x))]
          exact (dec_false (fun x => by rcases ((allM_cons _ _).1 x.2).1 with y | y | y <;> contradiction)).symm
theorem spec_DanceOk_f (s : ByteArray) {k : Nat} (hs : s.size ≤ 100000000) (hk : 100000001 ≤ k) : spec_DanceOk.f k s = some (decide (DanceP s)) := by
  unfold spec_DanceOk.f
  have := spec_DanceOk_l0 s (by omega) s.size 0 (by omega) k (by omega)
  rw [show ((0 : Nat) : Int) = 0 from rfl] at this
  rw [this]
  exact dec_iff (by unfold DanceP DanceL; simp)

-- spec_TwistsIn
theorem spec_TwistsIn_l0 (s : ByteArray) (hs : s.size ≤ 40) (n : Nat) : ∀ (i a : Nat), i + n = s.size → a ≤ i → ∀ k, n < k → spec_TwistsIn.l0 k s (a : Int) (i : Int) = some ((a + twistsL (s.data.toList.drop i) : Nat) : Int) := by
  induction n with
  | zero =>
    intro i a hi ha k hk
    obtain ⟨k, rfl⟩ : ∃ m, k = m + 1 := ⟨k - 1, by omega⟩
    simp only [spec_TwistsIn.l0]
    rw [if_neg (by omega), drop_end (by omega)]; rfl
  | succ n ih =>
    intro i a hi ha k hk
    obtain ⟨k, rfl⟩ : ∃ m, k = m + 1 := ⟨k - 1, by omega⟩
    obtain ⟨c, hd, hb⟩ := bt_drop (s := s) (i := i) (by omega)
    have e1 : (((c.toNat : Nat) : Int) = 82) ↔ c = 82 := u8_eq (n := 82) (by omega)
    simp only [spec_TwistsIn.l0]
    rw [if_pos (by omega), if_pos (by omega), hb, hd, wrap64_in (n := (i : Int) + 1) (by omega) (by omega), wrap64_in (n := (a : Int) + 1) (by omega) (by omega), show ((i : Int) + 1) = ((i + 1 : Nat) : Int) by omega]
    simp only [twistsL]
    by_cases h : c = 82
    · rw [if_pos (e1.2 h), if_pos h, ih (i + 1) a (by omega) (by omega) k (by omega), Nat.zero_add]
    · rw [if_neg (fun x => h (e1.1 x)), if_neg h, show ((a : Int) + 1) = ((a + 1 : Nat) : Int) by omega, ih (i + 1) (a + 1) (by omega) (by omega) k (by omega), Nat.add_assoc]
theorem spec_TwistsIn_f (s : ByteArray) {k : Nat} (hs : s.size ≤ 100000000) (hk : 100000001 ≤ k) : spec_TwistsIn.f k s = some (twistsv s) := by
  unfold spec_TwistsIn.f twistsv
  rw [spec_DanceOk_f s hs (by omega)]; simp only [Option.bind_some, decide_eq_true_eq]
  by_cases h : DanceP s
  · rw [if_pos h, if_pos h]
    have hl : s.size ≤ 40 := h.1
    have := spec_TwistsIn_l0 s hl s.size 0 0 (by omega) (by omega) k (by omega)
    simpa using this
  · rw [if_neg h, if_neg h]

theorem FnExactTwistsIn (s : ByteArray) (_ : s.size ≤ 140737488351232) :
    ∃ k, laws_FnExactTwistsIn.f k s = some true := by
  refine ⟨100002000, ?_⟩
  unfold laws_FnExactTwistsIn.f
  by_cases h : (s.size : Int) > 1048576
  · rw [if_pos h]
  · rw [if_neg h, spec_TwistsIn_f s (by omega) (by omega)]; simp only [Option.bind_some]
    rw [impl_TwistsIn_f s (by omega)]; simp only [Option.bind_some]
    rw [if_pos trivial]

end Go.Proofs.YtkjefpihjgflhaaDoor.Pure
