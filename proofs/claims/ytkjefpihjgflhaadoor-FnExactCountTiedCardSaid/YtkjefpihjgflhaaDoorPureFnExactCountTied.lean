/- FnExactCountTied: the program's CountTied answers as the reference's does, for all arguments. -/
import Derived.Test.YtkjefpihjgflhaaDoorPFnExactCountTiedx0
import Derived.Test.YtkjefpihjgflhaaDoorPFnExactCountTiedx1
import Derived.Test.YtkjefpihjgflhaaDoorPFnExactCountTiedx2
import Derived.Test.YtkjefpihjgflhaaDoorPFnExactCountTiedx3
set_option linter.unusedVariables false
set_option linter.unusedSimpArgs false
namespace Go.Proofs.YtkjefpihjgflhaaDoor.Pure
open Go.RowKit Go.Proofs.YtkjefpihjgflhaaDoor.PFnExactCountTied Go.Proofs.YtkjefpihjgflhaaDoorW.PrintWords Go.Proofs.YtkjefpihjgflhaaDoorW.PrintLast Go.Proofs.YtkjefpihjgflhaaDoorW.PrintMore Go.Proofs.YtkjefpihjgflhaaDoor.Lib

-- base
theorem wrap64_in {n : Int} (h : -9223372036854775808 ≤ n) (h' : n ≤ 9223372036854775807) : wrap64 n = n := by unfold wrap64; omega
theorem i64_of_wf {n : Int} (h : (Lit.int .i64 n).wf = true) : -9223372036854775808 ≤ n ∧ n ≤ 9223372036854775807 := by
  simpa [Lit.wf, IntKind.min, IntKind.max, IntKind.signed, IntKind.bits] using h
theorem bigk : ∃ k : Nat, 1000000000 ≤ k := ⟨1000000000, Nat.le_refl _⟩
theorem dec_true {p : Prop} [Decidable p] (h : p) : some (decide p) = some true := by simp [h]
theorem dec_false {p : Prop} [Decidable p] (h : ¬ p) : some (decide p) = some false := by simp [h]
theorem dec_iff {p q : Prop} [Decidable p] [Decidable q] (h : p ↔ q) : some (decide p) = some (decide q) := by simp [h]
theorem ite_to {c : Prop} [Decidable c] {α : Type} {x y z : α} (h1 : c → x = z) (h2 : ¬ c → y = z) : (if c then x else y) = z := by
  by_cases h : c
  · rw [if_pos h]; exact h1 h
  · rw [if_neg h]; exact h2 h

-- bytes
theorem bt_drop {s : ByteArray} {i : Nat} (h : i < s.size) : ∃ c : UInt8, s.data.toList.drop i = c :: s.data.toList.drop (i + 1) ∧ bt s (i : Int) = ((c.toNat : Nat) : Int) := by
  have hl : i < s.data.toList.length := by simpa using h
  refine ⟨s.data.toList[i], List.drop_eq_getElem_cons hl, ?_⟩
  unfold bt
  rw [dif_pos (by simpa using h)]
  simp
  rfl
theorem drop_end {s : ByteArray} {i : Nat} (h : s.size ≤ i) : s.data.toList.drop i = [] := List.drop_of_length_le (by simpa using h)
theorem toList_length (s : ByteArray) : s.data.toList.length = s.size := by simp
theorem u8_eq {c : UInt8} {n : Nat} (hn : n < 256) : ((c.toNat : Nat) : Int) = (n : Int) ↔ c = UInt8.ofNat n := by
  constructor
  · intro h
    apply UInt8.toNat_inj.1
    rw [UInt8.toNat_ofNat']
    omega
  · intro h
    subst h
    rw [UInt8.toNat_ofNat']
    omega

-- dancemath
def MoveP (c : UInt8) : Prop := c = 84 ∨ c = 116 ∨ c = 82
instance (c : UInt8) : Decidable (MoveP c) := by unfold MoveP; infer_instance
def AllM (l : List UInt8) : Prop := ∀ c ∈ l, MoveP c
instance (l : List UInt8) : Decidable (AllM l) := by unfold AllM; infer_instance
theorem allM_nil : AllM [] := by intro c h; simp at h
theorem allM_cons (c : UInt8) (l : List UInt8) : AllM (c :: l) ↔ MoveP c ∧ AllM l := by unfold AllM; simp
/-- A dance: of at most 40 moves. -/
def DanceL (l : List UInt8) : Prop := l.length ≤ 40 ∧ AllM l
instance (l : List UInt8) : Decidable (DanceL l) := by unfold DanceL; infer_instance
def DanceP (s : ByteArray) : Prop := DanceL s.data.toList
instance (s : ByteArray) : Decidable (DanceP s) := by unfold DanceP; infer_instance

-- colmath
/-- Colours after a move, and after moves: above left, above right, below left, below right. -/
def cmove (c : Int × Int × Int × Int) (m : UInt8) : Int × Int × Int × Int :=
  if m = 84 then (c.1, 2 * c.2.1 - c.2.2.2, c.2.2.1, c.2.1) else if m = 116 then (c.1, c.2.2.2, c.2.2.1, 2 * c.2.2.2 - c.2.1) else (c.2.2.1, c.1, c.2.2.2, c.2.1)
def cafter (l : List UInt8) (c : Int × Int × Int × Int) : Int × Int × Int × Int := l.foldl cmove c
def ColBd (B : Nat) (c : Int × Int × Int × Int) : Prop := c.1.natAbs ≤ B ∧ c.2.1.natAbs ≤ B ∧ c.2.2.1.natAbs ≤ B ∧ c.2.2.2.natAbs ≤ B
theorem cmove_bd {B : Nat} {c : Int × Int × Int × Int} (h : ColBd B c) (m : UInt8) : ColBd (3 * B) (cmove c m) := by
  obtain ⟨a, b, d, e⟩ := c
  unfold ColBd cmove at *
  simp only at *
  split
  · simp only; omega
  · split
    · simp only; omega
    · simp only; omega
def ColArgs (s : ByteArray) (a b : Int) : Prop := (DanceP s ∧ s.size ≤ 24) ∧ (0 ≤ a ∧ a ≤ 12) ∧ (0 ≤ b ∧ b ≤ 12)
instance (s : ByteArray) (a b : Int) : Decidable (ColArgs s a b) := by unfold ColArgs; infer_instance
/-- What ColoursAfter answers. -/
def colv (s : ByteArray) (a b : Int) : Int × Int × Int × Int × Bool :=
  if ColArgs s a b then ((cafter s.data.toList (a, a, b, b)).1, (cafter s.data.toList (a, a, b, b)).2.1, (cafter s.data.toList (a, a, b, b)).2.2.1, (cafter s.data.toList (a, a, b, b)).2.2.2, true) else (0, 0, 0, 0, false)

-- summath
/-- f 0 + .. + f (n - 1) -/
def sumR (f : Nat → Int) : Nat → Int
  | 0 => 0
  | n + 1 => sumR f n + f n
theorem sumR_congr {f g : Nat → Int} {n : Nat} (h : ∀ i, i < n → f i = g i) : sumR f n = sumR g n := by
  induction n with
  | zero => rfl
  | succ n ih => simp only [sumR]; rw [ih (fun i hi => h i (by omega)), h n (by omega)]
theorem sumR_add (f : Nat → Int) (a b : Nat) : sumR f (a + b) = sumR f a + sumR (fun j => f (a + j)) b := by
  induction b with
  | zero => simp [sumR]
  | succ b ih => rw [← Nat.add_assoc]; simp only [sumR]; rw [ih]; omega
theorem sumR_plus (f g : Nat → Int) (n : Nat) : sumR (fun i => f i + g i) n = sumR f n + sumR g n := by
  induction n with
  | zero => rfl
  | succ n ih => simp only [sumR]; rw [ih]; omega
theorem sumR_zero (n : Nat) : sumR (fun _ => 0) n = 0 := by
  induction n with
  | zero => rfl
  | succ n ih => simp only [sumR]; rw [ih]; rfl
theorem sumR_swap (f : Nat → Nat → Int) (m n : Nat) : sumR (fun i => sumR (f i) m) n = sumR (fun j => sumR (fun i => f i j) n) m := by
  induction n with
  | zero => simp only [sumR]; rw [sumR_zero]
  | succ n ih => simp only [sumR]; rw [ih, sumR_plus]
theorem sumR_flat (g : Nat → Nat → Int) {m : Nat} (hm : 0 < m) (n : Nat) : sumR (fun c => g (c / m) (c % m)) (n * m) = sumR (fun a => sumR (g a) m) n := by
  induction n with
  | zero => simp [sumR]
  | succ n ih =>
    rw [Nat.succ_mul, sumR_add, ih]; simp only [sumR]
    rw [sumR_congr (f := fun j => g ((n * m + j) / m) ((n * m + j) % m)) (g := g n) fun j hj => ?_]
    rw [Nat.mul_comm n m, Nat.mul_add_div hm, Nat.mul_add_mod, Nat.div_eq_of_lt hj, Nat.mod_eq_of_lt hj, Nat.add_zero]
theorem sumR_bd {f : Nat → Int} (h : ∀ i, 0 ≤ f i ∧ f i ≤ 1) (n : Nat) : 0 ≤ sumR f n ∧ sumR f n ≤ (n : Int) := by
  induction n with
  | zero => simp [sumR]
  | succ n ih => have := h n; simp only [sumR]; omega
theorem sumR_bd2 {f : Nat → Int} {B : Nat} (h : ∀ i, 0 ≤ f i ∧ f i ≤ (B : Int)) (n : Nat) : 0 ≤ sumR f n ∧ sumR f n ≤ (n : Int) * (B : Int) := by
  induction n with
  | zero => simp [sumR]
  | succ n ih => have := h n; simp only [sumR]; rw [show ((n + 1 : Nat) : Int) * (B : Int) = (n : Int) * B + B by rw [Int.natCast_add, Int.add_mul]; omega]; omega

-- tiedcmath
def tiedQ (v : Int × Int × Int × Int) (n : Int) : Prop := Int.tmod (wrap64 (v.1 - v.2.1)) n = 0 ∧ Int.tmod (wrap64 (v.2.2.1 - v.2.2.2)) n = 0
instance (v : Int × Int × Int × Int) (n : Int) : Decidable (tiedQ v n) := by unfold tiedQ; infer_instance
/-- Colours after a dance from colours in two numbers. -/
def cend (s : ByteArray) (i j : Nat) : Int × Int × Int × Int := cafter s.data.toList ((i : Int), (i : Int), (j : Int), (j : Int))
def tiedC (s : ByteArray) (n : Int) (i j : Nat) : Int := if tiedQ (cend s i j) n then 1 else 0
theorem tiedC_bd (s : ByteArray) (n : Int) (i j : Nat) : 0 ≤ tiedC s n i j ∧ tiedC s n i j ≤ 1 := by unfold tiedC; split <;> omega
theorem colv_cend (s : ByteArray) (h : DanceP s) (hs : s.size ≤ 24) {i j : Nat} (hi : i ≤ 12) (hj : j ≤ 12) : colv s (i : Int) (j : Int) = ((cend s i j).1, (cend s i j).2.1, (cend s i j).2.2.1, (cend s i j).2.2.2, true) := by
  unfold colv cend; rw [if_pos ⟨⟨h, hs⟩, by omega, by omega⟩]
def tiedN (s : ByteArray) (m : Nat) : Int := sumR (fun a => sumR (tiedC s m a) m) m
/-- What CountTied answers. -/
def tiedcv (s : ByteArray) (n : Int) : Int := if (DanceP s ∧ s.size ≤ 24) ∧ 1 ≤ n ∧ n ≤ 12 then tiedN s n.toNat else -1
theorem row_bd (s : ByteArray) (m a : Nat) : 0 ≤ sumR (tiedC s m a) m ∧ sumR (tiedC s m a) m ≤ (m : Int) := sumR_bd (tiedC_bd s m a) m

-- trimmath
theorem all_of_dropWhile {α : Type} (p : α → Bool) : ∀ l : List α, (∀ x ∈ l.dropWhile p, p x = true) → ∀ x ∈ l, p x = true
  | [], _ => fun x hx => by simp at hx
  | a :: l, h => by
    intro x hx
    by_cases ha : p a = true
    · rw [List.dropWhile_cons_of_pos ha] at h
      rcases List.mem_cons.1 hx with rfl | hx
      · exact ha
      · exact all_of_dropWhile p l h x hx
    · rw [List.dropWhile_cons_of_neg ha] at h
      exact h x hx
theorem dropWhile_nil_of_all {α : Type} (p : α → Bool) : ∀ l : List α, (∀ x ∈ l, p x = true) → l.dropWhile p = []
  | [], _ => rfl
  | a :: l, h => by
    rw [List.dropWhile_cons_of_pos (h a (by simp))]
    exact dropWhile_nil_of_all p l fun x hx => h x (by simp [hx])
theorem all_of_dropWhile_nil {α : Type} (p : α → Bool) : ∀ l : List α, l.dropWhile p = [] → ∀ x ∈ l, p x = true :=
  fun l h => all_of_dropWhile p l (by rw [h]; simp)
theorem trimS_nil (l cs : List UInt8) : Go.Lib.trimS l cs = [] ↔ ∀ c ∈ l, c ∈ cs := by
  unfold Go.Lib.trimS Go.Lib.trimLeftS Go.Lib.trimRightS
  constructor
  · intro h
    have h1 := all_of_dropWhile_nil _ _ h
    have h2 := all_of_dropWhile (cs.contains ·) l.reverse (fun x hx => h1 x (by simpa using hx))
    intro c hc
    simpa using h2 c (by simpa using hc)
  · intro h
    rw [dropWhile_nil_of_all (cs.contains ·) l.reverse (fun x hx => by simpa using h x (by simpa using hx))]
    rfl
theorem strings_Trim_f {s : ByteArray} {cs : List UInt8} (hs : s.size ≤ 100000000) (hl : cs.length < 4294967281) (ha : cs.all (fun b => decide (b.toNat < 128)) = true) :
    strings_Trim.f s ⟨⟨cs⟩⟩ = some ⟨⟨Go.Lib.trimS s.data.toList cs⟩⟩ := by
  unfold strings_Trim.f
  rw [if_pos ⟨by omega, by simpa [ByteArray.size] using hl, ha⟩]

-- impl_isDance
theorem impl_areMoves_f (s : ByteArray) (hs : s.size ≤ 100000000) : impl_areMoves.f s = some (decide (AllM s.data.toList)) := by
  unfold impl_areMoves.f
  rw [strings_Trim_f hs (by decide) (by decide)]; simp only [Option.bind_some]
  have e : AllM s.data.toList ↔ Go.Lib.trimS s.data.toList [84, 116, 82] = [] := by
    rw [trimS_nil]; unfold AllM MoveP; simp
  by_cases h : AllM s.data.toList
  · rw [decide_eq_true h, e.1 h, ByteArray.toList_eq]; rfl
  · rw [decide_eq_false h]
    have h' : Go.Lib.trimS s.data.toList [84, 116, 82] ≠ [] := fun x => h (e.2 x)
    cases h2 : Go.Lib.trimS s.data.toList [84, 116, 82] with
    | nil => exact absurd h2 h'
    | cons a l => rw [ByteArray.toList_eq]; rfl
theorem impl_isDance_f (s : ByteArray) (hs : s.size ≤ 100000000) : impl_isDance.f s = some (decide (DanceP s)) := by
  unfold impl_isDance.f
  rw [impl_areMoves_f s hs]; simp only [Option.bind_some]
  have e : s.data.toList.length = s.size := rfl
  by_cases h : (s.size : Int) ≤ 40
  · rw [if_pos h]; exact dec_iff ⟨fun x => ⟨by omega, x⟩, fun x => x.2⟩
  · rw [if_neg h]; exact (dec_false (fun x => by have := x.1; omega)).symm

-- impl_coloured
theorem impl_coloured_l0 (s : ByteArray) (hs : s.size ≤ 24) (n : Nat) : ∀ (i : Nat) (c : Int × Int × Int × Int), i + n = s.size → ColBd (12 * 3 ^ i) c → ∀ k, n < k →
    impl_coloured.l0 k s (s.size : Int) (i : Int) c.1 c.2.1 c.2.2.1 c.2.2.2 = some ((cafter (s.data.toList.drop i) c).1, (cafter (s.data.toList.drop i) c).2.1, (cafter (s.data.toList.drop i) c).2.2.1, (cafter (s.data.toList.drop i) c).2.2.2) := by
  induction n with
  | zero =>
    intro i c hi hc k hk
    obtain ⟨k, rfl⟩ : ∃ m, k = m + 1 := ⟨k - 1, by omega⟩
    simp only [impl_coloured.l0]
    rw [if_neg (by omega), drop_end (by omega)]; rfl
  | succ n ih =>
    intro i c hi hc k hk
    obtain ⟨k, rfl⟩ : ∃ m, k = m + 1 := ⟨k - 1, by omega⟩
    obtain ⟨m, hd, hb⟩ := bt_drop (s := s) (i := i) (by omega)
    have hp : 3 ^ i ≤ 3 ^ 24 := Nat.pow_le_pow_right (by omega) (by omega)
    have hc' : ColBd (12 * 3 ^ (i + 1)) (cmove c m) := by
      have := cmove_bd hc m
      rw [Nat.pow_succ, show 12 * (3 ^ i * 3) = 3 * (12 * 3 ^ i) by omega]
      exact this
    have IH := ih (i + 1) (cmove c m) (by omega) hc' k (by omega)
    have e1 : (((m.toNat : Nat) : Int) = 84) ↔ m = 84 := u8_eq (n := 84) (by omega)
    have e2 : (((m.toNat : Nat) : Int) = 116) ↔ m = 116 := u8_eq (n := 116) (by omega)
    obtain ⟨c1, c2, c3, c4⟩ := c
    unfold ColBd at hc
    simp only at hc
    simp only [impl_coloured.l0]
    rw [if_pos (by omega), if_pos (by omega), if_pos (by omega), hb, hd, wrap64_in (n := (i : Int) + 1) (by omega) (by omega), show ((i : Int) + 1) = ((i + 1 : Nat) : Int) by omega]
    rw [show cafter (m :: s.data.toList.drop (i + 1)) (c1, c2, c3, c4) = cafter (s.data.toList.drop (i + 1)) (cmove (c1, c2, c3, c4) m) from rfl, ← IH]
    unfold cmove
    by_cases h1 : m = 84
    · rw [if_pos (e1.2 h1), if_pos h1, wrap64_in (n := 2 * c2) (by omega) (by omega), wrap64_in (by omega) (by omega)]
    · rw [if_neg (fun x => h1 (e1.1 x)), if_neg h1]
      by_cases h2 : m = 116
      · rw [if_pos (e2.2 h2), if_pos h2, wrap64_in (n := 2 * c4) (by omega) (by omega), wrap64_in (by omega) (by omega)]
      · rw [if_neg (fun x => h2 (e2.1 x)), if_neg h2]
theorem impl_coloured_f (s : ByteArray) (a b : Int) {k : Nat} (hs : s.size ≤ 24) (ha : 0 ≤ a ∧ a ≤ 12) (hb : 0 ≤ b ∧ b ≤ 12) (hk : 1000 ≤ k) :
    impl_coloured.f k s a b = some ((cafter s.data.toList (a, a, b, b)).1, (cafter s.data.toList (a, a, b, b)).2.1, (cafter s.data.toList (a, a, b, b)).2.2.1, (cafter s.data.toList (a, a, b, b)).2.2.2) := by
  unfold impl_coloured.f
  have := impl_coloured_l0 s (by omega) s.size 0 (a, a, b, b) (by omega) ⟨by simp only; omega, by simp only; omega, by simp only; omega, by simp only; omega⟩ k (by omega)
  rw [List.drop_zero] at this
  exact this
theorem impl_isShort_f (s : ByteArray) (hs : s.size ≤ 100000000) : impl_isShort.f s = some (decide (DanceP s ∧ s.size ≤ 24)) := by
  unfold impl_isShort.f
  rw [impl_isDance_f s hs]; simp only [Option.bind_some]
  by_cases h : (s.size : Int) ≤ 24
  · rw [if_pos h]; exact dec_iff ⟨fun x => ⟨x, by omega⟩, fun x => x.1⟩
  · rw [if_neg h]; exact (dec_false (fun x => by have := x.2; omega)).symm

-- impl_CountTied
theorem impl_alike_f (a b n : Int) (hn : n ≠ 0) : impl_alike.f a b n = some (decide (Int.tmod (wrap64 (a - b)) n = 0)) := by
  unfold impl_alike.f; rw [if_neg hn]; rfl
theorem coloured_cend (s : ByteArray) (hs : s.size ≤ 24) {i j : Nat} (hi : i ≤ 12) (hj : j ≤ 12) {k : Nat} (hk : 1000 ≤ k) : impl_coloured.f k s (i : Int) (j : Int) = some ((cend s i j).1, (cend s i j).2.1, (cend s i j).2.2.1, (cend s i j).2.2.2) := by
  unfold cend; exact impl_coloured_f s _ _ hs (by omega) (by omega) hk
theorem impl_CountTied_l1 (s : ByteArray) (hs : s.size ≤ 24) {m : Nat} (hm : 1 ≤ m) (hm' : m ≤ 12) {i : Nat} (hi : i < m) (acc : Int) (h0 : 0 ≤ acc ∧ acc ≤ 1000) (n : Nat) : ∀ j : Nat, j + n = m → ∀ k, n + 1000 ≤ k →
    impl_CountTied.l1 k s (m : Int) (acc + sumR (tiedC s m i) j) (i : Int) (m : Int) (i : Int) (m : Int) (j : Int) = impl_CountTied.l0 (k - (n + 1)) s (m : Int) (acc + sumR (tiedC s m i) m) (m : Int) ((i + 1 : Nat) : Int) := by
  induction n with
  | zero =>
    intro j hj k hk
    obtain ⟨k, rfl⟩ : ∃ q, k = q + 1 := ⟨k - 1, by omega⟩
    simp only [impl_CountTied.l1]
    rw [if_neg (by omega), show j = m by omega, wrap64_in (n := (i : Int) + 1) (by omega) (by omega)]; rfl
  | succ n ih =>
    intro j hj k hk
    obtain ⟨k, rfl⟩ : ∃ q, k = q + 1 := ⟨k - 1, by omega⟩
    have b := sumR_bd (tiedC_bd s m i) j
    have IH := ih (j + 1) (by omega) k (by omega)
    simp only [sumR] at IH
    rw [show k + 1 - (n + 1 + 1) = k - (n + 1) by omega, ← IH]
    simp only [impl_CountTied.l1]
    rw [if_pos (by omega), coloured_cend s hs (by omega) (by omega) (by omega)]; simp only [Option.bind_some]
    rw [impl_alike_f _ _ _ (by omega), impl_alike_f _ _ _ (by omega)]; simp only [Option.bind_some, decide_eq_true_eq]
    rw [wrap64_in (n := (j : Int) + 1) (by omega) (by omega), wrap64_in (n := acc + sumR (tiedC s m i) j + 1) (by omega) (by omega), show ((j : Int) + 1) = ((j + 1 : Nat) : Int) by omega]
    by_cases h1 : Int.tmod (wrap64 ((cend s i j).1 - (cend s i j).2.1)) (m : Int) = 0
    · rw [if_pos h1]
      by_cases h2 : Int.tmod (wrap64 ((cend s i j).2.2.1 - (cend s i j).2.2.2)) (m : Int) = 0
      · rw [if_pos h2, show tiedC s m i j = 1 from if_pos ⟨h1, h2⟩, Int.add_assoc]
      · rw [if_neg h2, show tiedC s m i j = 0 from if_neg (fun x => h2 x.2), Int.add_zero]
    · rw [if_neg h1, show tiedC s m i j = 0 from if_neg (fun x => h1 x.1), Int.add_zero]
theorem impl_CountTied_l0 (s : ByteArray) (hs : s.size ≤ 24) {m : Nat} (hm : 1 ≤ m) (hm' : m ≤ 12) (n : Nat) : ∀ i : Nat, i + n = m → ∀ k, n * 20 + 2000 ≤ k →
    impl_CountTied.l0 k s (m : Int) (sumR (fun a => sumR (tiedC s m a) m) i) (m : Int) (i : Int) = some (tiedN s m) := by
  induction n with
  | zero =>
    intro i hi k hk
    obtain ⟨k, rfl⟩ : ∃ q, k = q + 1 := ⟨k - 1, by omega⟩
    simp only [impl_CountTied.l0]
    rw [if_neg (by omega), show i = m by omega]; rfl
  | succ n ih =>
    intro i hi k hk
    obtain ⟨k, rfl⟩ : ∃ q, k = q + 1 := ⟨k - 1, by omega⟩
    have b := sumR_bd2 (B := m) (fun a => row_bd s m a) i
    have hB : (i : Int) * (m : Int) ≤ 12 * 12 := Int.mul_le_mul (by omega) (by omega) (by omega) (by omega)
    simp only [impl_CountTied.l0]
    rw [if_pos (by omega)]
    have L := impl_CountTied_l1 s hs hm hm' (i := i) (by omega) (sumR (fun a => sumR (tiedC s m a) m) i) (by omega) m 0 (by omega) k (by omega)
    rw [show sumR (tiedC s m i) 0 = 0 from rfl, Int.add_zero] at L
    rw [show ((0 : Nat) : Int) = 0 from rfl] at L
    rw [L]
    exact ih (i + 1) (by omega) (k - (m + 1)) (by omega)
theorem impl_CountTied_f (s : ByteArray) (n : Int) {k : Nat} (hs : s.size ≤ 100000000) (hk : 10000 ≤ k) : impl_CountTied.f k s n = some (tiedcv s n) := by
  obtain ⟨k, rfl⟩ : ∃ m, k = m + 1 := ⟨k - 1, by omega⟩
  unfold impl_CountTied.f tiedcv
  rw [impl_isShort_f s hs]; simp only [Option.bind_some, decide_eq_true_eq, impl_CountTied.j0]
  by_cases h : DanceP s ∧ s.size ≤ 24
  · rw [if_pos h]
    by_cases h1 : n < 1
    · rw [if_pos h1, if_pos trivial, if_neg (fun x => by omega)]
    · rw [if_neg h1]
      by_cases h2 : n > 12
      · rw [if_pos h2, if_neg (fun x => by omega)]
      · rw [if_neg h2, if_pos ⟨h, by omega⟩]
        obtain ⟨m, rfl⟩ : ∃ m : Nat, n = (m : Int) := ⟨n.toNat, by omega⟩
        have := impl_CountTied_l0 s h.2 (m := m) (by omega) (by omega) m 0 (by omega) k (by omega)
        simpa [sumR] using this
  · rw [if_neg h, if_pos trivial, if_neg (fun x => h x.1)]

-- spec_DanceOk
theorem spec_DanceOk_l0 (s : ByteArray) (hs : s.size ≤ 1000000000) (n : Nat) : ∀ i : Nat, i + n = s.size → ∀ k, n < k → spec_DanceOk.l0 k s (i : Int) = some (decide (s.size ≤ 40 ∧ AllM (s.data.toList.drop i))) := by
  induction n with
  | zero =>
    intro i hi k hk
    obtain ⟨k, rfl⟩ : ∃ m, k = m + 1 := ⟨k - 1, by omega⟩
    simp only [spec_DanceOk.l0]
    rw [if_neg (by omega), drop_end (by omega)]
    exact dec_iff ⟨fun x => ⟨by omega, allM_nil⟩, fun x => by omega⟩
  | succ n ih =>
    intro i hi k hk
    obtain ⟨k, rfl⟩ : ∃ m, k = m + 1 := ⟨k - 1, by omega⟩
    obtain ⟨c, hd, hb⟩ := bt_drop (s := s) (i := i) (by omega)
    simp only [spec_DanceOk.l0]
    rw [if_pos (by omega), if_pos (by omega), hb, hd, wrap64_in (by omega) (by omega), show ((i : Int) + 1) = ((i + 1 : Nat) : Int) by omega, ih (i + 1) (by omega) k (by omega)]
    have e1 : (((c.toNat : Nat) : Int) = 84) ↔ c = 84 := u8_eq (n := 84) (by omega)
    have e2 : (((c.toNat : Nat) : Int) = 116) ↔ c = 116 := u8_eq (n := 116) (by omega)
    have e3 : (((c.toNat : Nat) : Int) = 82) ↔ c = 82 := u8_eq (n := 82) (by omega)
    have yes : MoveP c → some (decide (s.size ≤ 40 ∧ AllM (s.data.toList.drop (i + 1)))) = some (decide (s.size ≤ 40 ∧ AllM (c :: s.data.toList.drop (i + 1)))) := by
      intro h; exact dec_iff ⟨fun x => ⟨x.1, (allM_cons _ _).2 ⟨h, x.2⟩⟩, fun x => ⟨x.1, ((allM_cons _ _).1 x.2).2⟩⟩
    by_cases h1 : c = 84
    · rw [if_pos (e1.2 h1)]; exact yes (.inl h1)
    · rw [if_neg (fun x => h1 (e1.1 x))]
      by_cases h2 : c = 116
      · rw [if_pos (e2.2 h2)]; exact yes (.inr (.inl h2))
      · rw [if_neg (fun x => h2 (e2.1 x))]
        by_cases h3 : c = 82
        · rw [if_pos (e3.2 h3)]; exact yes (.inr (.inr h3))
        · rw [if_neg (fun x => h3 (e3.1 x))]
          exact (dec_false (fun x => by rcases ((allM_cons _ _).1 x.2).1 with y | y | y <;> contradiction)).symm
theorem spec_DanceOk_f (s : ByteArray) {k : Nat} (hs : s.size ≤ 100000000) (hk : 100000001 ≤ k) : spec_DanceOk.f k s = some (decide (DanceP s)) := by
  unfold spec_DanceOk.f
  have := spec_DanceOk_l0 s (by omega) s.size 0 (by omega) k (by omega)
  rw [show ((0 : Nat) : Int) = 0 from rfl] at this
  rw [this]
  exact dec_iff (by unfold DanceP DanceL; simp)

-- spec_l1In
theorem spec_l1In_f (a b c : Int) : spec_l1In.f a b c = some (decide (b ≤ a ∧ a ≤ c)) := by
  unfold spec_l1In.f
  by_cases h : b ≤ a
  · rw [if_pos h]; exact dec_iff ⟨fun x => ⟨h, x⟩, fun x => x.2⟩
  · rw [if_neg h]; exact (dec_false (fun x => h x.1)).symm

-- spec_ColoursAfter
theorem spec_l8Moved_f {B : Nat} {c : Int × Int × Int × Int} (h : ColBd B c) (hB : B ≤ 1000000000000000) (m : UInt8) : spec_l8Moved.f c.1 c.2.1 c.2.2.1 c.2.2.2 ((m.toNat : Nat) : Int) = some (cmove c m) := by
  obtain ⟨a, b, d, e⟩ := c
  unfold ColBd at h
  unfold spec_l8Moved.f cmove
  simp only at *
  have e1 : (((m.toNat : Nat) : Int) = 84) ↔ m = 84 := u8_eq (n := 84) (by omega)
  have e2 : (((m.toNat : Nat) : Int) = 116) ↔ m = 116 := u8_eq (n := 116) (by omega)
  by_cases h1 : m = 84
  · rw [if_pos (e1.2 h1), if_pos h1, wrap64_in (n := 2 * b) (by omega) (by omega), wrap64_in (by omega) (by omega)]
  · rw [if_neg (fun x => h1 (e1.1 x)), if_neg h1]
    by_cases h2 : m = 116
    · rw [if_pos (e2.2 h2), if_pos h2, wrap64_in (n := 2 * e) (by omega) (by omega), wrap64_in (by omega) (by omega)]
    · rw [if_neg (fun x => h2 (e2.1 x)), if_neg h2]
theorem spec_ColoursAfter_l0 (s : ByteArray) (hs : s.size ≤ 24) (n : Nat) : ∀ (i : Nat) (c : Int × Int × Int × Int), i + n = s.size → ColBd (12 * 3 ^ i) c → ∀ k, n < k →
    spec_ColoursAfter.l0 k s (i : Int) c.1 c.2.1 c.2.2.1 c.2.2.2 = some ((cafter (s.data.toList.drop i) c).1, (cafter (s.data.toList.drop i) c).2.1, (cafter (s.data.toList.drop i) c).2.2.1, (cafter (s.data.toList.drop i) c).2.2.2, true) := by
  induction n with
  | zero =>
    intro i c hi hc k hk
    obtain ⟨k, rfl⟩ : ∃ m, k = m + 1 := ⟨k - 1, by omega⟩
    simp only [spec_ColoursAfter.l0]
    rw [if_neg (by omega), drop_end (by omega)]; rfl
  | succ n ih =>
    intro i c hi hc k hk
    obtain ⟨k, rfl⟩ : ∃ m, k = m + 1 := ⟨k - 1, by omega⟩
    obtain ⟨m, hd, hb⟩ := bt_drop (s := s) (i := i) (by omega)
    have hp : 3 ^ i ≤ 3 ^ 24 := Nat.pow_le_pow_right (by omega) (by omega)
    simp only [spec_ColoursAfter.l0]
    rw [if_pos (by omega), if_pos (by omega), hb, spec_l8Moved_f hc (by omega) m, hd, wrap64_in (by omega) (by omega), show ((i : Int) + 1) = ((i + 1 : Nat) : Int) by omega]; simp only [Option.bind_some]
    have hc' : ColBd (12 * 3 ^ (i + 1)) (cmove c m) := by
      have := cmove_bd hc m
      rw [Nat.pow_succ, show 12 * (3 ^ i * 3) = 3 * (12 * 3 ^ i) by omega]
      exact this
    rw [ih (i + 1) (cmove c m) (by omega) hc' k (by omega)]
    rfl
theorem spec_ColoursAfter_f (s : ByteArray) (a b : Int) {k : Nat} (hs : s.size ≤ 100000000) (hk : 100000001 ≤ k) : spec_ColoursAfter.f k s a b = some (colv s a b) := by
  obtain ⟨k, rfl⟩ : ∃ m, k = m + 1 := ⟨k - 1, by omega⟩
  unfold spec_ColoursAfter.f colv
  rw [spec_DanceOk_f s hs (by omega)]; simp only [Option.bind_some, decide_eq_true_eq, spec_l1In_f]
  have no : spec_ColoursAfter.j0 (k + 1) s a b true = some (0, 0, 0, 0, false) := by simp only [spec_ColoursAfter.j0]; rw [if_pos trivial]
  by_cases h : DanceP s
  · rw [if_pos h]
    by_cases h1 : (s.size : Int) > 24
    · rw [if_pos h1, no, if_neg (fun x => by have := x.1.2; omega)]
    · rw [if_neg h1]
      by_cases h2 : 0 ≤ a ∧ a ≤ 12
      · rw [if_pos h2]
        by_cases h3 : 0 ≤ b ∧ b ≤ 12
        · rw [decide_eq_true h3, if_pos (show ColArgs s a b from ⟨⟨h, by omega⟩, h2, h3⟩)]
          simp only [spec_ColoursAfter.j0]
          rw [if_neg (by decide)]
          have := spec_ColoursAfter_l0 s (by omega) s.size 0 (a, a, b, b) (by omega) ⟨by simp only; omega, by simp only; omega, by simp only; omega, by simp only; omega⟩ k (by omega)
          rw [List.drop_zero] at this
          exact this
        · rw [decide_eq_false h3, if_neg (fun x => h3 x.2.2)]; exact no
      · rw [if_neg h2, no, if_neg (fun x => h2 x.2.1)]
  · rw [if_neg h, no, if_neg (fun x => h x.1.1)]

-- spec_CountTied
theorem spec_CountTied_l0 (s : ByteArray) (h : DanceP s) (hs : s.size ≤ 24) {m : Nat} (hm : 1 ≤ m) (hm' : m ≤ 12) (n : Nat) : ∀ i : Nat, i + n = m * m → ∀ k, n + 100000002 ≤ k →
    spec_CountTied.l0 k s (m : Int) (sumR (fun c => tiedC s m (c / m) (c % m)) i) (i : Int) = some (sumR (fun c => tiedC s m (c / m) (c % m)) (m * m)) := by
  have hmm : m * m ≤ 12 * 12 := Nat.mul_le_mul hm' hm'
  have em : ((m : Int) * (m : Int)) = ((m * m : Nat) : Int) := by simp
  induction n with
  | zero =>
    intro i hi k hk
    obtain ⟨k, rfl⟩ : ∃ q, k = q + 1 := ⟨k - 1, by omega⟩
    simp only [spec_CountTied.l0]
    rw [em, wrap64_in (by omega) (by omega), if_neg (by omega), show i = m * m by omega]
  | succ n ih =>
    intro i hi k hk
    obtain ⟨k, rfl⟩ : ∃ q, k = q + 1 := ⟨k - 1, by omega⟩
    have b := sumR_bd (f := fun c => tiedC s m (c / m) (c % m)) (fun c => tiedC_bd s m _ _) i
    have hd : i / m < m := Nat.div_lt_of_lt_mul (by omega)
    have hr : i % m < m := Nat.mod_lt _ (by omega)
    have IH := ih (i + 1) (by omega) k (by omega)
    have e1 : Int.tdiv (i : Int) (m : Int) = ((i / m : Nat) : Int) := rfl
    have e2 : Int.tmod (i : Int) (m : Int) = ((i % m : Nat) : Int) := rfl
    simp only [sumR] at IH
    revert hd hr e1 e2 IH
    generalize i / m = q
    generalize i % m = r
    intro hd hr IH e1 e2
    simp only [spec_CountTied.l0]
    rw [em, wrap64_in (n := ((m * m : Nat) : Int)) (by omega) (by omega), if_pos (by omega), if_neg (by omega), e1, e2, wrap64_in (n := ((q : Nat) : Int)) (by omega) (by omega), spec_ColoursAfter_f _ _ _ (by omega) (by omega)]
    simp only [Option.bind_some]
    rw [colv_cend s h hs (by omega) (by omega), wrap64_in (n := (i : Int) + 1) (by omega) (by omega), wrap64_in (n := sumR (fun c => tiedC s m (c / m) (c % m)) i + 1) (by omega) (by omega), show ((i : Int) + 1) = ((i + 1 : Nat) : Int) by omega]
    by_cases h1 : Int.tmod (wrap64 ((cend s q r).1 - (cend s q r).2.1)) (m : Int) = 0
    · rw [if_pos h1]
      by_cases h2 : Int.tmod (wrap64 ((cend s q r).2.2.1 - (cend s q r).2.2.2)) (m : Int) = 0
      · rw [if_pos h2, ← IH, show tiedC s m q r = 1 from if_pos ⟨h1, h2⟩]
      · rw [if_neg h2, ← IH, show tiedC s m q r = 0 from if_neg (fun x => h2 x.2), Int.add_zero]
    · rw [if_neg h1, ← IH, show tiedC s m q r = 0 from if_neg (fun x => h1 x.1), Int.add_zero]
theorem colv_ok (s : ByteArray) : (colv s 0 0).2.2.2.2 = decide (DanceP s ∧ s.size ≤ 24) := by
  unfold colv
  by_cases h : DanceP s ∧ s.size ≤ 24
  · rw [if_pos ⟨h, by omega, by omega⟩, decide_eq_true h]
  · rw [if_neg (fun x => h x.1), decide_eq_false h]
theorem spec_CountTied_f (s : ByteArray) (n : Int) {k : Nat} (hs : s.size ≤ 100000000) (hk : 100001001 ≤ k) : spec_CountTied.f k s n = some (tiedcv s n) := by
  obtain ⟨k, rfl⟩ : ∃ m, k = m + 1 := ⟨k - 1, by omega⟩
  unfold spec_CountTied.f tiedcv
  rw [spec_ColoursAfter_f _ _ _ (by omega) (by omega)]; simp only [Option.bind_some, colv_ok, decide_eq_true_eq, spec_l1In_f, spec_CountTied.j0]
  by_cases h : DanceP s ∧ s.size ≤ 24
  · rw [if_pos h]
    by_cases h1 : 1 ≤ n ∧ n ≤ 12
    · rw [decide_eq_true h1, if_neg (by decide), if_pos ⟨h, h1⟩]
      obtain ⟨m, rfl⟩ : ∃ m : Nat, n = (m : Int) := ⟨n.toNat, by omega⟩
      have hmm : m * m ≤ 12 * 12 := Nat.mul_le_mul (by omega) (by omega)
      have := spec_CountTied_l0 s h.1 h.2 (m := m) (by omega) (by omega) (m * m) 0 (by omega) k (by omega)
      rw [sumR_flat (tiedC s m) (by omega)] at this
      simpa [sumR, tiedN] using this
    · rw [decide_eq_false h1, if_pos (by decide), if_neg (fun x => h1 x.2)]
  · rw [if_neg h, if_pos trivial, if_neg (fun x => h x.1)]

theorem FnExactCountTied (s : ByteArray) (n : Int) (_ : s.size ≤ 140737488351232) (_ : (Lit.int .i64 n).wf = true) :
    ∃ k, laws_FnExactCountTied.f k s n = some true := by
  refine ⟨100002000, ?_⟩
  unfold laws_FnExactCountTied.f
  by_cases h : (s.size : Int) > 1048576
  · rw [if_pos h]
  · rw [if_neg h, spec_CountTied_f s n (by omega) (by omega)]; simp only [Option.bind_some]
    rw [impl_CountTied_f s n (by omega) (by omega)]; simp only [Option.bind_some]
    rw [if_pos trivial]

end Go.Proofs.YtkjefpihjgflhaaDoor.Pure
