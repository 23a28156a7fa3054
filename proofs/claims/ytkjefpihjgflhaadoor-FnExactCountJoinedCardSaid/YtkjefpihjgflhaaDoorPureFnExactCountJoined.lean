/- FnExactCountJoined: the program's CountJoined answers as the reference's does, for all arguments. -/
import Derived.Test.YtkjefpihjgflhaaDoorPFnExactCountJoinedx0
import Derived.Test.YtkjefpihjgflhaaDoorPFnExactCountJoinedx1
import Derived.Test.YtkjefpihjgflhaaDoorPFnExactCountJoinedx2
import Derived.Test.YtkjefpihjgflhaaDoorPFnExactCountJoinedx3
import Derived.Test.YtkjefpihjgflhaaDoorPFnExactCountJoinedx4
import Derived.Test.YtkjefpihjgflhaaDoorPFnExactCountJoinedx5
set_option linter.unusedVariables false
set_option linter.unusedSimpArgs false
namespace Go.Proofs.YtkjefpihjgflhaaDoor.Pure
open Go.RowKit Go.Proofs.YtkjefpihjgflhaaDoor.PFnExactCountJoined Go.Proofs.YtkjefpihjgflhaaDoorW.PrintWords Go.Proofs.YtkjefpihjgflhaaDoorW.PrintLast Go.Proofs.YtkjefpihjgflhaaDoorW.PrintMore Go.Proofs.YtkjefpihjgflhaaDoor.Lib

-- base
theorem wrap64_in {n : Int} (h : -9223372036854775808 ≤ n) (h' : n ≤ 9223372036854775807) : wrap64 n = n := by unfold wrap64; omega
theorem i64_of_wf {n : Int} (h : (Lit.int .i64 n).wf = true) : -9223372036854775808 ≤ n ∧ n ≤ 9223372036854775807 := by
  simpa [Lit.wf, IntKind.min, IntKind.max, IntKind.signed, IntKind.bits] using h
theorem bigk : ∃ k : Nat, 1000000000 ≤ k := ⟨1000000000, Nat.le_refl _⟩
theorem dec_true {p : Prop} [Decidable p] (h : p) : some (decide p) = some true := by simp [h]
theorem dec_false {p : Prop} [Decidable p] (h : ¬ p) : some (decide p) = some false := by simp [h]
theorem dec_iff {p q : Prop} [Decidable p] [Decidable q] (h : p ↔ q) : some (decide p) = some (decide q) := by simp [h]
theorem ite_to {c : Prop} [Decidable c] {α : Type} {x y z : α} (h1 : c → x = z) (h2 : ¬ c → y = z) : (if c then x else y) = z := by
  by_cases h : c
  · rw [if_pos h]; exact h1 h
  · rw [if_neg h]; exact h2 h

-- bytes
theorem bt_drop {s : ByteArray} {i : Nat} (h : i < s.size) : ∃ c : UInt8, s.data.toList.drop i = c :: s.data.toList.drop (i + 1) ∧ bt s (i : Int) = ((c.toNat : Nat) : Int) := by
  have hl : i < s.data.toList.length := by simpa using h
  refine ⟨s.data.toList[i], List.drop_eq_getElem_cons hl, ?_⟩
  unfold bt
  rw [dif_pos (by simpa using h)]
  simp
  rfl
theorem drop_end {s : ByteArray} {i : Nat} (h : s.size ≤ i) : s.data.toList.drop i = [] := List.drop_of_length_le (by simpa using h)
theorem toList_length (s : ByteArray) : s.data.toList.length = s.size := by simp
theorem u8_eq {c : UInt8} {n : Nat} (hn : n < 256) : ((c.toNat : Nat) : Int) = (n : Int) ↔ c = UInt8.ofNat n := by
  constructor
  · intro h
    apply UInt8.toNat_inj.1
    rw [UInt8.toNat_ofNat']
    omega
  · intro h
    subst h
    rw [UInt8.toNat_ofNat']
    omega

-- dancemath
def MoveP (c : UInt8) : Prop := c = 84 ∨ c = 116 ∨ c = 82
instance (c : UInt8) : Decidable (MoveP c) := by unfold MoveP; infer_instance
def AllM (l : List UInt8) : Prop := ∀ c ∈ l, MoveP c
instance (l : List UInt8) : Decidable (AllM l) := by unfold AllM; infer_instance
theorem allM_nil : AllM [] := by intro c h; simp at h
theorem allM_cons (c : UInt8) (l : List UInt8) : AllM (c :: l) ↔ MoveP c ∧ AllM l := by unfold AllM; simp
/-- A dance: of at most 40 moves. -/
def DanceL (l : List UInt8) : Prop := l.length ≤ 40 ∧ AllM l
instance (l : List UInt8) : Decidable (DanceL l) := by unfold DanceL; infer_instance
def DanceP (s : ByteArray) : Prop := DanceL s.data.toList
instance (s : ByteArray) : Decidable (DanceP s) := by unfold DanceP; infer_instance

-- colmath
/-- Colours after a move, and after moves: above left, above right, below left, below right. -/
def cmove (c : Int × Int × Int × Int) (m : UInt8) : Int × Int × Int × Int :=
  if m = 84 then (c.1, 2 * c.2.1 - c.2.2.2, c.2.2.1, c.2.1) else if m = 116 then (c.1, c.2.2.2, c.2.2.1, 2 * c.2.2.2 - c.2.1) else (c.2.2.1, c.1, c.2.2.2, c.2.1)
def cafter (l : List UInt8) (c : Int × Int × Int × Int) : Int × Int × Int × Int := l.foldl cmove c
def ColBd (B : Nat) (c : Int × Int × Int × Int) : Prop := c.1.natAbs ≤ B ∧ c.2.1.natAbs ≤ B ∧ c.2.2.1.natAbs ≤ B ∧ c.2.2.2.natAbs ≤ B
theorem cmove_bd {B : Nat} {c : Int × Int × Int × Int} (h : ColBd B c) (m : UInt8) : ColBd (3 * B) (cmove c m) := by
  obtain ⟨a, b, d, e⟩ := c
  unfold ColBd cmove at *
  simp only at *
  split
  · simp only; omega
  · split
    · simp only; omega
    · simp only; omega
def ColArgs (s : ByteArray) (a b : Int) : Prop := (DanceP s ∧ s.size ≤ 24) ∧ (0 ≤ a ∧ a ≤ 12) ∧ (0 ≤ b ∧ b ≤ 12)
instance (s : ByteArray) (a b : Int) : Decidable (ColArgs s a b) := by unfold ColArgs; infer_instance
/-- What ColoursAfter answers. -/
def colv (s : ByteArray) (a b : Int) : Int × Int × Int × Int × Bool :=
  if ColArgs s a b then ((cafter s.data.toList (a, a, b, b)).1, (cafter s.data.toList (a, a, b, b)).2.1, (cafter s.data.toList (a, a, b, b)).2.2.1, (cafter s.data.toList (a, a, b, b)).2.2.2, true) else (0, 0, 0, 0, false)

-- summath
/-- f 0 + .. + f (n - 1) -/
def sumR (f : Nat → Int) : Nat → Int
  | 0 => 0
  | n + 1 => sumR f n + f n
theorem sumR_congr {f g : Nat → Int} {n : Nat} (h : ∀ i, i < n → f i = g i) : sumR f n = sumR g n := by
  induction n with
  | zero => rfl
  | succ n ih => simp only [sumR]; rw [ih (fun i hi => h i (by omega)), h n (by omega)]
theorem sumR_add (f : Nat → Int) (a b : Nat) : sumR f (a + b) = sumR f a + sumR (fun j => f (a + j)) b := by
  induction b with
  | zero => simp [sumR]
  | succ b ih => rw [← Nat.add_assoc]; simp only [sumR]; rw [ih]; omega
theorem sumR_plus (f g : Nat → Int) (n : Nat) : sumR (fun i => f i + g i) n = sumR f n + sumR g n := by
  induction n with
  | zero => rfl
  | succ n ih => simp only [sumR]; rw [ih]; omega
theorem sumR_zero (n : Nat) : sumR (fun _ => 0) n = 0 := by
  induction n with
  | zero => rfl
  | succ n ih => simp only [sumR]; rw [ih]; rfl
theorem sumR_swap (f : Nat → Nat → Int) (m n : Nat) : sumR (fun i => sumR (f i) m) n = sumR (fun j => sumR (fun i => f i j) n) m := by
  induction n with
  | zero => simp only [sumR]; rw [sumR_zero]
  | succ n ih => simp only [sumR]; rw [ih, sumR_plus]
theorem sumR_flat (g : Nat → Nat → Int) {m : Nat} (hm : 0 < m) (n : Nat) : sumR (fun c => g (c / m) (c % m)) (n * m) = sumR (fun a => sumR (g a) m) n := by
  induction n with
  | zero => simp [sumR]
  | succ n ih =>
    rw [Nat.succ_mul, sumR_add, ih]; simp only [sumR]
    rw [sumR_congr (f := fun j => g ((n * m + j) / m) ((n * m + j) % m)) (g := g n) fun j hj => ?_]
    rw [Nat.mul_comm n m, Nat.mul_add_div hm, Nat.mul_add_mod, Nat.div_eq_of_lt hj, Nat.mod_eq_of_lt hj, Nat.add_zero]
theorem sumR_bd {f : Nat → Int} (h : ∀ i, 0 ≤ f i ∧ f i ≤ 1) (n : Nat) : 0 ≤ sumR f n ∧ sumR f n ≤ (n : Int) := by
  induction n with
  | zero => simp [sumR]
  | succ n ih => have := h n; simp only [sumR]; omega
theorem sumR_bd2 {f : Nat → Int} {B : Nat} (h : ∀ i, 0 ≤ f i ∧ f i ≤ (B : Int)) (n : Nat) : 0 ≤ sumR f n ∧ sumR f n ≤ (n : Int) * (B : Int) := by
  induction n with
  | zero => simp [sumR]
  | succ n ih => have := h n; simp only [sumR]; rw [show ((n + 1 : Nat) : Int) * (B : Int) = (n : Int) * B + B by rw [Int.natCast_add, Int.add_mul]; omega]; omega

-- tiedcmath
def tiedQ (v : Int × Int × Int × Int) (n : Int) : Prop := Int.tmod (wrap64 (v.1 - v.2.1)) n = 0 ∧ Int.tmod (wrap64 (v.2.2.1 - v.2.2.2)) n = 0
instance (v : Int × Int × Int × Int) (n : Int) : Decidable (tiedQ v n) := by unfold tiedQ; infer_instance
/-- Colours after a dance from colours in two numbers. -/
def cend (s : ByteArray) (i j : Nat) : Int × Int × Int × Int := cafter s.data.toList ((i : Int), (i : Int), (j : Int), (j : Int))
def tiedC (s : ByteArray) (n : Int) (i j : Nat) : Int := if tiedQ (cend s i j) n then 1 else 0
theorem tiedC_bd (s : ByteArray) (n : Int) (i j : Nat) : 0 ≤ tiedC s n i j ∧ tiedC s n i j ≤ 1 := by unfold tiedC; split <;> omega
theorem colv_cend (s : ByteArray) (h : DanceP s) (hs : s.size ≤ 24) {i j : Nat} (hi : i ≤ 12) (hj : j ≤ 12) : colv s (i : Int) (j : Int) = ((cend s i j).1, (cend s i j).2.1, (cend s i j).2.2.1, (cend s i j).2.2.2, true) := by
  unfold colv cend; rw [if_pos ⟨⟨h, hs⟩, by omega, by omega⟩]
def tiedN (s : ByteArray) (m : Nat) : Int := sumR (fun a => sumR (tiedC s m a) m) m
/-- What CountTied answers. -/
def tiedcv (s : ByteArray) (n : Int) : Int := if (DanceP s ∧ s.size ≤ 24) ∧ 1 ≤ n ∧ n ≤ 12 then tiedN s n.toNat else -1
theorem row_bd (s : ByteArray) (m a : Nat) : 0 ≤ sumR (tiedC s m a) m ∧ sumR (tiedC s m a) m ≤ (m : Int) := sumR_bd (tiedC_bd s m a) m
theorem colv_ok (s : ByteArray) : (colv s 0 0).2.2.2.2 = decide (DanceP s ∧ s.size ≤ 24) := by
  unfold colv
  by_cases h : DanceP s ∧ s.size ≤ 24
  · rw [if_pos ⟨h, by omega, by omega⟩, decide_eq_true h]
  · rw [if_neg (fun x => h x.1), decide_eq_false h]

-- joincmath
def joinQ (u v : Int × Int × Int × Int) (n : Int) : Prop := Int.tmod (wrap64 (u.2.1 - v.1)) n = 0 ∧ Int.tmod (wrap64 (u.2.2.2 - v.2.2.1)) n = 0 ∧ Int.tmod (wrap64 (u.1 - v.2.1)) n = 0 ∧ Int.tmod (wrap64 (u.2.2.1 - v.2.2.2)) n = 0
instance (u v : Int × Int × Int × Int) (n : Int) : Decidable (joinQ u v n) := by unfold joinQ; infer_instance
def joinC (s t : ByteArray) (n : Int) (i j p q : Nat) : Int := if joinQ (cend s i j) (cend t p q) n then 1 else 0
theorem joinC_bd (s t : ByteArray) (n : Int) (i j p q : Nat) : 0 ≤ joinC s t n i j p q ∧ joinC s t n i j p q ≤ 1 := by unfold joinC; split <;> omega
def joinN (s t : ByteArray) (m : Nat) : Int := sumR (fun p => sumR (fun q => sumR (fun i => sumR (fun j => joinC s t m i j p q) m) m) m) m
/-- The count as the reference walks: a pair's code, then the other's. -/
theorem joinN_spec (s t : ByteArray) {m : Nat} (hm : 0 < m) : sumR (fun c => sumR (fun d => joinC s t m (c / m) (c % m) (d / m) (d % m)) (m * m)) (m * m) = joinN s t m := by
  rw [sumR_swap]
  unfold joinN
  rw [← sumR_flat (fun p q => sumR (fun i => sumR (fun j => joinC s t m i j p q) m) m) hm]
  refine sumR_congr fun d _ => ?_
  exact sumR_flat (fun i j => joinC s t m i j (d / m) (d % m)) hm m
/-- The count as the program walks: one code. -/
theorem joinN_impl (s t : ByteArray) {m : Nat} (hm : 0 < m) : sumR (fun e => joinC s t m (e % m) (e / m % m) (e / m / m % m) (e / m / m / m)) (m * m * m * m) = joinN s t m := by
  rw [sumR_flat (fun q r => joinC s t m r (q % m) (q / m % m) (q / m / m)) hm]
  rw [sumR_flat (fun q r' => sumR (fun r => joinC s t m r r' (q % m) (q / m)) m) hm]
  rw [sumR_flat (fun q p => sumR (fun r' => sumR (fun r => joinC s t m r r' p q) m) m) hm]
  unfold joinN
  rw [sumR_swap]
  refine sumR_congr fun p _ => ?_
  refine sumR_congr fun q _ => ?_
  rw [sumR_swap]
/-- What CountJoined answers. -/
def joincv (s t : ByteArray) (n : Int) : Int := if ((DanceP s ∧ s.size ≤ 24) ∧ (DanceP t ∧ t.size ≤ 24)) ∧ 1 ≤ n ∧ n ≤ 5 then joinN s t n.toNat else -1

-- trimmath
theorem all_of_dropWhile {α : Type} (p : α → Bool) : ∀ l : List α, (∀ x ∈ l.dropWhile p, p x = true) → ∀ x ∈ l, p x = true
  | [], _ => fun x hx => by simp at hx
  | a :: l, h => by
    intro x hx
    by_cases ha : p a = true
    · rw [List.dropWhile_cons_of_pos ha] at h
      rcases List.mem_cons.1 hx with rfl | hx
      · exact ha
      · exact all_of_dropWhile p l h x hx
    · rw [List.dropWhile_cons_of_neg ha] at h
      exact h x hx
theorem dropWhile_nil_of_all {α : Type} (p : α → Bool) : ∀ l : List α, (∀ x ∈ l, p x = true) → l.dropWhile p = []
  | [], _ => rfl
  | a :: l, h => by
    rw [List.dropWhile_cons_of_pos (h a (by simp))]
    exact dropWhile_nil_of_all p l fun x hx => h x (by simp [hx])
theorem all_of_dropWhile_nil {α : Type} (p : α → Bool) : ∀ l : List α, l.dropWhile p = [] → ∀ x ∈ l, p x = true :=
  fun l h => all_of_dropWhile p l (by rw [h]; simp)
theorem trimS_nil (l cs : List UInt8) : Go.Lib.trimS l cs = [] ↔ ∀ c ∈ l, c ∈ cs := by
  unfold Go.Lib.trimS Go.Lib.trimLeftS Go.Lib.trimRightS
  constructor
  · intro h
    have h1 := all_of_dropWhile_nil _ _ h
    have h2 := all_of_dropWhile (cs.contains ·) l.reverse (fun x hx => h1 x (by simpa using hx))
    intro c hc
    simpa using h2 c (by simpa using hc)
  · intro h
    rw [dropWhile_nil_of_all (cs.contains ·) l.reverse (fun x hx => by simpa using h x (by simpa using hx))]
    rfl
theorem strings_Trim_f {s : ByteArray} {cs : List UInt8} (hs : s.size ≤ 100000000) (hl : cs.length < 4294967281) (ha : cs.all (fun b => decide (b.toNat < 128)) = true) :
    strings_Trim.f s ⟨⟨cs⟩⟩ = some ⟨⟨Go.Lib.trimS s.data.toList cs⟩⟩ := by
  unfold strings_Trim.f
  rw [if_pos ⟨by omega, by simpa [ByteArray.size] using hl, ha⟩]

-- impl_isDance
theorem impl_areMoves_f (s : ByteArray) (hs : s.size ≤ 100000000) : impl_areMoves.f s = some (decide (AllM s.data.toList)) := by
  unfold impl_areMoves.f
  rw [strings_Trim_f hs (by decide) (by decide)]; simp only [Option.bind_some]
  have e : AllM s.data.toList ↔ Go.Lib.trimS s.data.toList [84, 116, 82] = [] := by
    rw [trimS_nil]; unfold AllM MoveP; simp
  by_cases h : AllM s.data.toList
  · rw [decide_eq_true h, e.1 h, ByteArray.toList_eq]; rfl
  · rw [decide_eq_false h]
    have h' : Go.Lib.trimS s.data.toList [84, 116, 82] ≠ [] := fun x => h (e.2 x)
    cases h2 : Go.Lib.trimS s.data.toList [84, 116, 82] with
    | nil => exact absurd h2 h'
    | cons a l => rw [ByteArray.toList_eq]; rfl
theorem impl_isDance_f (s : ByteArray) (hs : s.size ≤ 100000000) : impl_isDance.f s = some (decide (DanceP s)) := by
  unfold impl_isDance.f
  rw [impl_areMoves_f s hs]; simp only [Option.bind_some]
  have e : s.data.toList.length = s.size := rfl
  by_cases h : (s.size : Int) ≤ 40
  · rw [if_pos h]; exact dec_iff ⟨fun x => ⟨by omega, x⟩, fun x => x.2⟩
  · rw [if_neg h]; exact (dec_false (fun x => by have := x.1; omega)).symm

-- impl_coloured
theorem impl_coloured_l0 (s : ByteArray) (hs : s.size ≤ 24) (n : Nat) : ∀ (i : Nat) (c : Int × Int × Int × Int), i + n = s.size → ColBd (12 * 3 ^ i) c → ∀ k, n < k →
    impl_coloured.l0 k s (s.size : Int) (i : Int) c.1 c.2.1 c.2.2.1 c.2.2.2 = some ((cafter (s.data.toList.drop i) c).1, (cafter (s.data.toList.drop i) c).2.1, (cafter (s.data.toList.drop i) c).2.2.1, (cafter (s.data.toList.drop i) c).2.2.2) := by
  induction n with
  | zero =>
    intro i c hi hc k hk
    obtain ⟨k, rfl⟩ : ∃ m, k = m + 1 := ⟨k - 1, by omega⟩
    simp only [impl_coloured.l0]
    rw [if_neg (by omega), drop_end (by omega)]; rfl
  | succ n ih =>
    intro i c hi hc k hk
    obtain ⟨k, rfl⟩ : ∃ m, k = m + 1 := ⟨k - 1, by omega⟩
    obtain ⟨m, hd, hb⟩ := bt_drop (s := s) (i := i) (by omega)
    have hp : 3 ^ i ≤ 3 ^ 24 := Nat.pow_le_pow_right (by omega) (by omega)
    have hc' : ColBd (12 * 3 ^ (i + 1)) (cmove c m) := by
      have := cmove_bd hc m
      rw [Nat.pow_succ, show 12 * (3 ^ i * 3) = 3 * (12 * 3 ^ i) by omega]
      exact this
    have IH := ih (i + 1) (cmove c m) (by omega) hc' k (by omega)
    have e1 : (((m.toNat : Nat) : Int) = 84) ↔ m = 84 := u8_eq (n := 84) (by omega)
    have e2 : (((m.toNat : Nat) : Int) = 116) ↔ m = 116 := u8_eq (n := 116) (by omega)
    obtain ⟨c1, c2, c3, c4⟩ := c
    unfold ColBd at hc
    simp only at hc
    simp only [impl_coloured.l0]
    rw [if_pos (by omega), if_pos (by omega), if_pos (by omega), hb, hd, wrap64_in (n := (i : Int) + 1) (by omega) (by omega), show ((i : Int) + 1) = ((i + 1 : Nat) : Int) by omega]
    rw [show cafter (m :: s.data.toList.drop (i + 1)) (c1, c2, c3, c4) = cafter (s.data.toList.drop (i + 1)) (cmove (c1, c2, c3, c4) m) from rfl, ← IH]
    unfold cmove
    by_cases h1 : m = 84
    · rw [if_pos (e1.2 h1), if_pos h1, wrap64_in (n := 2 * c2) (by omega) (by omega), wrap64_in (by omega) (by omega)]
    · rw [if_neg (fun x => h1 (e1.1 x)), if_neg h1]
      by_cases h2 : m = 116
      · rw [if_pos (e2.2 h2), if_pos h2, wrap64_in (n := 2 * c4) (by omega) (by omega), wrap64_in (by omega) (by omega)]
      · rw [if_neg (fun x => h2 (e2.1 x)), if_neg h2]
theorem impl_coloured_f (s : ByteArray) (a b : Int) {k : Nat} (hs : s.size ≤ 24) (ha : 0 ≤ a ∧ a ≤ 12) (hb : 0 ≤ b ∧ b ≤ 12) (hk : 1000 ≤ k) :
    impl_coloured.f k s a b = some ((cafter s.data.toList (a, a, b, b)).1, (cafter s.data.toList (a, a, b, b)).2.1, (cafter s.data.toList (a, a, b, b)).2.2.1, (cafter s.data.toList (a, a, b, b)).2.2.2) := by
  unfold impl_coloured.f
  have := impl_coloured_l0 s (by omega) s.size 0 (a, a, b, b) (by omega) ⟨by simp only; omega, by simp only; omega, by simp only; omega, by simp only; omega⟩ k (by omega)
  rw [List.drop_zero] at this
  exact this
theorem impl_isShort_f (s : ByteArray) (hs : s.size ≤ 100000000) : impl_isShort.f s = some (decide (DanceP s ∧ s.size ≤ 24)) := by
  unfold impl_isShort.f
  rw [impl_isDance_f s hs]; simp only [Option.bind_some]
  by_cases h : (s.size : Int) ≤ 24
  · rw [if_pos h]; exact dec_iff ⟨fun x => ⟨x, by omega⟩, fun x => x.1⟩
  · rw [if_neg h]; exact (dec_false (fun x => by have := x.2; omega)).symm

-- impl_alike
theorem impl_alike_f (a b n : Int) (hn : n ≠ 0) : impl_alike.f a b n = some (decide (Int.tmod (wrap64 (a - b)) n = 0)) := by
  unfold impl_alike.f; rw [if_neg hn]; rfl
theorem coloured_cend (s : ByteArray) (hs : s.size ≤ 24) {i j : Nat} (hi : i ≤ 12) (hj : j ≤ 12) {k : Nat} (hk : 1000 ≤ k) : impl_coloured.f k s (i : Int) (j : Int) = some ((cend s i j).1, (cend s i j).2.1, (cend s i j).2.2.1, (cend s i j).2.2.2) := by
  unfold cend; exact impl_coloured_f s _ _ hs (by omega) (by omega) hk

-- impl_CountJoined
theorem impl_CountJoined_l0 (s t : ByteArray) (hs : s.size ≤ 24) (ht : t.size ≤ 24) {m : Nat} (hm : 1 ≤ m) (hm' : m ≤ 5) (n : Nat) : ∀ e : Nat, e + n = m * m * m * m → ∀ k, n * 2 + 2000 ≤ k →
    impl_CountJoined.l0 k s t (m : Int) (sumR (fun e => joinC s t m (e % m) (e / m % m) (e / m / m % m) (e / m / m / m)) e) ((m * m * m * m : Nat) : Int) (e : Int) = some (joinN s t m) := by
  have hmm : m * m * m * m ≤ 5 * 5 * 5 * 5 := Nat.mul_le_mul (Nat.mul_le_mul (Nat.mul_le_mul hm' hm') hm') hm'
  induction n with
  | zero =>
    intro e he k hk
    obtain ⟨k, rfl⟩ : ∃ q, k = q + 1 := ⟨k - 1, by omega⟩
    simp only [impl_CountJoined.l0]
    rw [if_neg (by omega), show e = m * m * m * m by omega, joinN_impl s t (by omega)]
  | succ n ih =>
    intro e he k hk
    obtain ⟨k, rfl⟩ : ∃ q, k = q + 2 := ⟨k - 2, by omega⟩
    have b := sumR_bd (f := fun e => joinC s t m (e % m) (e / m % m) (e / m / m % m) (e / m / m / m)) (fun e => joinC_bd s t m _ _ _ _) e
    have IH := ih (e + 1) (by omega) k (by omega)
    simp only [sumR] at IH
    rw [← IH]
    clear IH ih
    have hm0 : 0 < m := hm
    have h1 : e % m < m := Nat.mod_lt _ hm0
    have h2 : e / m % m < m := Nat.mod_lt _ hm0
    have h3 : e / m / m % m < m := Nat.mod_lt _ hm0
    have h4 : e / m / m / m < m := by
      rw [Nat.div_div_eq_div_mul, Nat.div_div_eq_div_mul]
      refine Nat.div_lt_of_lt_mul ?_
      have ee : m * (m * m) * m = m * m * m * m := by simp only [Nat.mul_assoc]
      rw [ee]; omega
    have e0 : Int.tmod (e : Int) (m : Int) = ((e % m : Nat) : Int) := rfl
    have e1 : Int.tdiv (e : Int) (m : Int) = ((e / m : Nat) : Int) := rfl
    have e2 : Int.tmod ((e / m : Nat) : Int) (m : Int) = ((e / m % m : Nat) : Int) := rfl
    have e3 : Int.tdiv ((e / m : Nat) : Int) (m : Int) = ((e / m / m : Nat) : Int) := rfl
    have e4 : Int.tmod ((e / m / m : Nat) : Int) (m : Int) = ((e / m / m % m : Nat) : Int) := rfl
    have e5 : Int.tdiv ((e / m / m : Nat) : Int) (m : Int) = ((e / m / m / m : Nat) : Int) := rfl
    have b1 : e / m ≤ e := Nat.div_le_self _ _
    have b2 : e / m / m ≤ e / m := Nat.div_le_self _ _
    revert h1 h2 h3 h4 e0 e1 e2 e3 e4 e5 b1 b2
    generalize e / m / m / m = q
    generalize e / m / m % m = p
    generalize e / m / m = x
    generalize e / m % m = j
    generalize e / m = y
    generalize e % m = i
    intro h1 h2 h3 h4 e0 e1 e2 e3 e4 e5 b1 b2
    simp only [impl_CountJoined.l0]
    rw [if_pos (by omega), if_neg (by omega), e0, e1, wrap64_in (n := (y : Int)) (by omega) (by omega), e2, e3, wrap64_in (n := (x : Int)) (by omega) (by omega), e4, e5, wrap64_in (n := (q : Int)) (by omega) (by omega),
      coloured_cend s hs (by omega) (by omega) (by omega)]; simp only [Option.bind_some]
    rw [coloured_cend t ht (by omega) (by omega) (by omega)]; simp only [Option.bind_some]
    rw [impl_alike_f _ _ _ (by omega), impl_alike_f _ _ _ (by omega)]; simp only [Option.bind_some, decide_eq_true_eq, impl_CountJoined.j2]
    rw [impl_alike_f _ _ _ (by omega), impl_alike_f _ _ _ (by omega)]; simp only [Option.bind_some, decide_eq_true_eq]
    rw [wrap64_in (n := (e : Int) + 1) (by omega) (by omega), wrap64_in (n := sumR (fun e => joinC s t m (e % m) (e / m % m) (e / m / m % m) (e / m / m / m)) e + 1) (by omega) (by omega), show ((e : Int) + 1) = ((e + 1 : Nat) : Int) by omega]
    by_cases c1 : Int.tmod (wrap64 ((cend s i j).2.1 - (cend t p q).1)) (m : Int) = 0
    · rw [if_pos c1]
      by_cases c2 : Int.tmod (wrap64 ((cend s i j).2.2.2 - (cend t p q).2.2.1)) (m : Int) = 0
      · rw [if_pos c2]
        by_cases c3 : Int.tmod (wrap64 ((cend s i j).1 - (cend t p q).2.1)) (m : Int) = 0
        · rw [if_pos c3]
          by_cases c4 : Int.tmod (wrap64 ((cend s i j).2.2.1 - (cend t p q).2.2.2)) (m : Int) = 0
          · rw [if_pos c4, show joinC s t m i j p q = 1 from if_pos ⟨c1, c2, c3, c4⟩]
          · rw [if_neg c4, show joinC s t m i j p q = 0 from if_neg (fun x => c4 x.2.2.2), Int.add_zero]
        · rw [if_neg c3, show joinC s t m i j p q = 0 from if_neg (fun x => c3 x.2.2.1), Int.add_zero]
      · rw [if_neg c2, show joinC s t m i j p q = 0 from if_neg (fun x => c2 x.2.1), Int.add_zero]
    · rw [if_neg c1, if_neg (by decide), show joinC s t m i j p q = 0 from if_neg (fun x => c1 x.1), Int.add_zero]
theorem impl_CountJoined_f (s t : ByteArray) (n : Int) {k : Nat} (hs : s.size ≤ 100000000) (ht : t.size ≤ 100000000) (hk : 10000 ≤ k) : impl_CountJoined.f k s t n = some (joincv s t n) := by
  obtain ⟨k, rfl⟩ : ∃ m, k = m + 1 := ⟨k - 1, by omega⟩
  unfold impl_CountJoined.f joincv
  rw [impl_isShort_f s hs, impl_isShort_f t ht]; simp only [Option.bind_some, decide_eq_true_eq, impl_CountJoined.j0]
  by_cases h : DanceP s ∧ s.size ≤ 24
  · rw [if_pos h]
    by_cases h' : DanceP t ∧ t.size ≤ 24
    · rw [if_pos h']
      by_cases h1 : n < 1
      · rw [if_pos h1, if_pos trivial, if_neg (fun x => by omega)]
      · rw [if_neg h1]
        by_cases h2 : n > 5
        · rw [if_pos h2, if_neg (fun x => by omega)]
        · rw [if_neg h2, if_pos ⟨⟨h, h'⟩, by omega⟩]
          obtain ⟨m, rfl⟩ : ∃ m : Nat, n = (m : Int) := ⟨n.toNat, by omega⟩
          have hm' : m ≤ 5 := by omega
          have m2 : m * m ≤ 5 * 5 := Nat.mul_le_mul hm' hm'
          have m3 : m * m * m ≤ 5 * 5 * 5 := Nat.mul_le_mul m2 hm'
          have m4 : m * m * m * m ≤ 5 * 5 * 5 * 5 := Nat.mul_le_mul m3 hm'
          have := impl_CountJoined_l0 s t h.2 h'.2 (m := m) (by omega) (by omega) (m * m * m * m) 0 (by omega) k (by omega)
          rw [show (m : Int) * (m : Int) = ((m * m : Nat) : Int) by simp, wrap64_in (n := ((m * m : Nat) : Int)) (by omega) (by omega),
            show ((m * m : Nat) : Int) * (m : Int) = ((m * m * m : Nat) : Int) by simp, wrap64_in (n := ((m * m * m : Nat) : Int)) (by omega) (by omega),
            show ((m * m * m : Nat) : Int) * (m : Int) = ((m * m * m * m : Nat) : Int) by simp, wrap64_in (n := ((m * m * m * m : Nat) : Int)) (by omega) (by omega)]
          rw [show ((m : Int)).toNat = m by omega]
          exact this
    · rw [if_neg h', if_pos trivial, if_neg (fun x => h' x.1.2)]
  · rw [if_neg h, if_pos trivial, if_neg (fun x => h x.1.1)]

-- spec_DanceOk
theorem spec_DanceOk_l0 (s : ByteArray) (hs : s.size ≤ 1000000000) (n : Nat) : ∀ i : Nat, i + n = s.size → ∀ k, n < k → spec_DanceOk.l0 k s (i : Int) = some (decide (s.size ≤ 40 ∧ AllM (s.data.toList.drop i))) := by
  induction n with
  | zero =>
    intro i hi k hk
    obtain ⟨k, rfl⟩ : ∃ m, k = m + 1 := ⟨k - 1, by omega⟩
    simp only [spec_DanceOk.l0]
    rw [if_neg (by omega), drop_end (by omega)]
    exact dec_iff ⟨fun x => ⟨by omega, allM_nil⟩, fun x => by omega⟩
  | succ n ih =>
    intro i hi k hk
    obtain ⟨k, rfl⟩ : ∃ m, k = m + 1 := ⟨k - 1, by omega⟩
    obtain ⟨c, hd, hb⟩ := bt_drop (s := s) (i := i) (by omega)
    simp only [spec_DanceOk.l0]
    rw [if_pos (by omega), if_pos (by omega), hb, hd, wrap64_in (by omega) (by omega), show ((i : Int) + 1) = ((i + 1 : Nat) : Int) by omega, ih (i + 1) (by omega) k (by omega)]
    have e1 : (((c.toNat : Nat) : Int) = 84) ↔ c = 84 := u8_eq (n := 84) (by omega)
    have e2 : (((c.toNat : Nat) : Int) = 116) ↔ c = 116 := u8_eq (n := 116) (by omega)
    have e3 : (((c.toNat : Nat) : Int) = 82) ↔ c = 82 := u8_eq (n := 82) (by omega)
    have yes : MoveP c → some (decide (s.size ≤ 40 ∧ AllM (s.data.toList.drop (i + 1)))) = some (decide (s.size ≤ 40 ∧ AllM (c :: s.data.toList.drop (i + 1)))) := by
      intro h; exact dec_iff ⟨fun x => ⟨x.1, (allM_cons _ _).2 ⟨h, x.2⟩⟩, fun x => ⟨x.1, ((allM_cons _ _).1 x.2).2⟩⟩
    by_cases h1 : c = 84
    · rw [if_pos (e1.2 h1)]; exact yes (.inl h1)
    · rw [if_neg (fun x => h1 (e1.1 x))]
      by_cases h2 : c = 116
      · rw [if_pos (e2.2 h2)]; exact yes (.inr (.inl h2))
      · rw [if_neg (fun x => h2 (e2.1 x))]
        by_cases h3 : c = 82
        · rw [if_pos (e3.2 h3)]; exact yes (.inr (.inr h3))
        · rw [if_neg (fun x => h3 (e3.1 x))]
          exact (dec_false (fun x => by rcases ((allM_cons _ _).1 x.2).1 with y | y | y <;> contradiction)).symm
theorem spec_DanceOk_f (s : ByteArray) {k : Nat} (hs : s.size ≤ 100000000) (hk : 100000001 ≤ k) : spec_DanceOk.f k s = some (decide (DanceP s)) := by
  unfold spec_DanceOk.f
  have := spec_DanceOk_l0 s (by omega) s.size 0 (by omega) k (by omega)
  rw [show ((0 : Nat) : Int) = 0 from rfl] at this
  rw [this]
  exact dec_iff (by unfold DanceP DanceL; simp)

-- spec_l1In
theorem spec_l1In_f (a b c : Int) : spec_l1In.f a b c = some (decide (b ≤ a ∧ a ≤ c)) := by
  unfold spec_l1In.f
  by_cases h : b ≤ a
  · rw [if_pos h]; exact dec_iff ⟨fun x => ⟨h, x⟩, fun x => x.2⟩
  · rw [if_neg h]; exact (dec_false (fun x => h x.1)).symm

-- spec_ColoursAfter
theorem spec_l8Moved_f {B : Nat} {c : Int × Int × Int × Int} (h : ColBd B c) (hB : B ≤ 1000000000000000) (m : UInt8) : spec_l8Moved.f c.1 c.2.1 c.2.2.1 c.2.2.2 ((m.toNat : Nat) : Int) = some (cmove c m) := by
  obtain ⟨a, b, d, e⟩ := c
  unfold ColBd at h
  unfold spec_l8Moved.f cmove
  simp only at *
  have e1 : (((m.toNat : Nat) : Int) = 84) ↔ m = 84 := u8_eq (n := 84) (by omega)
  have e2 : (((m.toNat : Nat) : Int) = 116) ↔ m = 116 := u8_eq (n := 116) (by omega)
  by_cases h1 : m = 84
  · rw [if_pos (e1.2 h1), if_pos h1, wrap64_in (n := 2 * b) (by omega) (by omega), wrap64_in (by omega) (by omega)]
  · rw [if_neg (fun x => h1 (e1.1 x)), if_neg h1]
    by_cases h2 : m = 116
    · rw [if_pos (e2.2 h2), if_pos h2, wrap64_in (n := 2 * e) (by omega) (by omega), wrap64_in (by omega) (by omega)]
    · rw [if_neg (fun x => h2 (e2.1 x)), if_neg h2]
theorem spec_ColoursAfter_l0 (s : ByteArray) (hs : s.size ≤ 24) (n : Nat) : ∀ (i : Nat) (c : Int × Int × Int × Int), i + n = s.size → ColBd (12 * 3 ^ i) c → ∀ k, n < k →
    spec_ColoursAfter.l0 k s (i : Int) c.1 c.2.1 c.2.2.1 c.2.2.2 = some ((cafter (s.data.toList.drop i) c).1, (cafter (s.data.toList.drop i) c).2.1, (cafter (s.data.toList.drop i) c).2.2.1, (cafter (s.data.toList.drop i) c).2.2.2, true) := by
  induction n with
  | zero =>
    intro i c hi hc k hk
    obtain ⟨k, rfl⟩ : ∃ m, k = m + 1 := ⟨k - 1, by omega⟩
    simp only [spec_ColoursAfter.l0]
    rw [if_neg (by omega), drop_end (by omega)]; rfl
  | succ n ih =>
    intro i c hi hc k hk
    obtain ⟨k, rfl⟩ : ∃ m, k = m + 1 := ⟨k - 1, by omega⟩
    obtain ⟨m, hd, hb⟩ := bt_drop (s := s) (i := i) (by omega)
    have hp : 3 ^ i ≤ 3 ^ 24 := Nat.pow_le_pow_right (by omega) (by omega)
    simp only [spec_ColoursAfter.l0]
    rw [if_pos (by omega), if_pos (by omega), hb, spec_l8Moved_f hc (by omega) m, hd, wrap64_in (by omega) (by omega), show ((i : Int) + 1) = ((i + 1 : Nat) : Int) by omega]; simp only [Option.bind_some]
    have hc' : ColBd (12 * 3 ^ (i + 1)) (cmove c m) := by
      have := cmove_bd hc m
      rw [Nat.pow_succ, show 12 * (3 ^ i * 3) = 3 * (12 * 3 ^ i) by omega]
      exact this
    rw [ih (i + 1) (cmove c m) (by omega) hc' k (by omega)]
    rfl
theorem spec_ColoursAfter_f (s : ByteArray) (a b : Int) {k : Nat} (hs : s.size ≤ 100000000) (hk : 100000001 ≤ k) : spec_ColoursAfter.f k s a b = some (colv s a b) := by
  obtain ⟨k, rfl⟩ : ∃ m, k = m + 1 := ⟨k - 1, by omega⟩
  unfold spec_ColoursAfter.f colv
  rw [spec_DanceOk_f s hs (by omega)]; simp only [Option.bind_some, decide_eq_true_eq, spec_l1In_f]
  have no : spec_ColoursAfter.j0 (k + 1) s a b true = some (0, 0, 0, 0, false) := by simp only [spec_ColoursAfter.j0]; rw [if_pos trivial]
  by_cases h : DanceP s
  · rw [if_pos h]
    by_cases h1 : (s.size : Int) > 24
    · rw [if_pos h1, no, if_neg (fun x => by have := x.1.2; omega)]
    · rw [if_neg h1]
      by_cases h2 : 0 ≤ a ∧ a ≤ 12
      · rw [if_pos h2]
        by_cases h3 : 0 ≤ b ∧ b ≤ 12
        · rw [decide_eq_true h3, if_pos (show ColArgs s a b from ⟨⟨h, by omega⟩, h2, h3⟩)]
          simp only [spec_ColoursAfter.j0]
          rw [if_neg (by decide)]
          have := spec_ColoursAfter_l0 s (by omega) s.size 0 (a, a, b, b) (by omega) ⟨by simp only; omega, by simp only; omega, by simp only; omega, by simp only; omega⟩ k (by omega)
          rw [List.drop_zero] at this
          exact this
        · rw [decide_eq_false h3, if_neg (fun x => h3 x.2.2)]; exact no
      · rw [if_neg h2, no, if_neg (fun x => h2 x.2.1)]
  · rw [if_neg h, no, if_neg (fun x => h x.1.1)]

-- spec_CountJoined
theorem spec_CountJoined_l1 (s t : ByteArray) (h : DanceP t) (hs : t.size ≤ 24) {m : Nat} (hm : 1 ≤ m) (hm' : m ≤ 5) {c : Nat} (hc : c < m * m) (acc : Int) (h0 : 0 ≤ acc ∧ acc ≤ 1000) (i j : Nat) (n : Nat) : ∀ d : Nat, d + n = m * m → ∀ k, n + 100000003 ≤ k →
    spec_CountJoined.l1 k s t (m : Int) (acc + sumR (fun d => joinC s t m i j (d / m) (d % m)) d) (c : Int) (d : Int) (cend s i j).1 (cend s i j).2.1 (cend s i j).2.2.1 (cend s i j).2.2.2
      = spec_CountJoined.l0 (k - (n + 1)) s t (m : Int) (acc + sumR (fun d => joinC s t m i j (d / m) (d % m)) (m * m)) ((c + 1 : Nat) : Int) := by
  have hmm : m * m ≤ 5 * 5 := Nat.mul_le_mul hm' hm'
  have em : ((m : Int) * (m : Int)) = ((m * m : Nat) : Int) := by simp
  induction n with
  | zero =>
    intro d hd k hk
    obtain ⟨k, rfl⟩ : ∃ q, k = q + 1 := ⟨k - 1, by omega⟩
    simp only [spec_CountJoined.l1]
    rw [em, wrap64_in (n := ((m * m : Nat) : Int)) (by omega) (by omega), if_neg (by omega), show d = m * m by omega, wrap64_in (n := (c : Int) + 1) (by omega) (by omega)]; rfl
  | succ n ih =>
    intro d hd k hk
    obtain ⟨k, rfl⟩ : ∃ q, k = q + 1 := ⟨k - 1, by omega⟩
    have b := sumR_bd (f := fun d => joinC s t m i j (d / m) (d % m)) (fun d => joinC_bd s t m i j _ _) d
    have hq : d / m < m := Nat.div_lt_of_lt_mul (by omega)
    have hr : d % m < m := Nat.mod_lt _ (by omega)
    have IH := ih (d + 1) (by omega) k (by omega)
    have e1 : Int.tdiv (d : Int) (m : Int) = ((d / m : Nat) : Int) := rfl
    have e2 : Int.tmod (d : Int) (m : Int) = ((d % m : Nat) : Int) := rfl
    simp only [sumR] at IH
    rw [show k + 1 - (n + 1 + 1) = k - (n + 1) by omega, ← IH]
    clear IH ih
    revert hq hr e1 e2
    generalize d / m = p
    generalize d % m = r
    intro hq hr e1 e2
    simp only [spec_CountJoined.l1]
    rw [em, wrap64_in (n := ((m * m : Nat) : Int)) (by omega) (by omega), if_pos (by omega), if_neg (by omega), e1, e2, wrap64_in (n := ((p : Nat) : Int)) (by omega) (by omega), spec_ColoursAfter_f _ _ _ (by omega) (by omega)]
    simp only [Option.bind_some]
    rw [colv_cend t h hs (by omega) (by omega), wrap64_in (n := (d : Int) + 1) (by omega) (by omega), wrap64_in (n := acc + sumR (fun d => joinC s t m i j (d / m) (d % m)) d + 1) (by omega) (by omega), show ((d : Int) + 1) = ((d + 1 : Nat) : Int) by omega]
    by_cases h1 : Int.tmod (wrap64 ((cend s i j).2.1 - (cend t p r).1)) (m : Int) = 0
    · rw [if_pos h1]
      by_cases h2 : Int.tmod (wrap64 ((cend s i j).2.2.2 - (cend t p r).2.2.1)) (m : Int) = 0
      · rw [if_pos h2]
        by_cases h3 : Int.tmod (wrap64 ((cend s i j).1 - (cend t p r).2.1)) (m : Int) = 0
        · rw [if_pos h3]
          by_cases h4 : Int.tmod (wrap64 ((cend s i j).2.2.1 - (cend t p r).2.2.2)) (m : Int) = 0
          · rw [if_pos h4, show joinC s t m i j p r = 1 from if_pos ⟨h1, h2, h3, h4⟩, Int.add_assoc]
          · rw [if_neg h4, show joinC s t m i j p r = 0 from if_neg (fun x => h4 x.2.2.2), Int.add_zero]
        · rw [if_neg h3, show joinC s t m i j p r = 0 from if_neg (fun x => h3 x.2.2.1), Int.add_zero]
      · rw [if_neg h2, show joinC s t m i j p r = 0 from if_neg (fun x => h2 x.2.1), Int.add_zero]
    · rw [if_neg h1, show joinC s t m i j p r = 0 from if_neg (fun x => h1 x.1), Int.add_zero]
theorem spec_CountJoined_l0 (s t : ByteArray) (hs : DanceP s ∧ s.size ≤ 24) (ht : DanceP t ∧ t.size ≤ 24) {m : Nat} (hm : 1 ≤ m) (hm' : m ≤ 5) (n : Nat) : ∀ c : Nat, c + n = m * m → ∀ k, n * 50 + 100000100 ≤ k →
    spec_CountJoined.l0 k s t (m : Int) (sumR (fun c => sumR (fun d => joinC s t m (c / m) (c % m) (d / m) (d % m)) (m * m)) c) (c : Int) = some (joinN s t m) := by
  have hmm : m * m ≤ 5 * 5 := Nat.mul_le_mul hm' hm'
  have em : ((m : Int) * (m : Int)) = ((m * m : Nat) : Int) := by simp
  induction n with
  | zero =>
    intro c hc k hk
    obtain ⟨k, rfl⟩ : ∃ q, k = q + 1 := ⟨k - 1, by omega⟩
    simp only [spec_CountJoined.l0]
    rw [em, wrap64_in (n := ((m * m : Nat) : Int)) (by omega) (by omega), if_neg (by omega), show c = m * m by omega, joinN_spec s t (by omega)]
  | succ n ih =>
    intro c hc k hk
    obtain ⟨k, rfl⟩ : ∃ q, k = q + 1 := ⟨k - 1, by omega⟩
    have b := sumR_bd2 (B := m * m) (f := fun c => sumR (fun d => joinC s t m (c / m) (c % m) (d / m) (d % m)) (m * m)) (fun c => sumR_bd (fun d => joinC_bd s t m _ _ _ _) (m * m)) c
    have hB : (c : Int) * ((m * m : Nat) : Int) ≤ 25 * 25 := Int.mul_le_mul (by omega) (by omega) (by omega) (by omega)
    have IH := ih (c + 1) (by omega) (k - (m * m + 1)) (by omega)
    have L := spec_CountJoined_l1 s t ht.1 ht.2 hm hm' (c := c) (by omega) (sumR (fun c => sumR (fun d => joinC s t m (c / m) (c % m) (d / m) (d % m)) (m * m)) c) (by omega) (c / m) (c % m) (m * m) 0 (by omega) k (by omega)
    simp only [sumR] at IH L
    rw [Int.add_zero] at L
    rw [IH] at L
    have hq : c / m < m := Nat.div_lt_of_lt_mul (by omega)
    have hr : c % m < m := Nat.mod_lt _ (by omega)
    have e1 : Int.tdiv (c : Int) (m : Int) = ((c / m : Nat) : Int) := rfl
    have e2 : Int.tmod (c : Int) (m : Int) = ((c % m : Nat) : Int) := rfl
    rw [← L]
    clear IH ih L
    simp only [spec_CountJoined.l0]
    rw [em, wrap64_in (n := ((m * m : Nat) : Int)) (by omega) (by omega), if_pos (by omega), if_neg (by omega), e1, e2]
    revert hq hr e1 e2
    generalize c / m = p
    generalize c % m = r
    intro hq hr e1 e2
    rw [wrap64_in (n := ((p : Nat) : Int)) (by omega) (by omega), spec_ColoursAfter_f _ _ _ (by omega) (by omega)]
    simp only [Option.bind_some]
    rw [colv_cend s hs.1 hs.2 (by omega) (by omega)]
    rfl
theorem spec_CountJoined_f (s t : ByteArray) (n : Int) {k : Nat} (hs : s.size ≤ 100000000) (ht : t.size ≤ 100000000) (hk : 100002001 ≤ k) : spec_CountJoined.f k s t n = some (joincv s t n) := by
  obtain ⟨k, rfl⟩ : ∃ m, k = m + 1 := ⟨k - 1, by omega⟩
  unfold spec_CountJoined.f joincv
  rw [spec_ColoursAfter_f s _ _ (by omega) (by omega)]; simp only [Option.bind_some]
  rw [spec_ColoursAfter_f t _ _ (by omega) (by omega)]; simp only [Option.bind_some, colv_ok, decide_eq_true_eq, spec_l1In_f, spec_CountJoined.j0]
  by_cases h : DanceP s ∧ s.size ≤ 24
  · rw [if_pos h]
    by_cases h' : DanceP t ∧ t.size ≤ 24
    · rw [if_pos h']
      by_cases h1 : 1 ≤ n ∧ n ≤ 5
      · rw [decide_eq_true h1, if_neg (by decide), if_pos ⟨⟨h, h'⟩, h1⟩]
        obtain ⟨m, rfl⟩ : ∃ m : Nat, n = (m : Int) := ⟨n.toNat, by omega⟩
        have hmm : m * m ≤ 5 * 5 := Nat.mul_le_mul (by omega) (by omega)
        have := spec_CountJoined_l0 s t h h' (m := m) (by omega) (by omega) (m * m) 0 (by omega) k (by omega)
        simpa [sumR] using this
      · rw [decide_eq_false h1, if_pos (by decide), if_neg (fun x => h1 x.2)]
    · rw [if_neg h', if_pos trivial, if_neg (fun x => h' x.1.2)]
  · rw [if_neg h, if_pos trivial, if_neg (fun x => h x.1.1)]

theorem FnExactCountJoined (s t : ByteArray) (n : Int) (_ : s.size ≤ 140737488351232) (_ : t.size ≤ 140737488351232) (_ : (Lit.int .i64 n).wf = true) :
    ∃ k, laws_FnExactCountJoined.f k s t n = some true := by
  refine ⟨100003000, ?_⟩
  unfold laws_FnExactCountJoined.f
  by_cases h : (s.size : Int) > 1048576
  · rw [if_pos h]
  · rw [if_neg h]
    by_cases h' : (t.size : Int) > 1048576
    · rw [if_pos h']
    · rw [if_neg h', spec_CountJoined_f s t n (by omega) (by omega) (by omega)]; simp only [Option.bind_some]
      rw [impl_CountJoined_f s t n (by omega) (by omega) (by omega)]; simp only [Option.bind_some]
      rw [if_pos trivial]

end Go.Proofs.YtkjefpihjgflhaaDoor.Pure
