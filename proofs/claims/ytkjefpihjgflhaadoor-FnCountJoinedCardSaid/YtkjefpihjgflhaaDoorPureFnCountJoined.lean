/- FnCountJoined: CountJoined answers as the reference's does; it is at least the number, and what JoinedFor tells of the dances' fractions; at every draw. -/
import Derived.Test.YtkjefpihjgflhaaDoorPFnCountJoinedx0
import Derived.Test.YtkjefpihjgflhaaDoorPFnCountJoinedx1
import Derived.Test.YtkjefpihjgflhaaDoorPFnCountJoinedx2
import Derived.Test.YtkjefpihjgflhaaDoorPFnCountJoinedx3
import Derived.Test.YtkjefpihjgflhaaDoorPFnCountJoinedx4
import Derived.Test.YtkjefpihjgflhaaDoorPFnCountJoinedx5
import Derived.Test.YtkjefpihjgflhaaDoorPFnCountJoinedx6
import Derived.Test.YtkjefpihjgflhaaDoorCFnCountJoined
set_option linter.unusedVariables false
set_option linter.unusedSimpArgs false
namespace Go.Proofs.YtkjefpihjgflhaaDoor.Pure
open Go.RowKit Go.Proofs.YtkjefpihjgflhaaDoor.PFnCountJoined Go.Proofs.YtkjefpihjgflhaaDoorW.PrintWords Go.Proofs.YtkjefpihjgflhaaDoorW.PrintLast Go.Proofs.YtkjefpihjgflhaaDoorW.PrintMore Go.Proofs.YtkjefpihjgflhaaDoor.Lib

-- base
theorem wrap64_in {n : Int} (h : -9223372036854775808 ≤ n) (h' : n ≤ 9223372036854775807) : wrap64 n = n := by unfold wrap64; omega
theorem i64_of_wf {n : Int} (h : (Lit.int .i64 n).wf = true) : -9223372036854775808 ≤ n ∧ n ≤ 9223372036854775807 := by
  simpa [Lit.wf, IntKind.min, IntKind.max, IntKind.signed, IntKind.bits] using h
theorem bigk : ∃ k : Nat, 1000000000 ≤ k := ⟨1000000000, Nat.le_refl _⟩
theorem dec_true {p : Prop} [Decidable p] (h : p) : some (decide p) = some true := by simp [h]
theorem dec_false {p : Prop} [Decidable p] (h : ¬ p) : some (decide p) = some false := by simp [h]
theorem dec_iff {p q : Prop} [Decidable p] [Decidable q] (h : p ↔ q) : some (decide p) = some (decide q) := by simp [h]
theorem ite_to {c : Prop} [Decidable c] {α : Type} {x y z : α} (h1 : c → x = z) (h2 : ¬ c → y = z) : (if c then x else y) = z := by
  by_cases h : c
  · rw [if_pos h]; exact h1 h
  · rw [if_neg h]; exact h2 h

-- gcdmath
theorem natAbs_tmod_lt (a : Int) {b : Int} (h : b ≠ 0) : (Int.tmod a b).natAbs < b.natAbs := by
  rw [Int.natAbs_tmod]
  exact Nat.mod_lt _ (by omega)
theorem gcd_tmod (a b : Int) : Int.gcd b (Int.tmod a b) = Int.gcd a b := by
  unfold Int.gcd
  rw [Int.natAbs_tmod, Nat.gcd_comm a.natAbs, Nat.gcd_rec b.natAbs a.natAbs, Nat.gcd_comm]
theorem mx_abs {a : Int} (h : -9223372036854775808 < a) (h' : a ≤ 9223372036854775807) : mx a (wrap64 (-a)) = (a.natAbs : Int) := by
  rw [wrap64_in (by omega) (by omega)]; unfold mx; split <;> omega

-- draw
/-- The bytes that a draw reads. -/
def RdOk (s : List Int) : Prop := s.length ≤ 2000 ∧ ∀ x ∈ s, 0 ≤ x ∧ x ≤ 255
theorem rd_bd {s : List Int} (h : RdOk s) (i : Int) : 0 ≤ rd s i ∧ rd s i ≤ 255 := by
  unfold rd
  by_cases hi : i.toNat < s.length
  · have e : s.getD i.toNat 0 = s[i.toNat] := by simp [hi]
    rw [e]; exact h.2 _ (List.getElem_mem hi)
  · have e : s.getD i.toNat 0 = 0 := by simp; rw [List.getElem?_eq_none (by omega)]; rfl
    rw [e]; omega
theorem xor_nonneg {x y : Int} (hx : 0 ≤ x) (hx' : x < 4611686018427387904) (hy : 0 ≤ y) (hy' : y < 4611686018427387904) : 0 ≤ Go.bits .xor .i64 x y := by
  unfold Go.bits
  simp only
  obtain ⟨a, rfl⟩ := Int.eq_ofNat_of_zero_le hx
  obtain ⟨b, rfl⟩ := Int.eq_ofNat_of_zero_le hy
  have h64 : IntKind.i64.bits = 64 := rfl
  rw [BitVec.toNat_xor]
  have ea : (BitVec.ofInt IntKind.i64.bits (a : Int)).toNat = a := by
    rw [BitVec.toNat_ofInt, h64]; omega
  have eb : (BitVec.ofInt IntKind.i64.bits (b : Int)).toNat = b := by
    rw [BitVec.toNat_ofInt, h64]; omega
  rw [ea, eb]
  have hl : a ^^^ b < 2 ^ 62 := Nat.xor_lt_two_pow (by omega) (by omega)
  generalize a ^^^ b = c at *
  have : IntKind.i64.wrap (c : Int) = wrap64 (c : Int) := by
    simp [IntKind.wrap, wrap64, IntKind.signed, IntKind.bits]
    try omega
  rw [this, wrap64_in (by omega) (by omega)]
  omega
theorem tmod_range {x n : Int} (hx : 0 ≤ x) (hn : 1 ≤ n) : 0 ≤ Int.tmod x n ∧ Int.tmod x n < n := by
  rw [Int.tmod_eq_emod_of_nonneg hx]
  exact ⟨Int.emod_nonneg _ (by omega), Int.emod_lt_of_pos _ (by omega)⟩
theorem pick_f {s : List Int} {p : Int} (n : Int) {k : Nat} (hs : RdOk s) (hp : 0 ≤ p) (hp' : p ≤ 1000000) (hk : 1 ≤ k) :
    ∃ v, spec_l20Rd_pick.f k s p n = some (v, p + 1) ∧ 0 ≤ v ∧ (1 ≤ n → v < n) ∧ (n < 1 → v = 0) := by
  obtain ⟨k, rfl⟩ : ∃ m, k = m + 1 := ⟨k - 1, by omega⟩
  unfold spec_l20Rd_pick.f
  rw [wrap64_in (n := p + 1) (by omega) (by omega)]
  by_cases hn : n < 1
  · rw [if_pos hn]; simp only [spec_l20Rd_pick.j0]; rw [if_pos trivial]
    exact ⟨0, rfl, by omega, by omega, fun _ => rfl⟩
  · rw [if_neg hn]
    by_cases hl : (s.length : Int) = 0
    · rw [show ((s.length : Int) == 0) = true by simpa using hl]; simp only [spec_l20Rd_pick.j0]; rw [if_pos trivial]
      exact ⟨0, rfl, by omega, by omega, fun _ => rfl⟩
    · rw [show ((s.length : Int) == 0) = false by simpa using hl]; simp only [spec_l20Rd_pick.j0]; rw [if_neg (by decide)]
      have hlen := hs.1
      rw [show p + 1 - 1 = p by omega, wrap64_in (n := p) (by omega) (by omega)]
      by_cases h1 : p < (s.length : Int)
      · have hb := rd_bd hs p
        rw [if_pos h1, if_pos hp, if_neg (by omega), wrap64_in (by omega) (by omega)]
        have ht := tmod_range (n := n) hb.1 (by omega)
        exact ⟨_, rfl, ht.1, fun _ => ht.2, fun x => absurd x hn⟩
      · have t1 := tmod_range (x := p) (n := (s.length : Int)) hp (by omega)
        have t2 := tmod_range (x := p * 7 + 3) (n := (s.length : Int)) (by omega) (by omega)
        rw [if_neg h1, if_neg hl, if_pos t1.1, if_pos t1.2, wrap64_in (n := p * 7) (by omega) (by omega), wrap64_in (n := p * 7 + 3) (by omega) (by omega), if_pos t2.1, if_pos t2.2, if_neg (by omega)]
        have b1 := rd_bd hs (Int.tmod p (s.length : Int))
        have b2 := rd_bd hs (Int.tmod (p * 7 + 3) (s.length : Int))
        generalize rd s (Int.tmod p (s.length : Int)) = r1 at *
        generalize rd s (Int.tmod (p * 7 + 3) (s.length : Int)) = r2 at *
        have q1 : 0 ≤ Int.tdiv p (s.length : Int) ∧ Int.tdiv p (s.length : Int) ≤ p := by
          obtain ⟨a, rfl⟩ := Int.eq_ofNat_of_zero_le hp
          rw [Int.tdiv_eq_ediv_of_nonneg (by omega), ← Int.natCast_ediv]
          have := Nat.div_le_self a s.length
          exact ⟨Int.natCast_nonneg _, by exact_mod_cast this⟩
        generalize Int.tdiv p (s.length : Int) = q at *
        rw [wrap64_in (n := r1) (by omega) (by omega), wrap64_in (n := r1 * 131) (by omega) (by omega), wrap64_in (n := r2) (by omega) (by omega), wrap64_in (n := r2 * 1117) (by omega) (by omega), wrap64_in (n := r1 * 131 + r2 * 1117) (by omega) (by omega), wrap64_in (n := p * 29) (by omega) (by omega), wrap64_in (n := q) (by omega) (by omega), wrap64_in (n := q * 53) (by omega) (by omega), wrap64_in (n := r1 * 131 + r2 * 1117 + p * 29) (by omega) (by omega), wrap64_in (n := r1 * 131 + r2 * 1117 + p * 29 + q * 53) (by omega) (by omega)]
        generalize hX : r1 * 131 + r2 * 1117 + p * 29 + q * 53 = X
        have hX0 : 0 ≤ X := by omega
        have hX1 : X ≤ 1000000000 := by omega
        have d1 : 0 ≤ Int.tdiv X 64 ∧ Int.tdiv X 64 ≤ X := by
          rw [Int.tdiv_eq_ediv_of_nonneg hX0]; omega
        rw [wrap64_in (n := Int.tdiv X 64) (by omega) (by omega)]
        have hx := xor_nonneg (x := X) (y := Int.tdiv X 64) hX0 (by omega) d1.1 (by omega)
        have ht := tmod_range (n := n) hx (by omega)
        exact ⟨_, rfl, ht.1, fun _ => ht.2, fun x => absurd x hn⟩

-- open
theorem u8_of_wf {n : Int} (h : (Lit.int .u8 n).wf = true) : 0 ≤ n ∧ n ≤ 255 := by
  simpa [Lit.wf, IntKind.min, IntKind.max, IntKind.signed, IntKind.bits] using h
theorem open_f {l : List Int} (h : ∀ x ∈ l, (Lit.int .u8 x).wf = true) : ∃ s, spec_l20Open.f l = some (s, 0) ∧ RdOk s := by
  unfold spec_l20Open.f
  by_cases hl : (l.length : Int) > 2000
  · rw [if_pos hl, if_pos (by omega)]
    exact ⟨_, rfl, by rw [List.length_take]; omega, fun x hx => u8_of_wf (h x (List.mem_of_mem_take hx))⟩
  · rw [if_neg hl]
    exact ⟨_, rfl, by omega, fun x hx => u8_of_wf (h x hx)⟩

-- odd
theorem odd_f {s : List Int} {p : Int} (n : Int) {k : Nat} (hs : RdOk s) (hp : 0 ≤ p) (hp' : p ≤ 1000000) (hk : 1 ≤ k) :
    ∃ v q, spec_l20Rd_odd.f k s p n = some (v, q) ∧ p ≤ q ∧ q ≤ p + 1 := by
  unfold spec_l20Rd_odd.f
  by_cases h : n > 0
  · rw [if_pos h]
    obtain ⟨v, hv, _⟩ := pick_f n hs hp hp' hk
    rw [hv]; simp only [Option.bind_some]
    exact ⟨_, _, rfl, by omega, by omega⟩
  · rw [if_neg h]; exact ⟨_, _, rfl, by omega, by omega⟩

-- drawdance
theorem mem_small {L : List ByteArray} {B : Nat} (h : ∀ b ∈ L, b.size ≤ B) (i : Int) : (rdOf ByteArray.empty L i).size ≤ B := by
  unfold rdOf
  by_cases hi : i.toNat < L.length
  · have e : L.getD i.toNat ByteArray.empty = L[i.toNat] := by simp [hi]
    rw [e]; exact h _ (List.getElem_mem hi)
  · have e : L.getD i.toNat ByteArray.empty = ByteArray.empty := by simp; rw [List.getElem?_eq_none (by omega)]; rfl
    rw [e]; exact Nat.zero_le _
theorem l20Dance_l0 {s : List Int} (hs : RdOk s) (x2 : Int) (n : Nat) : ∀ (out : ByteArray) (p : Int) (k : Nat), 0 ≤ p → p + 3 * n ≤ 900000 → out.size + 3 * n ≤ 1000000 → n + 10 < k →
    ∃ d q, spec_l20Dance.l0 k x2 out (n : Int) s p = some (d, q) ∧ d.size ≤ out.size + n + 41 ∧ p ≤ q ∧ q ≤ p + n + 2 := by
  induction n with
  | zero =>
    intro out p k hp hp' ho hk
    obtain ⟨k, rfl⟩ : ∃ m, k = m + 1 := ⟨k - 1, by omega⟩
    simp only [spec_l20Dance.l0]
    rw [if_neg (by omega)]
    obtain ⟨o, q, h1, q0, q1⟩ := odd_f (k := k) (p := p) x2 hs (by omega) (by omega) (by omega)
    rw [h1]; simp only [Option.bind_some]
    split
    · obtain ⟨w, hw, w0, w1, _⟩ := pick_f (k := k) (p := q) 3 hs (by omega) (by omega) (by omega)
      have w1 := w1 (by omega)
      rw [hw]; simp only [Option.bind_some]
      have key : ∀ L : List ByteArray, w < (L.length : Int) → (∀ b ∈ L, b.size ≤ 41) → ∃ d q', (if 0 ≤ w then (if w < (L.length : Int) then (if out.size + (rdOf ByteArray.empty L w).size ≤ 9223372036854775807 then (some (out ++ (rdOf ByteArray.empty L w), q + 1)) else (none)) else (none)) else (none)) = some (d, q') ∧ d.size ≤ out.size + 0 + 41 ∧ p ≤ q' ∧ q' ≤ p + (0 : Nat) + 2 := by
        intro L h1 h2
        have hm := mem_small h2 w
        rw [if_pos w0, if_pos h1, if_pos (by omega)]
        exact ⟨_, _, rfl, by rw [ByteArray.size_append]; omega, by omega, by omega⟩
      exact key _ (by simpa using w1) (by decide)
    · exact ⟨_, _, rfl, by omega, by omega, by omega⟩
  | succ n ih =>
    intro out p k hp hp' ho hk
    obtain ⟨k, rfl⟩ : ∃ m, k = m + 1 := ⟨k - 1, by omega⟩
    simp only [spec_l20Dance.l0, Option.bind_some]
    rw [if_pos (by omega)]
    obtain ⟨w, hw, w0, w1, _⟩ := pick_f (k := k) (p := p) 6 hs (by omega) (by omega) (by omega)
    have w1 := w1 (by omega)
    rw [hw]; simp only [Option.bind_some]
    rw [if_pos w0, if_pos (by simpa using w1)]
    have hm := mem_small (B := 1) (L := [(⟨#[84]⟩ : ByteArray), (⟨#[84]⟩ : ByteArray), (⟨#[82]⟩ : ByteArray), (⟨#[116]⟩ : ByteArray), (⟨#[82]⟩ : ByteArray), (⟨#[84]⟩ : ByteArray)]) (by decide) w
    rw [if_pos (by omega), wrap64_in (by omega) (by omega), show ((n + 1 : Nat) : Int) - 1 = (n : Int) by omega]
    obtain ⟨d, q, e, d1, q0, q1⟩ := ih (out ++ rdOf ByteArray.empty [(⟨#[84]⟩ : ByteArray), (⟨#[84]⟩ : ByteArray), (⟨#[82]⟩ : ByteArray), (⟨#[116]⟩ : ByteArray), (⟨#[82]⟩ : ByteArray), (⟨#[84]⟩ : ByteArray)] w) (p + 1) k (by omega) (by omega) (by rw [ByteArray.size_append]; omega) (by omega)
    rw [ByteArray.size_append] at d1
    exact ⟨d, q, e, by omega, by omega, by omega⟩
theorem l20Dance_f {s : List Int} {p : Int} (most n : Int) {k : Nat} (hs : RdOk s) (hp : 0 ≤ p) (hp' : p ≤ 800000) (hm : 0 ≤ most) (hm' : most ≤ 100) (hk : 1000 ≤ k) :
    ∃ d q, spec_l20Dance.f k s p most n = some (d, q) ∧ d.size ≤ 200 ∧ p ≤ q ∧ q ≤ p + 120 := by
  unfold spec_l20Dance.f
  rw [wrap64_in (n := most + 1) (by omega) (by omega)]
  obtain ⟨w, hw, w0, w1, _⟩ := pick_f (k := k) (p := p) (most + 1) hs (by omega) (by omega) (by omega)
  have w1 := w1 (by omega)
  rw [hw]; simp only [Option.bind_some]
  obtain ⟨w, rfl⟩ := Int.eq_ofNat_of_zero_le w0
  obtain ⟨d, q, e, d1, q0, q1⟩ := l20Dance_l0 hs n w (⟨#[]⟩ : ByteArray) (p + 1) k (by omega) (by omega) (by show 0 + 3 * w ≤ 1000000; omega) (by omega)
  have : (⟨#[]⟩ : ByteArray).size = 0 := rfl
  exact ⟨d, q, e, by omega, by omega, by omega⟩

-- bytes
theorem bt_drop {s : ByteArray} {i : Nat} (h : i < s.size) : ∃ c : UInt8, s.data.toList.drop i = c :: s.data.toList.drop (i + 1) ∧ bt s (i : Int) = ((c.toNat : Nat) : Int) := by
  have hl : i < s.data.toList.length := by simpa using h
  refine ⟨s.data.toList[i], List.drop_eq_getElem_cons hl, ?_⟩
  unfold bt
  rw [dif_pos (by simpa using h)]
  simp
  rfl
theorem drop_end {s : ByteArray} {i : Nat} (h : s.size ≤ i) : s.data.toList.drop i = [] := List.drop_of_length_le (by simpa using h)
theorem toList_length (s : ByteArray) : s.data.toList.length = s.size := by simp
theorem u8_eq {c : UInt8} {n : Nat} (hn : n < 256) : ((c.toNat : Nat) : Int) = (n : Int) ↔ c = UInt8.ofNat n := by
  constructor
  · intro h
    apply UInt8.toNat_inj.1
    rw [UInt8.toNat_ofNat']
    omega
  · intro h
    subst h
    rw [UInt8.toNat_ofNat']
    omega

-- dancemath
def MoveP (c : UInt8) : Prop := c = 84 ∨ c = 116 ∨ c = 82
instance (c : UInt8) : Decidable (MoveP c) := by unfold MoveP; infer_instance
def AllM (l : List UInt8) : Prop := ∀ c ∈ l, MoveP c
instance (l : List UInt8) : Decidable (AllM l) := by unfold AllM; infer_instance
theorem allM_nil : AllM [] := by intro c h; simp at h
theorem allM_cons (c : UInt8) (l : List UInt8) : AllM (c :: l) ↔ MoveP c ∧ AllM l := by unfold AllM; simp
/-- A dance: of at most 40 moves. -/
def DanceL (l : List UInt8) : Prop := l.length ≤ 40 ∧ AllM l
instance (l : List UInt8) : Decidable (DanceL l) := by unfold DanceL; infer_instance
def DanceP (s : ByteArray) : Prop := DanceL s.data.toList
instance (s : ByteArray) : Decidable (DanceP s) := by unfold DanceP; infer_instance

-- colmath
/-- Colours after a move, and after moves: above left, above right, below left, below right. -/
def cmove (c : Int × Int × Int × Int) (m : UInt8) : Int × Int × Int × Int :=
  if m = 84 then (c.1, 2 * c.2.1 - c.2.2.2, c.2.2.1, c.2.1) else if m = 116 then (c.1, c.2.2.2, c.2.2.1, 2 * c.2.2.2 - c.2.1) else (c.2.2.1, c.1, c.2.2.2, c.2.1)
def cafter (l : List UInt8) (c : Int × Int × Int × Int) : Int × Int × Int × Int := l.foldl cmove c
def ColBd (B : Nat) (c : Int × Int × Int × Int) : Prop := c.1.natAbs ≤ B ∧ c.2.1.natAbs ≤ B ∧ c.2.2.1.natAbs ≤ B ∧ c.2.2.2.natAbs ≤ B
theorem cmove_bd {B : Nat} {c : Int × Int × Int × Int} (h : ColBd B c) (m : UInt8) : ColBd (3 * B) (cmove c m) := by
  obtain ⟨a, b, d, e⟩ := c
  unfold ColBd cmove at *
  simp only at *
  split
  · simp only; omega
  · split
    · simp only; omega
    · simp only; omega
def ColArgs (s : ByteArray) (a b : Int) : Prop := (DanceP s ∧ s.size ≤ 24) ∧ (0 ≤ a ∧ a ≤ 12) ∧ (0 ≤ b ∧ b ≤ 12)
instance (s : ByteArray) (a b : Int) : Decidable (ColArgs s a b) := by unfold ColArgs; infer_instance
/-- What ColoursAfter answers. -/
def colv (s : ByteArray) (a b : Int) : Int × Int × Int × Int × Bool :=
  if ColArgs s a b then ((cafter s.data.toList (a, a, b, b)).1, (cafter s.data.toList (a, a, b, b)).2.1, (cafter s.data.toList (a, a, b, b)).2.2.1, (cafter s.data.toList (a, a, b, b)).2.2.2, true) else (0, 0, 0, 0, false)

-- summath
/-- f 0 + .. + f (n - 1) -/
def sumR (f : Nat → Int) : Nat → Int
  | 0 => 0
  | n + 1 => sumR f n + f n
theorem sumR_congr {f g : Nat → Int} {n : Nat} (h : ∀ i, i < n → f i = g i) : sumR f n = sumR g n := by
  induction n with
  | zero => rfl
  | succ n ih => simp only [sumR]; rw [ih (fun i hi => h i (by omega)), h n (by omega)]
theorem sumR_add (f : Nat → Int) (a b : Nat) : sumR f (a + b) = sumR f a + sumR (fun j => f (a + j)) b := by
  induction b with
  | zero => simp [sumR]
  | succ b ih => rw [← Nat.add_assoc]; simp only [sumR]; rw [ih]; omega
theorem sumR_plus (f g : Nat → Int) (n : Nat) : sumR (fun i => f i + g i) n = sumR f n + sumR g n := by
  induction n with
  | zero => rfl
  | succ n ih => simp only [sumR]; rw [ih]; omega
theorem sumR_zero (n : Nat) : sumR (fun _ => 0) n = 0 := by
  induction n with
  | zero => rfl
  | succ n ih => simp only [sumR]; rw [ih]; rfl
theorem sumR_swap (f : Nat → Nat → Int) (m n : Nat) : sumR (fun i => sumR (f i) m) n = sumR (fun j => sumR (fun i => f i j) n) m := by
  induction n with
  | zero => simp only [sumR]; rw [sumR_zero]
  | succ n ih => simp only [sumR]; rw [ih, sumR_plus]
theorem sumR_flat (g : Nat → Nat → Int) {m : Nat} (hm : 0 < m) (n : Nat) : sumR (fun c => g (c / m) (c % m)) (n * m) = sumR (fun a => sumR (g a) m) n := by
  induction n with
  | zero => simp [sumR]
  | succ n ih =>
    rw [Nat.succ_mul, sumR_add, ih]; simp only [sumR]
    rw [sumR_congr (f := fun j => g ((n * m + j) / m) ((n * m + j) % m)) (g := g n) fun j hj => ?_]
    rw [Nat.mul_comm n m, Nat.mul_add_div hm, Nat.mul_add_mod, Nat.div_eq_of_lt hj, Nat.mod_eq_of_lt hj, Nat.add_zero]
theorem sumR_bd {f : Nat → Int} (h : ∀ i, 0 ≤ f i ∧ f i ≤ 1) (n : Nat) : 0 ≤ sumR f n ∧ sumR f n ≤ (n : Int) := by
  induction n with
  | zero => simp [sumR]
  | succ n ih => have := h n; simp only [sumR]; omega
theorem sumR_bd2 {f : Nat → Int} {B : Nat} (h : ∀ i, 0 ≤ f i ∧ f i ≤ (B : Int)) (n : Nat) : 0 ≤ sumR f n ∧ sumR f n ≤ (n : Int) * (B : Int) := by
  induction n with
  | zero => simp [sumR]
  | succ n ih => have := h n; simp only [sumR]; rw [show ((n + 1 : Nat) : Int) * (B : Int) = (n : Int) * B + B by rw [Int.natCast_add, Int.add_mul]; omega]; omega

-- tiedcmath
def tiedQ (v : Int × Int × Int × Int) (n : Int) : Prop := Int.tmod (wrap64 (v.1 - v.2.1)) n = 0 ∧ Int.tmod (wrap64 (v.2.2.1 - v.2.2.2)) n = 0
instance (v : Int × Int × Int × Int) (n : Int) : Decidable (tiedQ v n) := by unfold tiedQ; infer_instance
/-- Colours after a dance from colours in two numbers. -/
def cend (s : ByteArray) (i j : Nat) : Int × Int × Int × Int := cafter s.data.toList ((i : Int), (i : Int), (j : Int), (j : Int))
def tiedC (s : ByteArray) (n : Int) (i j : Nat) : Int := if tiedQ (cend s i j) n then 1 else 0
theorem tiedC_bd (s : ByteArray) (n : Int) (i j : Nat) : 0 ≤ tiedC s n i j ∧ tiedC s n i j ≤ 1 := by unfold tiedC; split <;> omega
theorem colv_cend (s : ByteArray) (h : DanceP s) (hs : s.size ≤ 24) {i j : Nat} (hi : i ≤ 12) (hj : j ≤ 12) : colv s (i : Int) (j : Int) = ((cend s i j).1, (cend s i j).2.1, (cend s i j).2.2.1, (cend s i j).2.2.2, true) := by
  unfold colv cend; rw [if_pos ⟨⟨h, hs⟩, by omega, by omega⟩]
def tiedN (s : ByteArray) (m : Nat) : Int := sumR (fun a => sumR (tiedC s m a) m) m
/-- What CountTied answers. -/
def tiedcv (s : ByteArray) (n : Int) : Int := if (DanceP s ∧ s.size ≤ 24) ∧ 1 ≤ n ∧ n ≤ 12 then tiedN s n.toNat else -1
theorem row_bd (s : ByteArray) (m a : Nat) : 0 ≤ sumR (tiedC s m a) m ∧ sumR (tiedC s m a) m ≤ (m : Int) := sumR_bd (tiedC_bd s m a) m
theorem colv_ok (s : ByteArray) : (colv s 0 0).2.2.2.2 = decide (DanceP s ∧ s.size ≤ 24) := by
  unfold colv
  by_cases h : DanceP s ∧ s.size ≤ 24
  · rw [if_pos ⟨h, by omega, by omega⟩, decide_eq_true h]
  · rw [if_neg (fun x => h x.1), decide_eq_false h]

-- joincmath
def joinQ (u v : Int × Int × Int × Int) (n : Int) : Prop := Int.tmod (wrap64 (u.2.1 - v.1)) n = 0 ∧ Int.tmod (wrap64 (u.2.2.2 - v.2.2.1)) n = 0 ∧ Int.tmod (wrap64 (u.1 - v.2.1)) n = 0 ∧ Int.tmod (wrap64 (u.2.2.1 - v.2.2.2)) n = 0
instance (u v : Int × Int × Int × Int) (n : Int) : Decidable (joinQ u v n) := by unfold joinQ; infer_instance
def joinC (s t : ByteArray) (n : Int) (i j p q : Nat) : Int := if joinQ (cend s i j) (cend t p q) n then 1 else 0
theorem joinC_bd (s t : ByteArray) (n : Int) (i j p q : Nat) : 0 ≤ joinC s t n i j p q ∧ joinC s t n i j p q ≤ 1 := by unfold joinC; split <;> omega
def joinN (s t : ByteArray) (m : Nat) : Int := sumR (fun p => sumR (fun q => sumR (fun i => sumR (fun j => joinC s t m i j p q) m) m) m) m
/-- The count as the reference walks: a pair's code, then the other's. -/
theorem joinN_spec (s t : ByteArray) {m : Nat} (hm : 0 < m) : sumR (fun c => sumR (fun d => joinC s t m (c / m) (c % m) (d / m) (d % m)) (m * m)) (m * m) = joinN s t m := by
  rw [sumR_swap]
  unfold joinN
  rw [← sumR_flat (fun p q => sumR (fun i => sumR (fun j => joinC s t m i j p q) m) m) hm]
  refine sumR_congr fun d _ => ?_
  exact sumR_flat (fun i j => joinC s t m i j (d / m) (d % m)) hm m
/-- The count as the program walks: one code. -/
theorem joinN_impl (s t : ByteArray) {m : Nat} (hm : 0 < m) : sumR (fun e => joinC s t m (e % m) (e / m % m) (e / m / m % m) (e / m / m / m)) (m * m * m * m) = joinN s t m := by
  rw [sumR_flat (fun q r => joinC s t m r (q % m) (q / m % m) (q / m / m)) hm]
  rw [sumR_flat (fun q r' => sumR (fun r => joinC s t m r r' (q % m) (q / m)) m) hm]
  rw [sumR_flat (fun q p => sumR (fun r' => sumR (fun r => joinC s t m r r' p q) m) m) hm]
  unfold joinN
  rw [sumR_swap]
  refine sumR_congr fun p _ => ?_
  refine sumR_congr fun q _ => ?_
  rw [sumR_swap]
/-- What CountJoined answers. -/
def joincv (s t : ByteArray) (n : Int) : Int := if ((DanceP s ∧ s.size ≤ 24) ∧ (DanceP t ∧ t.size ≤ 24)) ∧ 1 ≤ n ∧ n ≤ 5 then joinN s t n.toNat else -1

-- trimmath
theorem all_of_dropWhile {α : Type} (p : α → Bool) : ∀ l : List α, (∀ x ∈ l.dropWhile p, p x = true) → ∀ x ∈ l, p x = true
  | [], _ => fun x hx => by simp at hx
  | a :: l, h => by
    intro x hx
    by_cases ha : p a = true
    · rw [List.dropWhile_cons_of_pos ha] at h
      rcases List.mem_cons.1 hx with rfl | hx
      · exact ha
      · exact all_of_dropWhile p l h x hx
    · rw [List.dropWhile_cons_of_neg ha] at h
      exact h x hx
theorem dropWhile_nil_of_all {α : Type} (p : α → Bool) : ∀ l : List α, (∀ x ∈ l, p x = true) → l.dropWhile p = []
  | [], _ => rfl
  | a :: l, h => by
    rw [List.dropWhile_cons_of_pos (h a (by simp))]
    exact dropWhile_nil_of_all p l fun x hx => h x (by simp [hx])
theorem all_of_dropWhile_nil {α : Type} (p : α → Bool) : ∀ l : List α, l.dropWhile p = [] → ∀ x ∈ l, p x = true :=
  fun l h => all_of_dropWhile p l (by rw [h]; simp)
theorem trimS_nil (l cs : List UInt8) : Go.Lib.trimS l cs = [] ↔ ∀ c ∈ l, c ∈ cs := by
  unfold Go.Lib.trimS Go.Lib.trimLeftS Go.Lib.trimRightS
  constructor
  · intro h
    have h1 := all_of_dropWhile_nil _ _ h
    have h2 := all_of_dropWhile (cs.contains ·) l.reverse (fun x hx => h1 x (by simpa using hx))
    intro c hc
    simpa using h2 c (by simpa using hc)
  · intro h
    rw [dropWhile_nil_of_all (cs.contains ·) l.reverse (fun x hx => by simpa using h x (by simpa using hx))]
    rfl
theorem strings_Trim_f {s : ByteArray} {cs : List UInt8} (hs : s.size ≤ 100000000) (hl : cs.length < 4294967281) (ha : cs.all (fun b => decide (b.toNat < 128)) = true) :
    strings_Trim.f s ⟨⟨cs⟩⟩ = some ⟨⟨Go.Lib.trimS s.data.toList cs⟩⟩ := by
  unfold strings_Trim.f
  rw [if_pos ⟨by omega, by simpa [ByteArray.size] using hl, ha⟩]

-- impl_isDance
theorem impl_areMoves_f (s : ByteArray) (hs : s.size ≤ 100000000) : impl_areMoves.f s = some (decide (AllM s.data.toList)) := by
  unfold impl_areMoves.f
  rw [strings_Trim_f hs (by decide) (by decide)]; simp only [Option.bind_some]
  have e : AllM s.data.toList ↔ Go.Lib.trimS s.data.toList [84, 116, 82] = [] := by
    rw [trimS_nil]; unfold AllM MoveP; simp
  by_cases h : AllM s.data.toList
  · rw [decide_eq_true h, e.1 h, ByteArray.toList_eq]; rfl
  · rw [decide_eq_false h]
    have h' : Go.Lib.trimS s.data.toList [84, 116, 82] ≠ [] := fun x => h (e.2 x)
    cases h2 : Go.Lib.trimS s.data.toList [84, 116, 82] with
    | nil => exact absurd h2 h'
    | cons a l => rw [ByteArray.toList_eq]; rfl
theorem impl_isDance_f (s : ByteArray) (hs : s.size ≤ 100000000) : impl_isDance.f s = some (decide (DanceP s)) := by
  unfold impl_isDance.f
  rw [impl_areMoves_f s hs]; simp only [Option.bind_some]
  have e : s.data.toList.length = s.size := rfl
  by_cases h : (s.size : Int) ≤ 40
  · rw [if_pos h]; exact dec_iff ⟨fun x => ⟨by omega, x⟩, fun x => x.2⟩
  · rw [if_neg h]; exact (dec_false (fun x => by have := x.1; omega)).symm

-- impl_coloured
theorem impl_coloured_l0 (s : ByteArray) (hs : s.size ≤ 24) (n : Nat) : ∀ (i : Nat) (c : Int × Int × Int × Int), i + n = s.size → ColBd (12 * 3 ^ i) c → ∀ k, n < k →
    impl_coloured.l0 k s (s.size : Int) (i : Int) c.1 c.2.1 c.2.2.1 c.2.2.2 = some ((cafter (s.data.toList.drop i) c).1, (cafter (s.data.toList.drop i) c).2.1, (cafter (s.data.toList.drop i) c).2.2.1, (cafter (s.data.toList.drop i) c).2.2.2) := by
  induction n with
  | zero =>
    intro i c hi hc k hk
    obtain ⟨k, rfl⟩ : ∃ m, k = m + 1 := ⟨k - 1, by omega⟩
    simp only [impl_coloured.l0]
    rw [if_neg (by omega), drop_end (by omega)]; rfl
  | succ n ih =>
    intro i c hi hc k hk
    obtain ⟨k, rfl⟩ : ∃ m, k = m + 1 := ⟨k - 1, by omega⟩
    obtain ⟨m, hd, hb⟩ := bt_drop (s := s) (i := i) (by omega)
    have hp : 3 ^ i ≤ 3 ^ 24 := Nat.pow_le_pow_right (by omega) (by omega)
    have hc' : ColBd (12 * 3 ^ (i + 1)) (cmove c m) := by
      have := cmove_bd hc m
      rw [Nat.pow_succ, show 12 * (3 ^ i * 3) = 3 * (12 * 3 ^ i) by omega]
      exact this
    have IH := ih (i + 1) (cmove c m) (by omega) hc' k (by omega)
    have e1 : (((m.toNat : Nat) : Int) = 84) ↔ m = 84 := u8_eq (n := 84) (by omega)
    have e2 : (((m.toNat : Nat) : Int) = 116) ↔ m = 116 := u8_eq (n := 116) (by omega)
    obtain ⟨c1, c2, c3, c4⟩ := c
    unfold ColBd at hc
    simp only at hc
    simp only [impl_coloured.l0]
    rw [if_pos (by omega), if_pos (by omega), if_pos (by omega), hb, hd, wrap64_in (n := (i : Int) + 1) (by omega) (by omega), show ((i : Int) + 1) = ((i + 1 : Nat) : Int) by omega]
    rw [show cafter (m :: s.data.toList.drop (i + 1)) (c1, c2, c3, c4) = cafter (s.data.toList.drop (i + 1)) (cmove (c1, c2, c3, c4) m) from rfl, ← IH]
    unfold cmove
    by_cases h1 : m = 84
    · rw [if_pos (e1.2 h1), if_pos h1, wrap64_in (n := 2 * c2) (by omega) (by omega), wrap64_in (by omega) (by omega)]
    · rw [if_neg (fun x => h1 (e1.1 x)), if_neg h1]
      by_cases h2 : m = 116
      · rw [if_pos (e2.2 h2), if_pos h2, wrap64_in (n := 2 * c4) (by omega) (by omega), wrap64_in (by omega) (by omega)]
      · rw [if_neg (fun x => h2 (e2.1 x)), if_neg h2]
theorem impl_coloured_f (s : ByteArray) (a b : Int) {k : Nat} (hs : s.size ≤ 24) (ha : 0 ≤ a ∧ a ≤ 12) (hb : 0 ≤ b ∧ b ≤ 12) (hk : 1000 ≤ k) :
    impl_coloured.f k s a b = some ((cafter s.data.toList (a, a, b, b)).1, (cafter s.data.toList (a, a, b, b)).2.1, (cafter s.data.toList (a, a, b, b)).2.2.1, (cafter s.data.toList (a, a, b, b)).2.2.2) := by
  unfold impl_coloured.f
  have := impl_coloured_l0 s (by omega) s.size 0 (a, a, b, b) (by omega) ⟨by simp only; omega, by simp only; omega, by simp only; omega, by simp only; omega⟩ k (by omega)
  rw [List.drop_zero] at this
  exact this
theorem impl_isShort_f (s : ByteArray) (hs : s.size ≤ 100000000) : impl_isShort.f s = some (decide (DanceP s ∧ s.size ≤ 24)) := by
  unfold impl_isShort.f
  rw [impl_isDance_f s hs]; simp only [Option.bind_some]
  by_cases h : (s.size : Int) ≤ 24
  · rw [if_pos h]; exact dec_iff ⟨fun x => ⟨x, by omega⟩, fun x => x.1⟩
  · rw [if_neg h]; exact (dec_false (fun x => by have := x.2; omega)).symm

-- impl_alike
theorem impl_alike_f (a b n : Int) (hn : n ≠ 0) : impl_alike.f a b n = some (decide (Int.tmod (wrap64 (a - b)) n = 0)) := by
  unfold impl_alike.f; rw [if_neg hn]; rfl
theorem coloured_cend (s : ByteArray) (hs : s.size ≤ 24) {i j : Nat} (hi : i ≤ 12) (hj : j ≤ 12) {k : Nat} (hk : 1000 ≤ k) : impl_coloured.f k s (i : Int) (j : Int) = some ((cend s i j).1, (cend s i j).2.1, (cend s i j).2.2.1, (cend s i j).2.2.2) := by
  unfold cend; exact impl_coloured_f s _ _ hs (by omega) (by omega) hk

-- impl_CountJoined
theorem impl_CountJoined_l0 (s t : ByteArray) (hs : s.size ≤ 24) (ht : t.size ≤ 24) {m : Nat} (hm : 1 ≤ m) (hm' : m ≤ 5) (n : Nat) : ∀ e : Nat, e + n = m * m * m * m → ∀ k, n * 2 + 2000 ≤ k →
    impl_CountJoined.l0 k s t (m : Int) (sumR (fun e => joinC s t m (e % m) (e / m % m) (e / m / m % m) (e / m / m / m)) e) ((m * m * m * m : Nat) : Int) (e : Int) = some (joinN s t m) := by
  have hmm : m * m * m * m ≤ 5 * 5 * 5 * 5 := Nat.mul_le_mul (Nat.mul_le_mul (Nat.mul_le_mul hm' hm') hm') hm'
  induction n with
  | zero =>
    intro e he k hk
    obtain ⟨k, rfl⟩ : ∃ q, k = q + 1 := ⟨k - 1, by omega⟩
    simp only [impl_CountJoined.l0]
    rw [if_neg (by omega), show e = m * m * m * m by omega, joinN_impl s t (by omega)]
  | succ n ih =>
    intro e he k hk
    obtain ⟨k, rfl⟩ : ∃ q, k = q + 2 := ⟨k - 2, by omega⟩
    have b := sumR_bd (f := fun e => joinC s t m (e % m) (e / m % m) (e / m / m % m) (e / m / m / m)) (fun e => joinC_bd s t m _ _ _ _) e
    have IH := ih (e + 1) (by omega) k (by omega)
    simp only [sumR] at IH
    rw [← IH]
    clear IH ih
    have hm0 : 0 < m := hm
    have h1 : e % m < m := Nat.mod_lt _ hm0
    have h2 : e / m % m < m := Nat.mod_lt _ hm0
    have h3 : e / m / m % m < m := Nat.mod_lt _ hm0
    have h4 : e / m / m / m < m := by
      rw [Nat.div_div_eq_div_mul, Nat.div_div_eq_div_mul]
      refine Nat.div_lt_of_lt_mul ?_
      have ee : m * (m * m) * m = m * m * m * m := by simp only [Nat.mul_assoc]
      rw [ee]; omega
    have e0 : Int.tmod (e : Int) (m : Int) = ((e % m : Nat) : Int) := rfl
    have e1 : Int.tdiv (e : Int) (m : Int) = ((e / m : Nat) : Int) := rfl
    have e2 : Int.tmod ((e / m : Nat) : Int) (m : Int) = ((e / m % m : Nat) : Int) := rfl
    have e3 : Int.tdiv ((e / m : Nat) : Int) (m : Int) = ((e / m / m : Nat) : Int) := rfl
    have e4 : Int.tmod ((e / m / m : Nat) : Int) (m : Int) = ((e / m / m % m : Nat) : Int) := rfl
    have e5 : Int.tdiv ((e / m / m : Nat) : Int) (m : Int) = ((e / m / m / m : Nat) : Int) := rfl
    have b1 : e / m ≤ e := Nat.div_le_self _ _
    have b2 : e / m / m ≤ e / m := Nat.div_le_self _ _
    revert h1 h2 h3 h4 e0 e1 e2 e3 e4 e5 b1 b2
    generalize e / m / m / m = q
    generalize e / m / m % m = p
    generalize e / m / m = x
    generalize e / m % m = j
    generalize e / m = y
    generalize e % m = i
    intro h1 h2 h3 h4 e0 e1 e2 e3 e4 e5 b1 b2
    simp only [impl_CountJoined.l0]
    rw [if_pos (by omega), if_neg (by omega), e0, e1, wrap64_in (n := (y : Int)) (by omega) (by omega), e2, e3, wrap64_in (n := (x : Int)) (by omega) (by omega), e4, e5, wrap64_in (n := (q : Int)) (by omega) (by omega),
      coloured_cend s hs (by omega) (by omega) (by omega)]; simp only [Option.bind_some]
    rw [coloured_cend t ht (by omega) (by omega) (by omega)]; simp only [Option.bind_some]
    rw [impl_alike_f _ _ _ (by omega), impl_alike_f _ _ _ (by omega)]; simp only [Option.bind_some, decide_eq_true_eq, impl_CountJoined.j2]
    rw [impl_alike_f _ _ _ (by omega), impl_alike_f _ _ _ (by omega)]; simp only [Option.bind_some, decide_eq_true_eq]
    rw [wrap64_in (n := (e : Int) + 1) (by omega) (by omega), wrap64_in (n := sumR (fun e => joinC s t m (e % m) (e / m % m) (e / m / m % m) (e / m / m / m)) e + 1) (by omega) (by omega), show ((e : Int) + 1) = ((e + 1 : Nat) : Int) by omega]
    by_cases c1 : Int.tmod (wrap64 ((cend s i j).2.1 - (cend t p q).1)) (m : Int) = 0
    · rw [if_pos c1]
      by_cases c2 : Int.tmod (wrap64 ((cend s i j).2.2.2 - (cend t p q).2.2.1)) (m : Int) = 0
      · rw [if_pos c2]
        by_cases c3 : Int.tmod (wrap64 ((cend s i j).1 - (cend t p q).2.1)) (m : Int) = 0
        · rw [if_pos c3]
          by_cases c4 : Int.tmod (wrap64 ((cend s i j).2.2.1 - (cend t p q).2.2.2)) (m : Int) = 0
          · rw [if_pos c4, show joinC s t m i j p q = 1 from if_pos ⟨c1, c2, c3, c4⟩]
          · rw [if_neg c4, show joinC s t m i j p q = 0 from if_neg (fun x => c4 x.2.2.2), Int.add_zero]
        · rw [if_neg c3, show joinC s t m i j p q = 0 from if_neg (fun x => c3 x.2.2.1), Int.add_zero]
      · rw [if_neg c2, show joinC s t m i j p q = 0 from if_neg (fun x => c2 x.2.1), Int.add_zero]
    · rw [if_neg c1, if_neg (by decide), show joinC s t m i j p q = 0 from if_neg (fun x => c1 x.1), Int.add_zero]
theorem impl_CountJoined_f (s t : ByteArray) (n : Int) {k : Nat} (hs : s.size ≤ 100000000) (ht : t.size ≤ 100000000) (hk : 10000 ≤ k) : impl_CountJoined.f k s t n = some (joincv s t n) := by
  obtain ⟨k, rfl⟩ : ∃ m, k = m + 1 := ⟨k - 1, by omega⟩
  unfold impl_CountJoined.f joincv
  rw [impl_isShort_f s hs, impl_isShort_f t ht]; simp only [Option.bind_some, decide_eq_true_eq, impl_CountJoined.j0]
  by_cases h : DanceP s ∧ s.size ≤ 24
  · rw [if_pos h]
    by_cases h' : DanceP t ∧ t.size ≤ 24
    · rw [if_pos h']
      by_cases h1 : n < 1
      · rw [if_pos h1, if_pos trivial, if_neg (fun x => by omega)]
      · rw [if_neg h1]
        by_cases h2 : n > 5
        · rw [if_pos h2, if_neg (fun x => by omega)]
        · rw [if_neg h2, if_pos ⟨⟨h, h'⟩, by omega⟩]
          obtain ⟨m, rfl⟩ : ∃ m : Nat, n = (m : Int) := ⟨n.toNat, by omega⟩
          have hm' : m ≤ 5 := by omega
          have m2 : m * m ≤ 5 * 5 := Nat.mul_le_mul hm' hm'
          have m3 : m * m * m ≤ 5 * 5 * 5 := Nat.mul_le_mul m2 hm'
          have m4 : m * m * m * m ≤ 5 * 5 * 5 * 5 := Nat.mul_le_mul m3 hm'
          have := impl_CountJoined_l0 s t h.2 h'.2 (m := m) (by omega) (by omega) (m * m * m * m) 0 (by omega) k (by omega)
          rw [show (m : Int) * (m : Int) = ((m * m : Nat) : Int) by simp, wrap64_in (n := ((m * m : Nat) : Int)) (by omega) (by omega),
            show ((m * m : Nat) : Int) * (m : Int) = ((m * m * m : Nat) : Int) by simp, wrap64_in (n := ((m * m * m : Nat) : Int)) (by omega) (by omega),
            show ((m * m * m : Nat) : Int) * (m : Int) = ((m * m * m * m : Nat) : Int) by simp, wrap64_in (n := ((m * m * m * m : Nat) : Int)) (by omega) (by omega)]
          rw [show ((m : Int)).toNat = m by omega]
          exact this
    · rw [if_neg h', if_pos trivial, if_neg (fun x => h' x.1.2)]
  · rw [if_neg h, if_pos trivial, if_neg (fun x => h x.1.1)]

-- spec_DanceOk
theorem spec_DanceOk_l0 (s : ByteArray) (hs : s.size ≤ 1000000000) (n : Nat) : ∀ i : Nat, i + n = s.size → ∀ k, n < k → spec_DanceOk.l0 k s (i : Int) = some (decide (s.size ≤ 40 ∧ AllM (s.data.toList.drop i))) := by
  induction n with
  | zero =>
    intro i hi k hk
    obtain ⟨k, rfl⟩ : ∃ m, k = m + 1 := ⟨k - 1, by omega⟩
    simp only [spec_DanceOk.l0]
    rw [if_neg (by omega), drop_end (by omega)]
    exact dec_iff ⟨fun x => ⟨by omega, allM_nil⟩, fun x => by omega⟩
  | succ n ih =>
    intro i hi k hk
    obtain ⟨k, rfl⟩ : ∃ m, k = m + 1 := ⟨k - 1, by omega⟩
    obtain ⟨c, hd, hb⟩ := bt_drop (s := s) (i := i) (by omega)
    simp only [spec_DanceOk.l0]
    rw [if_pos (by omega), if_pos (by omega), hb, hd, wrap64_in (by omega) (by omega), show ((i : Int) + 1) = ((i + 1 : Nat) : Int) by omega, ih (i + 1) (by omega) k (by omega)]
    have e1 : (((c.toNat : Nat) : Int) = 84) ↔ c = 84 := u8_eq (n := 84) (by omega)
    have e2 : (((c.toNat : Nat) : Int) = 116) ↔ c = 116 := u8_eq (n := 116) (by omega)
    have e3 : (((c.toNat : Nat) : Int) = 82) ↔ c = 82 := u8_eq (n := 82) (by omega)
    have yes : MoveP c → some (decide (s.size ≤ 40 ∧ AllM (s.data.toList.drop (i + 1)))) = some (decide (s.size ≤ 40 ∧ AllM (c :: s.data.toList.drop (i + 1)))) := by
      intro h; exact dec_iff ⟨fun x => ⟨x.1, (allM_cons _ _).2 ⟨h, x.2⟩⟩, fun x => ⟨x.1, ((allM_cons _ _).1 x.2).2⟩⟩
    by_cases h1 : c = 84
    · rw [if_pos (e1.2 h1)]; exact yes (.inl h1)
    · rw [if_neg (fun x => h1 (e1.1 x))]
      by_cases h2 : c = 116
      · rw [if_pos (e2.2 h2)]; exact yes (.inr (.inl h2))
      · rw [if_neg (fun x => h2 (e2.1 x))]
        by_cases h3 : c = 82
        · rw [if_pos (e3.2 h3)]; exact yes (.inr (.inr h3))
        · rw [if_neg (fun x => h3 (e3.1 x))]
          exact (dec_false (fun x => by rcases ((allM_cons _ _).1 x.2).1 with y | y | y <;> contradiction)).symm
theorem spec_DanceOk_f (s : ByteArray) {k : Nat} (hs : s.size ≤ 100000000) (hk : 100000001 ≤ k) : spec_DanceOk.f k s = some (decide (DanceP s)) := by
  unfold spec_DanceOk.f
  have := spec_DanceOk_l0 s (by omega) s.size 0 (by omega) k (by omega)
  rw [show ((0 : Nat) : Int) = 0 from rfl] at this
  rw [this]
  exact dec_iff (by unfold DanceP DanceL; simp)

-- spec_l1In
theorem spec_l1In_f (a b c : Int) : spec_l1In.f a b c = some (decide (b ≤ a ∧ a ≤ c)) := by
  unfold spec_l1In.f
  by_cases h : b ≤ a
  · rw [if_pos h]; exact dec_iff ⟨fun x => ⟨h, x⟩, fun x => x.2⟩
  · rw [if_neg h]; exact (dec_false (fun x => h x.1)).symm

-- spec_ColoursAfter
theorem spec_l8Moved_f {B : Nat} {c : Int × Int × Int × Int} (h : ColBd B c) (hB : B ≤ 1000000000000000) (m : UInt8) : spec_l8Moved.f c.1 c.2.1 c.2.2.1 c.2.2.2 ((m.toNat : Nat) : Int) = some (cmove c m) := by
  obtain ⟨a, b, d, e⟩ := c
  unfold ColBd at h
  unfold spec_l8Moved.f cmove
  simp only at *
  have e1 : (((m.toNat : Nat) : Int) = 84) ↔ m = 84 := u8_eq (n := 84) (by omega)
  have e2 : (((m.toNat : Nat) : Int) = 116) ↔ m = 116 := u8_eq (n := 116) (by omega)
  by_cases h1 : m = 84
  · rw [if_pos (e1.2 h1), if_pos h1, wrap64_in (n := 2 * b) (by omega) (by omega), wrap64_in (by omega) (by omega)]
  · rw [if_neg (fun x => h1 (e1.1 x)), if_neg h1]
    by_cases h2 : m = 116
    · rw [if_pos (e2.2 h2), if_pos h2, wrap64_in (n := 2 * e) (by omega) (by omega), wrap64_in (by omega) (by omega)]
    · rw [if_neg (fun x => h2 (e2.1 x)), if_neg h2]
theorem spec_ColoursAfter_l0 (s : ByteArray) (hs : s.size ≤ 24) (n : Nat) : ∀ (i : Nat) (c : Int × Int × Int × Int), i + n = s.size → ColBd (12 * 3 ^ i) c → ∀ k, n < k →
    spec_ColoursAfter.l0 k s (i : Int) c.1 c.2.1 c.2.2.1 c.2.2.2 = some ((cafter (s.data.toList.drop i) c).1, (cafter (s.data.toList.drop i) c).2.1, (cafter (s.data.toList.drop i) c).2.2.1, (cafter (s.data.toList.drop i) c).2.2.2, true) := by
  induction n with
  | zero =>
    intro i c hi hc k hk
    obtain ⟨k, rfl⟩ : ∃ m, k = m + 1 := ⟨k - 1, by omega⟩
    simp only [spec_ColoursAfter.l0]
    rw [if_neg (by omega), drop_end (by omega)]; rfl
  | succ n ih =>
    intro i c hi hc k hk
    obtain ⟨k, rfl⟩ : ∃ m, k = m + 1 := ⟨k - 1, by omega⟩
    obtain ⟨m, hd, hb⟩ := bt_drop (s := s) (i := i) (by omega)
    have hp : 3 ^ i ≤ 3 ^ 24 := Nat.pow_le_pow_right (by omega) (by omega)
    simp only [spec_ColoursAfter.l0]
    rw [if_pos (by omega), if_pos (by omega), hb, spec_l8Moved_f hc (by omega) m, hd, wrap64_in (by omega) (by omega), show ((i : Int) + 1) = ((i + 1 : Nat) : Int) by omega]; simp only [Option.bind_some]
    have hc' : ColBd (12 * 3 ^ (i + 1)) (cmove c m) := by
      have := cmove_bd hc m
      rw [Nat.pow_succ, show 12 * (3 ^ i * 3) = 3 * (12 * 3 ^ i) by omega]
      exact this
    rw [ih (i + 1) (cmove c m) (by omega) hc' k (by omega)]
    rfl
theorem spec_ColoursAfter_f (s : ByteArray) (a b : Int) {k : Nat} (hs : s.size ≤ 100000000) (hk : 100000001 ≤ k) : spec_ColoursAfter.f k s a b = some (colv s a b) := by
  obtain ⟨k, rfl⟩ : ∃ m, k = m + 1 := ⟨k - 1, by omega⟩
  unfold spec_ColoursAfter.f colv
  rw [spec_DanceOk_f s hs (by omega)]; simp only [Option.bind_some, decide_eq_true_eq, spec_l1In_f]
  have no : spec_ColoursAfter.j0 (k + 1) s a b true = some (0, 0, 0, 0, false) := by simp only [spec_ColoursAfter.j0]; rw [if_pos trivial]
  by_cases h : DanceP s
  · rw [if_pos h]
    by_cases h1 : (s.size : Int) > 24
    · rw [if_pos h1, no, if_neg (fun x => by have := x.1.2; omega)]
    · rw [if_neg h1]
      by_cases h2 : 0 ≤ a ∧ a ≤ 12
      · rw [if_pos h2]
        by_cases h3 : 0 ≤ b ∧ b ≤ 12
        · rw [decide_eq_true h3, if_pos (show ColArgs s a b from ⟨⟨h, by omega⟩, h2, h3⟩)]
          simp only [spec_ColoursAfter.j0]
          rw [if_neg (by decide)]
          have := spec_ColoursAfter_l0 s (by omega) s.size 0 (a, a, b, b) (by omega) ⟨by simp only; omega, by simp only; omega, by simp only; omega, by simp only; omega⟩ k (by omega)
          rw [List.drop_zero] at this
          exact this
        · rw [decide_eq_false h3, if_neg (fun x => h3 x.2.2)]; exact no
      · rw [if_neg h2, no, if_neg (fun x => h2 x.2.1)]
  · rw [if_neg h, no, if_neg (fun x => h x.1.1)]

-- spec_CountJoined
theorem spec_CountJoined_l1 (s t : ByteArray) (h : DanceP t) (hs : t.size ≤ 24) {m : Nat} (hm : 1 ≤ m) (hm' : m ≤ 5) {c : Nat} (hc : c < m * m) (acc : Int) (h0 : 0 ≤ acc ∧ acc ≤ 1000) (i j : Nat) (n : Nat) : ∀ d : Nat, d + n = m * m → ∀ k, n + 100000003 ≤ k →
    spec_CountJoined.l1 k s t (m : Int) (acc + sumR (fun d => joinC s t m i j (d / m) (d % m)) d) (c : Int) (d : Int) (cend s i j).1 (cend s i j).2.1 (cend s i j).2.2.1 (cend s i j).2.2.2
      = spec_CountJoined.l0 (k - (n + 1)) s t (m : Int) (acc + sumR (fun d => joinC s t m i j (d / m) (d % m)) (m * m)) ((c + 1 : Nat) : Int) := by
  have hmm : m * m ≤ 5 * 5 := Nat.mul_le_mul hm' hm'
  have em : ((m : Int) * (m : Int)) = ((m * m : Nat) : Int) := by simp
  induction n with
  | zero =>
    intro d hd k hk
    obtain ⟨k, rfl⟩ : ∃ q, k = q + 1 := ⟨k - 1, by omega⟩
    simp only [spec_CountJoined.l1]
    rw [em, wrap64_in (n := ((m * m : Nat) : Int)) (by omega) (by omega), if_neg (by omega), show d = m * m by omega, wrap64_in (n := (c : Int) + 1) (by omega) (by omega)]; rfl
  | succ n ih =>
    intro d hd k hk
    obtain ⟨k, rfl⟩ : ∃ q, k = q + 1 := ⟨k - 1, by omega⟩
    have b := sumR_bd (f := fun d => joinC s t m i j (d / m) (d % m)) (fun d => joinC_bd s t m i j _ _) d
    have hq : d / m < m := Nat.div_lt_of_lt_mul (by omega)
    have hr : d % m < m := Nat.mod_lt _ (by omega)
    have IH := ih (d + 1) (by omega) k (by omega)
    have e1 : Int.tdiv (d : Int) (m : Int) = ((d / m : Nat) : Int) := rfl
    have e2 : Int.tmod (d : Int) (m : Int) = ((d % m : Nat) : Int) := rfl
    simp only [sumR] at IH
    rw [show k + 1 - (n + 1 + 1) = k - (n + 1) by omega, ← IH]
    clear IH ih
    revert hq hr e1 e2
    generalize d / m = p
    generalize d % m = r
    intro hq hr e1 e2
    simp only [spec_CountJoined.l1]
    rw [em, wrap64_in (n := ((m * m : Nat) : Int)) (by omega) (by omega), if_pos (by omega), if_neg (by omega), e1, e2, wrap64_in (n := ((p : Nat) : Int)) (by omega) (by omega), spec_ColoursAfter_f _ _ _ (by omega) (by omega)]
    simp only [Option.bind_some]
    rw [colv_cend t h hs (by omega) (by omega), wrap64_in (n := (d : Int) + 1) (by omega) (by omega), wrap64_in (n := acc + sumR (fun d => joinC s t m i j (d / m) (d % m)) d + 1) (by omega) (by omega), show ((d : Int) + 1) = ((d + 1 : Nat) : Int) by omega]
    by_cases h1 : Int.tmod (wrap64 ((cend s i j).2.1 - (cend t p r).1)) (m : Int) = 0
    · rw [if_pos h1]
      by_cases h2 : Int.tmod (wrap64 ((cend s i j).2.2.2 - (cend t p r).2.2.1)) (m : Int) = 0
      · rw [if_pos h2]
        by_cases h3 : Int.tmod (wrap64 ((cend s i j).1 - (cend t p r).2.1)) (m : Int) = 0
        · rw [if_pos h3]
          by_cases h4 : Int.tmod (wrap64 ((cend s i j).2.2.1 - (cend t p r).2.2.2)) (m : Int) = 0
          · rw [if_pos h4, show joinC s t m i j p r = 1 from if_pos ⟨h1, h2, h3, h4⟩, Int.add_assoc]
          · rw [if_neg h4, show joinC s t m i j p r = 0 from if_neg (fun x => h4 x.2.2.2), Int.add_zero]
        · rw [if_neg h3, show joinC s t m i j p r = 0 from if_neg (fun x => h3 x.2.2.1), Int.add_zero]
      · rw [if_neg h2, show joinC s t m i j p r = 0 from if_neg (fun x => h2 x.2.1), Int.add_zero]
    · rw [if_neg h1, show joinC s t m i j p r = 0 from if_neg (fun x => h1 x.1), Int.add_zero]
theorem spec_CountJoined_l0 (s t : ByteArray) (hs : DanceP s ∧ s.size ≤ 24) (ht : DanceP t ∧ t.size ≤ 24) {m : Nat} (hm : 1 ≤ m) (hm' : m ≤ 5) (n : Nat) : ∀ c : Nat, c + n = m * m → ∀ k, n * 50 + 100000100 ≤ k →
    spec_CountJoined.l0 k s t (m : Int) (sumR (fun c => sumR (fun d => joinC s t m (c / m) (c % m) (d / m) (d % m)) (m * m)) c) (c : Int) = some (joinN s t m) := by
  have hmm : m * m ≤ 5 * 5 := Nat.mul_le_mul hm' hm'
  have em : ((m : Int) * (m : Int)) = ((m * m : Nat) : Int) := by simp
  induction n with
  | zero =>
    intro c hc k hk
    obtain ⟨k, rfl⟩ : ∃ q, k = q + 1 := ⟨k - 1, by omega⟩
    simp only [spec_CountJoined.l0]
    rw [em, wrap64_in (n := ((m * m : Nat) : Int)) (by omega) (by omega), if_neg (by omega), show c = m * m by omega, joinN_spec s t (by omega)]
  | succ n ih =>
    intro c hc k hk
    obtain ⟨k, rfl⟩ : ∃ q, k = q + 1 := ⟨k - 1, by omega⟩
    have b := sumR_bd2 (B := m * m) (f := fun c => sumR (fun d => joinC s t m (c / m) (c % m) (d / m) (d % m)) (m * m)) (fun c => sumR_bd (fun d => joinC_bd s t m _ _ _ _) (m * m)) c
    have hB : (c : Int) * ((m * m : Nat) : Int) ≤ 25 * 25 := Int.mul_le_mul (by omega) (by omega) (by omega) (by omega)
    have IH := ih (c + 1) (by omega) (k - (m * m + 1)) (by omega)
    have L := spec_CountJoined_l1 s t ht.1 ht.2 hm hm' (c := c) (by omega) (sumR (fun c => sumR (fun d => joinC s t m (c / m) (c % m) (d / m) (d % m)) (m * m)) c) (by omega) (c / m) (c % m) (m * m) 0 (by omega) k (by omega)
    simp only [sumR] at IH L
    rw [Int.add_zero] at L
    rw [IH] at L
    have hq : c / m < m := Nat.div_lt_of_lt_mul (by omega)
    have hr : c % m < m := Nat.mod_lt _ (by omega)
    have e1 : Int.tdiv (c : Int) (m : Int) = ((c / m : Nat) : Int) := rfl
    have e2 : Int.tmod (c : Int) (m : Int) = ((c % m : Nat) : Int) := rfl
    rw [← L]
    clear IH ih L
    simp only [spec_CountJoined.l0]
    rw [em, wrap64_in (n := ((m * m : Nat) : Int)) (by omega) (by omega), if_pos (by omega), if_neg (by omega), e1, e2]
    revert hq hr e1 e2
    generalize c / m = p
    generalize c % m = r
    intro hq hr e1 e2
    rw [wrap64_in (n := ((p : Nat) : Int)) (by omega) (by omega), spec_ColoursAfter_f _ _ _ (by omega) (by omega)]
    simp only [Option.bind_some]
    rw [colv_cend s hs.1 hs.2 (by omega) (by omega)]
    rfl
theorem spec_CountJoined_f (s t : ByteArray) (n : Int) {k : Nat} (hs : s.size ≤ 100000000) (ht : t.size ≤ 100000000) (hk : 100002001 ≤ k) : spec_CountJoined.f k s t n = some (joincv s t n) := by
  obtain ⟨k, rfl⟩ : ∃ m, k = m + 1 := ⟨k - 1, by omega⟩
  unfold spec_CountJoined.f joincv
  rw [spec_ColoursAfter_f s _ _ (by omega) (by omega)]; simp only [Option.bind_some]
  rw [spec_ColoursAfter_f t _ _ (by omega) (by omega)]; simp only [Option.bind_some, colv_ok, decide_eq_true_eq, spec_l1In_f, spec_CountJoined.j0]
  by_cases h : DanceP s ∧ s.size ≤ 24
  · rw [if_pos h]
    by_cases h' : DanceP t ∧ t.size ≤ 24
    · rw [if_pos h']
      by_cases h1 : 1 ≤ n ∧ n ≤ 5
      · rw [decide_eq_true h1, if_neg (by decide), if_pos ⟨⟨h, h'⟩, h1⟩]
        obtain ⟨m, rfl⟩ : ∃ m : Nat, n = (m : Int) := ⟨n.toNat, by omega⟩
        have hmm : m * m ≤ 5 * 5 := Nat.mul_le_mul (by omega) (by omega)
        have := spec_CountJoined_l0 s t h h' (m := m) (by omega) (by omega) (m * m) 0 (by omega) k (by omega)
        simpa [sumR] using this
      · rw [decide_eq_false h1, if_pos (by decide), if_neg (fun x => h1 x.2)]
    · rw [if_neg h', if_pos trivial, if_neg (fun x => h' x.1.2)]
  · rw [if_neg h, if_pos trivial, if_neg (fun x => h x.1.1)]

-- frac
/-- A fraction in lowest terms, as FractionOk tells it. -/
def Frac (a b : Int) : Prop := (-1000000 ≤ a ∧ a ≤ 1000000) ∧ (0 ≤ b ∧ b ≤ 1000000) ∧ Int.gcd a b = 1 ∧ (b = 0 → a = 1)
instance (a b : Int) : Decidable (Frac a b) := by unfold Frac; infer_instance

-- lowmath
/-- Two numbers in lowest terms. -/
def lowv (a b : Int) : Int × Int := if b < 0 ∨ (b = 0 ∧ a < 0) then (Int.tdiv a (-(Int.gcd a b : Int)), Int.tdiv b (-(Int.gcd a b : Int))) else (Int.tdiv a (Int.gcd a b : Int), Int.tdiv b (Int.gcd a b : Int))
theorem gcd_ne {a b : Int} (h : ¬ (a = 0 ∧ b = 0)) : Int.gcd a b ≠ 0 := by
  intro x; rw [Int.gcd_eq_zero_iff] at x; exact h x
theorem tdiv_wrap {a g : Int} (h : a.natAbs ≤ 9223372036854775807) : wrap64 (Int.tdiv a g) = Int.tdiv a g := by
  have := Nat.div_le_self a.natAbs g.natAbs
  have e : (Int.tdiv a g).natAbs = a.natAbs / g.natAbs := Int.natAbs_tdiv a g
  rw [← e] at this
  exact wrap64_in (by omega) (by omega)
theorem gcd_le_abs {a b : Int} (h : ¬ (a = 0 ∧ b = 0)) : (Int.gcd a b) ≤ a.natAbs + b.natAbs := by
  by_cases ha : a = 0
  · subst ha; rw [Int.gcd_zero_left]; omega
  · have := Int.gcd_le_natAbs_left (b := b) ha; omega

-- lowestof
/-- What LowestOf answers. -/
def LowOk (a b : Int) : Prop := (-1000000 ≤ a ∧ a ≤ 1000000) ∧ (-1000000 ≤ b ∧ b ≤ 1000000) ∧ ¬ (a = 0 ∧ b = 0)
instance (a b : Int) : Decidable (LowOk a b) := by unfold LowOk; infer_instance
def lowofv (a b : Int) : Int × Int × Bool := if LowOk a b then ((lowv a b).1, (lowv a b).2, true) else (0, 0, false)

-- mirmath
theorem gcd_neg_left (a b : Int) : Int.gcd (-a) b = Int.gcd a b := by simp
theorem lowv_coprime {a b : Int} (h : Int.gcd a b = 1) : lowv a b = if b < 0 ∨ (b = 0 ∧ a < 0) then (-a, -b) else (a, b) := by
  unfold lowv; rw [h]; split <;> simp
/-- The fraction with the other sign. -/
def mirv (a b : Int) : Int × Int := if b > 0 then (-a, b) else (a, b)
theorem mir_frac {a b : Int} (h : Frac a b) : Frac (mirv a b).1 (mirv a b).2 := by
  unfold mirv; split
  · refine ⟨by have := h.1; simp; omega, h.2.1, by simpa using h.2.2.1, fun x => by omega⟩
  · exact h
theorem mir_low {a b : Int} (h : Frac a b) : lowofv (-a) b = ((mirv a b).1, (mirv a b).2, true) := by
  have h1 := h.1
  have h2 := h.2.1
  have hg := h.2.2.1
  have hz := h.2.2.2
  unfold lowofv
  rw [if_pos ⟨by omega, by omega, by omega⟩, lowv_coprime (by rw [gcd_neg_left]; exact hg)]
  unfold mirv
  by_cases hb : b > 0
  · rw [if_neg (by omega), if_pos hb]
  · have : b = 0 := by omega
    have := hz this
    rw [if_pos (by omega), if_neg hb]
    subst this; subst b; rfl

-- overmath
/-- A fraction turned over, with the other sign. -/
def overv (a b : Int) : Int × Int := if a ≤ 0 then (b, -a) else (-b, a)
theorem frac_zero {b : Int} (h : Frac 0 b) : b = 1 := by
  have h2 := h.2.1
  have h3 := h.2.2.1
  rw [Int.gcd_zero_left] at h3
  omega
theorem over_frac {a b : Int} (h : Frac a b) : Frac (overv a b).1 (overv a b).2 := by
  have h1 := h.1
  have h2 := h.2.1
  have h3 := h.2.2.1
  have h4 := h.2.2.2
  unfold overv
  split
  · refine ⟨by simp only; omega, by simp only; omega, by simp only; rw [Int.gcd_comm]; simpa using h3, ?_⟩
    simp only
    intro x
    obtain rfl : a = 0 := by omega
    exact frac_zero h
  · refine ⟨by simp only; omega, by simp only; omega, by simp only; rw [Int.gcd_comm]; simpa using h3, ?_⟩
    simp only
    intro x
    omega
theorem over_low {a b : Int} (h : Frac a b) : lowv (-b) a = overv a b := by
  have h2 := h.2.1
  have h3 := h.2.2.1
  have h4 := h.2.2.2
  rw [lowv_coprime (by rw [gcd_neg_left, Int.gcd_comm]; exact h3)]
  unfold overv
  by_cases h0 : a = 0
  · subst h0
    have := frac_zero h
    subst this
    decide
  · by_cases hn : a ≤ 0
    · rw [if_pos (by omega), if_pos hn]; simp
    · rw [if_neg (by omega), if_neg hn]
theorem over_lowof {a b : Int} (h : Frac a b) : lowofv (-b) a = ((overv a b).1, (overv a b).2, true) := by
  have h1 := h.1
  have h2 := h.2.1
  have h4 := h.2.2.2
  unfold lowofv
  rw [if_pos ⟨by omega, by omega, by omega⟩, over_low h]
theorem over_over {a b : Int} (h : Frac a b) : overv (overv a b).1 (overv a b).2 = (a, b) := by
  have h2 := h.2.1
  have h4 := h.2.2.2
  unfold overv
  by_cases hn : a ≤ 0
  · rw [if_pos hn]; simp only
    by_cases hb : b ≤ 0
    · exfalso; have := h4 (by omega); omega
    · rw [if_neg hb]; simp
  · rw [if_neg hn]; simp only; rw [if_pos (by omega)]; simp

-- small
def Small (a b m : Int) : Prop := Frac a b ∧ (-m ≤ a ∧ a ≤ m) ∧ b ≤ m
instance (a b m : Int) : Decidable (Small a b m) := by unfold Small; infer_instance

-- nummath
theorem mul_bd {a b : Int} {m n : Nat} (h : a.natAbs ≤ m) (h' : b.natAbs ≤ n) : (a * b).natAbs ≤ m * n := by
  rw [Int.natAbs_mul]; exact Nat.mul_le_mul h h'
/-- NumberOf of two fractions. -/
def numv (a b c d : Int) : Int := if Small a b 1000 ∧ Small c d 1000 then (((a * d + c * b).natAbs : Nat) : Int) else -1
theorem num_value {a b c d : Int} (h : Small a b 1000) (h' : Small c d 1000) :
    mx (wrap64 ((wrap64 (a * d)) + (wrap64 (c * b)))) (wrap64 (-(wrap64 ((wrap64 (a * d)) + (wrap64 (c * b)))))) = (((a * d + c * b).natAbs : Nat) : Int) := by
  have h1 := mul_bd (a := a) (b := d) (m := 1000) (n := 1000) (by have := h.2.1; omega) (by have := h'.1.2.1; have := h'.2.2; omega)
  have h2 := mul_bd (a := c) (b := b) (m := 1000) (n := 1000) (by have := h'.2.1; omega) (by have := h.1.2.1; have := h.2.2; omega)
  rw [wrap64_in (n := a * d) (by omega) (by omega), wrap64_in (n := c * b) (by omega) (by omega), wrap64_in (n := a * d + c * b) (by omega) (by omega), mx_abs (by omega) (by omega)]

-- plusmath
def plusv (a b n : Int) : Int × Int × Bool := if Frac (a + n * b) b then (a + n * b, b, true) else (0, 0, false)
theorem plus_wrap {a b n : Int} (h : Frac a b) (hn : -1000000 ≤ n ∧ n ≤ 1000000) : wrap64 (a + wrap64 (n * b)) = a + n * b := by
  have h1 := mul_bd (a := n) (b := b) (m := 1000000) (n := 1000000) (by omega) (by have := h.2.1; omega)
  have h2 := h.1
  rw [wrap64_in (n := n * b) (by omega) (by omega), wrap64_in (by omega) (by omega)]

-- dancedmath
/-- A fraction after a move, and after moves, if each one on the way is one. -/
def dmove (f : Int × Int) (m : UInt8) : Option (Int × Int) :=
  if m = 84 then (if Frac (f.1 + f.2) f.2 then some (f.1 + f.2, f.2) else none) else if m = 116 then (if Frac (f.1 - f.2) f.2 then some (f.1 - f.2, f.2) else none) else some (overv f.1 f.2)
def dafter : List UInt8 → Int × Int → Option (Int × Int)
  | [], f => some f
  | m :: l, f => (dmove f m).bind (dafter l)
theorem dmove_frac {f g : Int × Int} {m : UInt8} (hf : Frac f.1 f.2) (h : dmove f m = some g) : Frac g.1 g.2 := by
  unfold dmove at h
  split at h
  · split at h
    · next hh => cases h; exact hh
    · cases h
  · split at h
    · split at h
      · next hh => cases h; exact hh
      · cases h
    · cases h; exact over_frac hf
theorem dafter_frac : ∀ {l : List UInt8} {f g : Int × Int}, Frac f.1 f.2 → dafter l f = some g → Frac g.1 g.2
  | [], f, g, hf, h => by cases h; exact hf
  | m :: l, f, g, hf, h => by
    simp only [dafter] at h
    cases hm : dmove f m with
    | none => rw [hm] at h; cases h
    | some x => rw [hm] at h; exact dafter_frac (dmove_frac hf hm) h
def dansw : Option (Int × Int) → Int × Int × Bool
  | some g => (g.1, g.2, true)
  | none => (0, 0, false)
/-- What DancedOf answers. -/
def dancedofv (s : ByteArray) : Int × Int × Bool := if DanceP s then dansw (dafter s.data.toList (0, 1)) else (0, 0, false)
/-- A pair of whole numbers after moves, with no limit and no sign turned. -/
def dim (u : Int × Int) (m : UInt8) : Int × Int := if m = 84 then (u.1 + u.2, u.2) else if m = 116 then (u.1 - u.2, u.2) else (u.2, -u.1)
def dint (l : List UInt8) (u : Int × Int) : Int × Int := l.foldl dim u
theorem dim_mul (s : Int) (u : Int × Int) (m : UInt8) : dim (s * u.1, s * u.2) m = (s * (dim u m).1, s * (dim u m).2) := by
  unfold dim
  split
  · simp only [Int.mul_add]
  · split
    · simp only [Int.mul_sub]
    · simp only [Int.mul_neg]
theorem dint_mul (s : Int) : ∀ (l : List UInt8) (u : Int × Int), dint l (s * u.1, s * u.2) = (s * (dint l u).1, s * (dint l u).2)
  | [], _ => rfl
  | m :: l, u => by
    show dint l (dim (s * u.1, s * u.2) m) = (s * (dint l (dim u m)).1, s * (dint l (dim u m)).2)
    rw [dim_mul, dint_mul s l (dim u m)]
theorem dafter_dint : ∀ (l : List UInt8) (f g : Int × Int), dafter l f = some g → ∀ e : Int, (e = 1 ∨ e = -1) → ∃ e' : Int, (e' = 1 ∨ e' = -1) ∧ dint l (e * f.1, e * f.2) = (e' * g.1, e' * g.2)
  | [], f, g, h, e, he => by cases h; exact ⟨e, he, rfl⟩
  | m :: l, f, g, h, e, he => by
    simp only [dafter] at h
    show ∃ e' : Int, (e' = 1 ∨ e' = -1) ∧ dint l (dim (e * f.1, e * f.2) m) = (e' * g.1, e' * g.2)
    rw [dim_mul]
    unfold dmove at h
    unfold dim
    split at h
    · next h1 =>
      rw [if_pos h1]
      split at h
      · exact dafter_dint l _ g h e he
      · cases h
    · next h1 =>
      rw [if_neg h1]
      split at h
      · next h2 =>
        rw [if_pos h2]
        split at h
        · exact dafter_dint l _ g h e he
        · cases h
      · next h2 =>
        rw [if_neg h2]
        simp only [Option.bind_some] at h
        unfold overv at h
        split at h
        · exact dafter_dint l _ g h e he
        · have := dafter_dint l _ g h (-e) (by omega)
          simp only [Int.neg_mul, Int.mul_neg, Int.neg_neg] at this ⊢
          exact this
/-- What a dance makes of the pair 0, 1, and of its fraction. -/
theorem danced_int {l : List UInt8} {g : Int × Int} (h : dafter l (0, 1) = some g) : ∃ e : Int, (e = 1 ∨ e = -1) ∧ dint l (0, 1) = (e * g.1, e * g.2) := by
  obtain ⟨e, he, h2⟩ := dafter_dint l (0, 1) g h 1 (.inl rfl)
  exact ⟨e, he, h2⟩

-- impl_isPart
theorem impl_isPart_f (a : Int) : impl_isPart.f a = some (decide (-1000000 ≤ a ∧ a ≤ 1000000)) := by
  unfold impl_isPart.f
  by_cases h : -1000000 ≤ a
  · rw [if_pos h]; exact dec_iff ⟨fun x => ⟨h, x⟩, fun x => x.2⟩
  · rw [if_neg h]; exact (dec_false (fun x => h x.1)).symm

-- impl_gcd
theorem impl_gcd_l0 (n : Nat) : ∀ (a b : Int), b.natAbs ≤ n → a.natAbs ≤ 9223372036854775807 → b.natAbs ≤ 9223372036854775807 → ∀ k, n < k → impl_gcd.l0 k a b = some (Int.gcd a b : Int) := by
  induction n with
  | zero =>
    intro a b hb ha _ k hk
    obtain ⟨k, rfl⟩ : ∃ m, k = m + 1 := ⟨k - 1, by omega⟩
    obtain rfl : b = 0 := by omega
    simp only [impl_gcd.l0]
    rw [if_pos trivial, mx_abs (by omega) (by omega), Int.gcd_zero_right]
  | succ n ih =>
    intro a b hb ha hb' k hk
    obtain ⟨k, rfl⟩ : ∃ m, k = m + 1 := ⟨k - 1, by omega⟩
    simp only [impl_gcd.l0]
    by_cases h : b = 0
    · subst h; rw [if_pos rfl, mx_abs (by omega) (by omega), Int.gcd_zero_right]
    · have := natAbs_tmod_lt a h
      rw [if_neg h, ih b (Int.tmod a b) (by omega) hb' (by omega) k (by omega), gcd_tmod]
theorem impl_gcd_f {a b : Int} {k : Nat} (ha : a.natAbs ≤ 9223372036854775807) (hb : b.natAbs ≤ 9223372036854775807) (hk : b.natAbs < k) : impl_gcd.f k a b = some (Int.gcd a b : Int) :=
  impl_gcd_l0 b.natAbs a b (Nat.le_refl _) ha hb k hk

-- impl_isFraction
theorem impl_isFraction_f (a b : Int) {k : Nat} (hk : 1000001 ≤ k) : impl_isFraction.f k a b = some (decide (Frac a b)) := by
  unfold impl_isFraction.f
  rw [impl_isPart_f]; simp only [Option.bind_some, decide_eq_true_eq]
  by_cases h1 : -1000000 ≤ a ∧ a ≤ 1000000
  · rw [if_pos h1]
    by_cases h2 : b < 0
    · rw [if_pos h2]; exact (dec_false (fun x => by have := x.2.1; omega)).symm
    · rw [if_neg h2]
      by_cases h2' : b > 1000000
      · rw [if_pos h2']; exact (dec_false (fun x => by have := x.2.1; omega)).symm
      · rw [if_neg h2', impl_gcd_f (by omega) (by omega) (by omega)]; simp only [Option.bind_some]
        have hb : (((Int.gcd a b : Nat) : Int) == 1) = decide (Int.gcd a b = 1) := by
          rw [Bool.eq_iff_iff]; simp; omega
        rw [hb]
        by_cases h4 : b = 0
        · rw [if_pos h4]
          by_cases h5 : a = 1
          · rw [if_pos h5]; exact dec_iff ⟨fun h => ⟨h1, by omega, h, fun _ => h5⟩, fun h => h.2.2.1⟩
          · rw [if_neg h5]; exact (dec_false (fun x => h5 (x.2.2.2 h4))).symm
        · rw [if_neg h4]; exact dec_iff ⟨fun h => ⟨h1, by omega, h, fun h' => absurd h' h4⟩, fun h => h.2.2.1⟩
  · rw [if_neg h1]; exact (dec_false (fun x => h1 x.1)).symm

-- impl_plus
theorem impl_plus_f {a b n : Int} {k : Nat} (hk : 1000001 ≤ k) (h : Frac a b) (hn : -1000000 ≤ n ∧ n ≤ 1000000) : impl_plus.f k a b n = some (plusv a b n) := by
  unfold impl_plus.f
  rw [plus_wrap h hn, impl_isFraction_f _ _ hk]; simp only [Option.bind_some, decide_eq_true_eq]
  unfold plusv; split <;> rfl

-- impl_lowest
theorem impl_lowest_f {a b : Int} {k : Nat} (h : ¬ (a = 0 ∧ b = 0)) (ha : a.natAbs ≤ 1000000) (hb : b.natAbs ≤ 1000000) (hk : 1000001 ≤ k) : impl_lowest.f k a b = some (lowv a b) := by
  unfold impl_lowest.f
  rw [impl_gcd_f (by omega) (by omega) (by omega)]; simp only [Option.bind_some]
  have hg := gcd_ne h
  have hl := gcd_le_abs h
  rw [wrap64_in (n := -((Int.gcd a b : Nat) : Int)) (by omega) (by omega)]
  unfold lowv
  by_cases h1 : b < 0
  · rw [if_pos h1, if_neg (by omega), if_pos (.inl h1), tdiv_wrap (by omega), tdiv_wrap (by omega)]
  · rw [if_neg h1]
    by_cases h2 : b = 0
    · rw [if_pos h2]
      by_cases h3 : a < 0
      · rw [if_pos h3, if_neg (by omega), if_pos (.inr ⟨h2, h3⟩), tdiv_wrap (by omega), tdiv_wrap (by omega)]
      · rw [if_neg h3, if_neg (by omega), if_neg (by omega), tdiv_wrap (by omega), tdiv_wrap (by omega)]
    · rw [if_neg h2, if_neg (by omega), if_neg (by omega), tdiv_wrap (by omega), tdiv_wrap (by omega)]

-- impl_danced
theorem plus_one {a b : Int} : plusv a b 1 = dansw (if Frac (a + b) b then some (a + b, b) else none) := by
  unfold plusv; rw [Int.one_mul]; split <;> rfl
theorem plus_less {a b : Int} : plusv a b (-1) = dansw (if Frac (a - b) b then some (a - b, b) else none) := by
  unfold plusv; rw [show a + -1 * b = a - b by omega]; split <;> rfl
theorem impl_danced_l0 (s : ByteArray) (hs : s.size ≤ 40) (n : Nat) : ∀ (i : Nat) (f : Int × Int), i + n = s.size → Frac f.1 f.2 → ∀ k, n + 1000002 ≤ k →
    impl_danced.l0 k s (s.size : Int) (i : Int) f.1 f.2 = some (dansw (dafter (s.data.toList.drop i) f)) := by
  induction n with
  | zero =>
    intro i f hi hf k hk
    obtain ⟨k, rfl⟩ : ∃ m, k = m + 1 := ⟨k - 1, by omega⟩
    simp only [impl_danced.l0]
    rw [if_neg (by omega), drop_end (by omega)]; rfl
  | succ n ih =>
    intro i f hi hf k hk
    obtain ⟨k, rfl⟩ : ∃ m, k = m + 1 := ⟨k - 1, by omega⟩
    obtain ⟨m, hd, hb⟩ := bt_drop (s := s) (i := i) (by omega)
    have e1 : (((m.toNat : Nat) : Int) = 84) ↔ m = 84 := u8_eq (n := 84) (by omega)
    have e2 : (((m.toNat : Nat) : Int) = 116) ↔ m = 116 := u8_eq (n := 116) (by omega)
    obtain ⟨a, b⟩ := f
    have IH := fun g hg => ih (i + 1) g (by omega) hg k (by omega)
    simp only at hf
    simp only [impl_danced.l0]
    rw [if_pos (by omega), if_pos (by omega), if_pos (by omega), hb, hd, wrap64_in (n := (i : Int) + 1) (by omega) (by omega), show ((i : Int) + 1) = ((i + 1 : Nat) : Int) by omega]
    simp only [dafter]
    unfold dmove
    simp only
    by_cases h1 : m = 84
    · rw [if_pos (e1.2 h1), if_pos h1, impl_plus_f (by omega) hf (by omega), plus_one]; simp only [Option.bind_some]
      by_cases hp : Frac (a + b) b
      · rw [if_pos hp]; simp only [dansw, Option.bind_some]
        exact IH (a + b, b) hp
      · rw [if_neg hp]; rfl
    · rw [if_neg (fun x => h1 (e1.1 x)), if_neg h1]
      by_cases h2 : m = 116
      · rw [if_pos (e2.2 h2), if_pos h2, impl_plus_f (by omega) hf (by omega), plus_less]; simp only [Option.bind_some]
        by_cases hp : Frac (a - b) b
        · rw [if_pos hp]; simp only [dansw, Option.bind_some]
          exact IH (a - b, b) hp
        · rw [if_neg hp]; rfl
      · have g1 := hf.1
        have g2 := hf.2.1
        have g4 := hf.2.2.2
        rw [if_neg (fun x => h2 (e2.1 x)), if_neg h2, wrap64_in (n := -b) (by omega) (by omega), impl_lowest_f (by omega) (by omega) (by omega) (by omega), over_low hf]; simp only [Option.bind_some]
        exact IH (overv a b) (over_frac hf)
theorem impl_danced_f (s : ByteArray) (hs : s.size ≤ 40) {a b : Int} (hf : Frac a b) {k : Nat} (hk : 1000100 ≤ k) : impl_danced.f k a b s = some (dansw (dafter s.data.toList (a, b))) := by
  unfold impl_danced.f
  have := impl_danced_l0 s hs s.size 0 (a, b) (by omega) hf k (by omega)
  rw [List.drop_zero] at this
  exact this

-- impl_DancedOf
theorem impl_DancedOf_f (s : ByteArray) {k : Nat} (hs : s.size ≤ 100000000) (hk : 1000100 ≤ k) : impl_DancedOf.f k s = some (dancedofv s) := by
  unfold impl_DancedOf.f dancedofv
  rw [impl_isDance_f s hs]; simp only [Option.bind_some, decide_eq_true_eq]
  by_cases h : DanceP s
  · rw [if_pos h, if_pos h, impl_danced_f s h.1 (by decide) hk]; rfl
  · rw [if_neg h, if_neg h]

-- joinmath
theorem numv_range (a b c d : Int) : -1 ≤ numv a b c d ∧ numv a b c d ≤ 2000000 := by
  unfold numv
  split
  · rename_i h
    have h1 := mul_bd (a := a) (b := d) (m := 1000) (n := 1000) (by have := h.1.2.1; omega) (by have := h.2.1.2.1; have := h.2.2.2; omega)
    have h2 := mul_bd (a := c) (b := b) (m := 1000) (n := 1000) (by have := h.2.2.1; omega) (by have := h.1.1.2.1; have := h.1.2.2; omega)
    omega
  · omega
/-- What JoinedFor answers. -/
def joinv (a b c d e : Int) : Int := if numv a b c d < 0 then -1 else if e < 1 then -1 else if e > 5 then -1 else e * (Int.gcd e (numv a b c d) : Int)
theorem join_wrap {e n : Int} (h1 : 1 ≤ e) (h2 : e ≤ 12) : wrap64 (e * (Int.gcd e n : Int)) = e * (Int.gcd e n : Int) := by
  have hg : Int.gcd e n ≤ 12 := by
    have := Int.gcd_le_natAbs_left (b := n) (show e ≠ 0 by omega); omega
  have := mul_bd (a := e) (b := ((Int.gcd e n : Nat) : Int)) (m := 12) (n := 12) (by omega) (by omega)
  exact wrap64_in (by omega) (by omega)

-- impl_isSmall
theorem impl_isSmall_f (a b m : Int) {k : Nat} (hk : 1000001 ≤ k) (hm : 0 ≤ m) (hm' : m ≤ 1000000) : impl_isSmall.f k a b m = some (decide (Small a b m)) := by
  unfold impl_isSmall.f
  rw [impl_isFraction_f a b hk]; simp only [Option.bind_some, decide_eq_true_eq]
  by_cases h : Frac a b
  · rw [if_pos h, wrap64_in (by omega) (by omega)]
    by_cases h1 : a ≥ -m
    · rw [if_pos h1]
      by_cases h2 : a ≤ m
      · rw [if_pos h2]; exact dec_iff ⟨fun x => ⟨h, ⟨h1, h2⟩, x⟩, fun x => x.2.2⟩
      · rw [if_neg h2]; exact (dec_false (fun x => h2 x.2.1.2)).symm
    · rw [if_neg h1]; exact (dec_false (fun x => h1 x.2.1.1)).symm
  · rw [if_neg h]; exact (dec_false (fun x => h x.1)).symm

-- impl_numberOf
theorem impl_numberOf_f (a b c d : Int) {k : Nat} (hk : 1000001 ≤ k) : impl_numberOf.f k a b c d = some (numv a b c d) := by
  unfold impl_numberOf.f
  rw [impl_isSmall_f a b 1000 hk (by omega) (by omega), impl_isSmall_f c d 1000 hk (by omega) (by omega)]; simp only [Option.bind_some, decide_eq_true_eq]
  by_cases h : Small a b 1000
  · rw [if_pos h]
    by_cases h' : Small c d 1000
    · rw [if_pos h', num_value h h']; unfold numv; rw [if_pos ⟨h, h'⟩]
    · rw [if_neg h']; unfold numv; rw [if_neg (fun x => h' x.2)]
  · rw [if_neg h]; unfold numv; rw [if_neg (fun x => h x.1)]

-- impl_JoinedFor
theorem impl_JoinedFor_f (a b c d e : Int) {k : Nat} (hk : 3000001 ≤ k) : impl_JoinedFor.f k a b c d e = some (joinv a b c d e) := by
  unfold impl_JoinedFor.f joinv
  have hr := numv_range a b c d
  rw [impl_numberOf_f _ _ _ _ (by omega)]; simp only [Option.bind_some]
  split
  · rfl
  · split
    · rfl
    · split
      · rfl
      · rw [impl_gcd_f (by omega) (by omega) (by omega)]; simp only [Option.bind_some]; rw [join_wrap (by omega) (by omega)]

-- colint
/-- Colours are balanced, with no limit. -/
def BalC (c : Int × Int × Int × Int) : Prop := c.1 + c.2.2.2 = c.2.1 + c.2.2.1
def uvC (c : Int × Int × Int × Int) : Int × Int := (c.2.1 - c.1, c.2.1 - c.2.2.2)
theorem cmove_uv (c : Int × Int × Int × Int) (m : UInt8) (h : BalC c) : BalC (cmove c m) ∧ uvC (cmove c m) = dim (uvC c) m := by
  obtain ⟨a, b, d, e⟩ := c
  unfold BalC at *
  unfold uvC cmove dim
  simp only at *
  split
  · simp only [Prod.mk.injEq]; omega
  · split
    · simp only [Prod.mk.injEq]; omega
    · simp only [Prod.mk.injEq]; omega
theorem cafter_uv : ∀ (l : List UInt8) (c : Int × Int × Int × Int), BalC c → BalC (cafter l c) ∧ uvC (cafter l c) = dint l (uvC c)
  | [], _, h => ⟨h, rfl⟩
  | m :: l, c, h => by
    have h1 := cmove_uv c m h
    have h2 := cafter_uv l (cmove c m) h1.1
    rw [h1.2] at h2
    exact h2
/-- Two colours: what they tell after a dance. -/
theorem cafter_two (l : List UInt8) (a b : Int) : BalC (cafter l (a, a, b, b)) ∧ uvC (cafter l (a, a, b, b)) = ((a - b) * (dint l (0, 1)).1, (a - b) * (dint l (0, 1)).2) := by
  have h := cafter_uv l (a, a, b, b) rfl
  refine ⟨h.1, ?_⟩
  rw [h.2, ← dint_mul (a - b) l (0, 1)]
  show dint l (a - a, a - b) = _
  rw [show a - a = (a - b) * 0 by omega]
  show dint l ((a - b) * 0, a - b) = dint l ((a - b) * 0, (a - b) * 1)
  rw [Int.mul_one]
theorem cafter_same : ∀ (l : List UInt8) (a : Int), cafter l (a, a, a, a) = (a, a, a, a)
  | [], _ => rfl
  | m :: l, a => by
    have : cmove (a, a, a, a) m = (a, a, a, a) := by
      unfold cmove
      split
      · show (a, 2 * a - a, a, a) = _; rw [show 2 * a - a = a by omega]
      · split
        · show (a, a, a, 2 * a - a) = _; rw [show 2 * a - a = a by omega]
        · rfl
    show cafter l (cmove (a, a, a, a) m) = _
    rw [this]; exact cafter_same l a

-- tiedcount
theorem tmod_zero_iff {x : Int} {m : Nat} (hm : 0 < m) : Int.tmod x (m : Int) = 0 ↔ (m : Int) ∣ x := by
  constructor
  · exact fun h => Int.dvd_of_tmod_eq_zero h
  · exact fun h => Int.tmod_eq_zero_of_dvd h
theorem cafter_bd : ∀ (l : List UInt8) (c : Int × Int × Int × Int) (B : Nat), ColBd B c → ColBd (3 ^ l.length * B) (cafter l c)
  | [], _, B, h => by simpa [cafter] using h
  | m :: l, c, B, h => by
    have := cafter_bd l (cmove c m) (3 * B) (cmove_bd h m)
    rw [List.length_cons, Nat.pow_succ, Nat.mul_assoc]
    exact this
theorem cend_bd (s : ByteArray) (hs : s.size ≤ 24) {i j : Nat} (hi : i ≤ 12) (hj : j ≤ 12) : ColBd 10000000000000 (cend s i j) := by
  have h := cafter_bd s.data.toList ((i : Int), (i : Int), (j : Int), (j : Int)) 12 ⟨by simp only; omega, by simp only; omega, by simp only; omega, by simp only; omega⟩
  have hl : s.data.toList.length = s.size := rfl
  have hp : 3 ^ s.data.toList.length ≤ 3 ^ 24 := Nat.pow_le_pow_right (by omega) (by omega)
  have hp2 : 3 ^ s.data.toList.length * 12 ≤ 10000000000000 := by omega
  unfold ColBd at *
  unfold cend
  omega
/-- The ends above are alike iff those below are; and when. -/
theorem tiedQ_iff (s : ByteArray) (hs : s.size ≤ 24) {m i j : Nat} (hm : 0 < m) (hi : i ≤ 12) (hj : j ≤ 12) : tiedQ (cend s i j) (m : Int) ↔ (m : Int) ∣ ((i : Int) - (j : Int)) * (dint s.data.toList (0, 1)).1 := by
  have b := cend_bd s hs hi hj
  have h := cafter_two s.data.toList (i : Int) (j : Int)
  have hu := congrArg Prod.fst h.2
  have hb := h.1
  unfold BalC at hb
  unfold uvC at hu
  simp only at hu
  unfold tiedQ
  unfold cend ColBd at *
  rw [wrap64_in (by omega) (by omega), wrap64_in (by omega) (by omega), tmod_zero_iff hm, tmod_zero_iff hm, ← hu]
  generalize cafter s.data.toList ((i : Int), (i : Int), (j : Int), (j : Int)) = c at *
  have e : c.2.2.1 - c.2.2.2 = -(c.2.1 - c.1) := by omega
  have e2 : c.1 - c.2.1 = -(c.2.1 - c.1) := by omega
  rw [e, e2, Int.dvd_neg]
  exact ⟨fun x => x.1, fun x => ⟨x, x⟩⟩
theorem sumR_term {f : Nat → Int} (h : ∀ i, 0 ≤ f i) {n a : Nat} (ha : a < n) : f a ≤ sumR f n := by
  induction n with
  | zero => omega
  | succ n ih =>
    simp only [sumR]
    have pos : ∀ k, 0 ≤ sumR f k := by
      intro k
      induction k with
      | zero => exact Int.le_refl _
      | succ k ik => simp only [sumR]; have := h k; omega
    by_cases hn : a = n
    · subst hn; have := pos a; omega
    · have := ih (by omega); have := h n; omega
theorem sumR_ge {f : Nat → Int} (h : ∀ i, 1 ≤ f i) (n : Nat) : (n : Int) ≤ sumR f n := by
  induction n with
  | zero => simp [sumR]
  | succ n ih => have := h n; simp only [sumR]; omega
theorem sumR_ge' {f : Nat → Int} (n : Nat) (h : ∀ i, i < n → 1 ≤ f i) : (n : Int) ≤ sumR f n := by
  induction n with
  | zero => simp [sumR]
  | succ n ih => have := h n (by omega); have := ih (fun i hi => h i (by omega)); simp only [sumR]; omega
theorem tiedN_ge (s : ByteArray) (hs : s.size ≤ 24) {m : Nat} (hm : 0 < m) (hm' : m ≤ 12) : (m : Int) ≤ tiedN s m := by
  unfold tiedN
  refine sumR_ge' m fun a ha => ?_
  refine Int.le_trans ?_ (sumR_term (f := tiedC s m a) (fun i => (tiedC_bd s m a i).1) ha)
  unfold tiedC
  rw [if_pos ((tiedQ_iff s hs hm (by omega) (by omega)).2 (by rw [Int.sub_self, Int.zero_mul]; exact Int.dvd_zero _))]
  exact Int.le_refl _
def cntT (m r : Nat) : Int := sumR (fun i => sumR (fun j => if ((i + m - j) * r) % m = 0 then 1 else 0) m) m
theorem cntT_ok : (List.range 12).all (fun m => (List.range (m + 1)).all fun r => decide (cntT (m + 1) r = ((m + 1 : Nat) : Int) * ((Nat.gcd (m + 1) r : Nat) : Int))) = true := by decide +kernel
theorem dvd_red {m i j : Nat} (hm : 0 < m) (hj : j < m) (x : Int) : (m : Int) ∣ ((i : Int) - (j : Int)) * x ↔ ((i + m - j) * (x % (m : Int)).toNat) % m = 0 := by
  obtain ⟨r, hr⟩ : ∃ r : Nat, x % (m : Int) = (r : Int) := ⟨(x % (m : Int)).toNat, by have := Int.emod_nonneg x (show (m : Int) ≠ 0 by omega); omega⟩
  rw [hr, show ((r : Int)).toNat = r by omega]
  obtain ⟨q, hq⟩ : ∃ q : Int, x = (m : Int) * q + (r : Int) := ⟨x / (m : Int), by rw [← hr]; exact (Int.mul_ediv_add_emod x m).symm⟩
  rw [← Nat.dvd_iff_mod_eq_zero]
  rw [← Int.natCast_dvd_natCast]
  have e : (((i + m - j) * r : Nat) : Int) = ((i : Int) - (j : Int)) * x + (m : Int) * ((r : Int) - ((i : Int) - (j : Int)) * q) := by
    rw [hq, Int.natCast_mul, show ((i + m - j : Nat) : Int) = (i : Int) - (j : Int) + (m : Int) by omega]
    generalize (i : Int) - (j : Int) = d
    rw [Int.add_mul, Int.mul_add, Int.mul_sub, ← Int.mul_assoc, ← Int.mul_assoc, Int.mul_comm d (m : Int)]
    omega
  rw [e]
  constructor
  · intro h; exact Int.dvd_add h (Int.dvd_mul_right _ _)
  · intro h
    have h2 : (m : Int) ∣ (m : Int) * ((r : Int) - ((i : Int) - (j : Int)) * q) := Int.dvd_mul_right _ _
    have := Int.dvd_sub h h2
    rwa [Int.add_sub_cancel] at this
/-- How many pairs of colours there are: the number times the greatest common divisor. -/
theorem tiedN_gcd (s : ByteArray) (hs : s.size ≤ 24) {m : Nat} (hm : 0 < m) (hm' : m ≤ 12) : tiedN s m = (m : Int) * ((Int.gcd (m : Int) (dint s.data.toList (0, 1)).1 : Nat) : Int) := by
  generalize hx : (dint s.data.toList (0, 1)).1 = x
  have e : tiedN s m = cntT m (x % (m : Int)).toNat := by
    unfold tiedN cntT
    refine sumR_congr fun i hi => sumR_congr fun j hj => ?_
    unfold tiedC
    have a := tiedQ_iff s hs (m := m) (i := i) (j := j) hm (by omega) (by omega)
    have b := dvd_red (i := i) hm hj x
    rw [hx] at a
    by_cases h : tiedQ (cend s i j) (m : Int)
    · rw [if_pos h, if_pos (b.1 (a.1 h))]
    · rw [if_neg h, if_neg (fun y => h (a.2 (b.2 y)))]
  have hr0 := Int.emod_nonneg x (show (m : Int) ≠ 0 by omega)
  have hr1 := Int.emod_lt_of_pos x (show 0 < (m : Int) by omega)
  have hc := List.all_eq_true.1 (List.all_eq_true.1 cntT_ok (m - 1) (List.mem_range.2 (by omega))) (x % (m : Int)).toNat (List.mem_range.2 (by omega))
  have hc := of_decide_eq_true hc
  rw [show m - 1 + 1 = m by omega] at hc
  rw [e, hc]
  congr 2
  have : Int.gcd (m : Int) x = Int.gcd (m : Int) (x % (m : Int)) := by
    have z := Int.gcd_mul_left_add_right (m : Int) (x % (m : Int)) (x / (m : Int))
    rw [Int.mul_ediv_add_emod] at z
    exact z
  rw [this]
  unfold Int.gcd
  congr 1
  omega

-- joincount
theorem cmove_lin (s j : Int) (c : Int × Int × Int × Int) (m : UInt8) : cmove (j + s * c.1, j + s * c.2.1, j + s * c.2.2.1, j + s * c.2.2.2) m = (j + s * (cmove c m).1, j + s * (cmove c m).2.1, j + s * (cmove c m).2.2.1, j + s * (cmove c m).2.2.2) := by
  obtain ⟨a, b, d, e⟩ := c
  unfold cmove
  have k : ∀ x y : Int, 2 * (j + s * x) - (j + s * y) = j + s * (2 * x - y) := by
    intro x y; rw [Int.mul_sub, Int.mul_left_comm]; omega
  split
  · simp only [k]
  · split
    · simp only [k]
    · rfl
theorem cafter_lin (s j : Int) : ∀ (l : List UInt8) (c : Int × Int × Int × Int), cafter l (j + s * c.1, j + s * c.2.1, j + s * c.2.2.1, j + s * c.2.2.2) = (j + s * (cafter l c).1, j + s * (cafter l c).2.1, j + s * (cafter l c).2.2.1, j + s * (cafter l c).2.2.2)
  | [], _ => rfl
  | m :: l, c => by
    show cafter l (cmove (j + s * c.1, j + s * c.2.1, j + s * c.2.2.1, j + s * c.2.2.2) m) = _
    rw [cmove_lin]; exact cafter_lin s j l (cmove c m)
/-- The colour above left, by the two colours. -/
theorem cend_left (s : ByteArray) (i j : Nat) : (cend s i j).1 = (j : Int) + ((i : Int) - (j : Int)) * (cafter s.data.toList (1, 1, 0, 0)).1 := by
  have h := cafter_lin ((i : Int) - (j : Int)) (j : Int) s.data.toList (1, 1, 0, 0)
  unfold cend
  have e : ((i : Int), (i : Int), (j : Int), (j : Int)) = ((j : Int) + ((i : Int) - (j : Int)) * (1, 1, 0, 0).1, (j : Int) + ((i : Int) - (j : Int)) * ((1, 1, 0, 0) : Int × Int × Int × Int).2.1, (j : Int) + ((i : Int) - (j : Int)) * ((1, 1, 0, 0) : Int × Int × Int × Int).2.2.1, (j : Int) + ((i : Int) - (j : Int)) * ((1, 1, 0, 0) : Int × Int × Int × Int).2.2.2) := by
    simp only [Prod.mk.injEq]; omega
  rw [e, h]
/-- Of two pairs: when all four ends are alike. -/
def KQ (x y x' y' : Int) (m : Nat) (σ τ : Int) : Prop := (m : Int) ∣ σ * x + τ * x' ∧ (m : Int) ∣ σ * y - τ * y'
instance (x y x' y' : Int) (m : Nat) (σ τ : Int) : Decidable (KQ x y x' y' m σ τ) := by unfold KQ; infer_instance
theorem dvd_of {m x y : Int} (h : m ∣ x) (e : x = y) : m ∣ y := e ▸ h
theorem joinQ_iff (s t : ByteArray) (hs : s.size ≤ 24) (ht : t.size ≤ 24) {m i j p q : Nat} (hm : 0 < m) (hi : i ≤ 12) (hj : j ≤ 12) (hp : p ≤ 12) (hq : q ≤ 12) :
    joinQ (cend s i j) (cend t p q) (m : Int) ↔ (m : Int) ∣ ((j : Int) + (((i : Int) - (j : Int)) * (cafter s.data.toList (1, 1, 0, 0)).1 - ((p : Int) - (q : Int)) * (cafter t.data.toList (1, 1, 0, 0)).1 + ((i : Int) - (j : Int)) * (dint s.data.toList (0, 1)).1)) - (q : Int)
      ∧ KQ (dint s.data.toList (0, 1)).1 (dint s.data.toList (0, 1)).2 (dint t.data.toList (0, 1)).1 (dint t.data.toList (0, 1)).2 m ((i : Int) - (j : Int)) ((p : Int) - (q : Int)) := by
  have b1 := cend_bd s hs hi hj
  have b2 := cend_bd t ht hp hq
  have h1 := cafter_two s.data.toList (i : Int) (j : Int)
  have h2 := cafter_two t.data.toList (p : Int) (q : Int)
  have l1 := cend_left s i j
  have l2 := cend_left t p q
  unfold joinQ KQ
  unfold cend ColBd at *
  rw [wrap64_in (by omega) (by omega), wrap64_in (by omega) (by omega), wrap64_in (by omega) (by omega), wrap64_in (by omega) (by omega), tmod_zero_iff hm, tmod_zero_iff hm, tmod_zero_iff hm, tmod_zero_iff hm]
  have u1 := congrArg Prod.fst h1.2
  have u2 := congrArg Prod.snd h1.2
  have v1 := congrArg Prod.fst h2.2
  have v2 := congrArg Prod.snd h2.2
  have c1 := h1.1
  have c2 := h2.1
  unfold BalC at c1 c2
  unfold uvC at u1 u2 v1 v2
  simp only at u1 u2 v1 v2
  rw [← u1, ← u2, ← v1, ← v2]
  clear b1 b2 h1 h2 u1 u2 v1 v2
  generalize ((i : Int) - (j : Int)) * (cafter s.data.toList (1, 1, 0, 0)).1 = e1 at *
  generalize ((p : Int) - (q : Int)) * (cafter t.data.toList (1, 1, 0, 0)).1 = e2 at *
  generalize cafter s.data.toList ((i : Int), (i : Int), (j : Int), (j : Int)) = c at *
  generalize cafter t.data.toList ((p : Int), (p : Int), (q : Int), (q : Int)) = d at *
  constructor
  · rintro ⟨x1, x2, x3, x4⟩
    exact ⟨dvd_of x1 (by omega), dvd_of (Int.dvd_sub x1 x3) (by omega), dvd_of (Int.dvd_sub x1 x2) (by omega)⟩
  · rintro ⟨y1, y2, y3⟩
    have x1 : (m : Int) ∣ c.2.1 - d.1 := dvd_of y1 (by omega)
    exact ⟨x1, dvd_of (Int.dvd_sub x1 y3) (by omega), dvd_of (Int.dvd_sub x1 y2) (by omega), dvd_of (Int.dvd_sub (Int.dvd_sub x1 y2) y3) (by omega)⟩
theorem sumR_tele (H : Int → Int) (n : Nat) : sumR (fun i => H ((i : Int) - 1)) n + H ((n : Int) - 1) = H (-1) + sumR (fun i => H (i : Int)) n := by
  induction n with
  | zero => simp [sumR]
  | succ n ih =>
    simp only [sumR]
    rw [show ((n + 1 : Nat) : Int) - 1 = (n : Int) by omega]
    omega
theorem sumR_shift1 {H : Int → Int} {n : Nat} (hp : ∀ z, H (z + (n : Int)) = H z) : sumR (fun i => H ((i : Int) - 1)) n = sumR (fun i => H (i : Int)) n := by
  have h := sumR_tele H n
  have := hp (-1)
  rw [show -1 + (n : Int) = (n : Int) - 1 by omega] at this
  omega
theorem sumR_shift {n : Nat} (j : Nat) : ∀ {H : Int → Int}, (∀ z, H (z + (n : Int)) = H z) → sumR (fun i => H ((i : Int) - (j : Int))) n = sumR (fun i => H (i : Int)) n := by
  induction j with
  | zero => intro H _; refine sumR_congr fun i _ => ?_; simp
  | succ j ih =>
    intro H hp
    have h1 := ih (H := fun z => H (z - 1)) (fun z => by show H (z + n - 1) = H (z - 1); rw [show z + (n : Int) - 1 = z - 1 + n by omega, hp])
    rw [← sumR_shift1 hp, ← h1]
    refine sumR_congr fun i _ => ?_
    show H _ = H _
    congr 1; omega
theorem sumR_pick (r n : Nat) : sumR (fun q => if q = r then 1 else 0) n = if r < n then 1 else 0 := by
  induction n with
  | zero => simp [sumR]
  | succ n ih =>
    simp only [sumR]; rw [ih]
    by_cases h1 : r < n
    · rw [if_pos h1, if_neg (by omega), if_pos (by omega)]; rfl
    · rw [if_neg h1]
      by_cases h2 : n = r
      · rw [if_pos h2, if_pos (by omega)]; rfl
      · rw [if_neg h2, if_neg (by omega)]; rfl
theorem sumR_one {m : Nat} (hm : 0 < m) (z : Int) : sumR (fun q => if (m : Int) ∣ z - (q : Int) then 1 else 0) m = 1 := by
  have h0 := Int.emod_nonneg z (show (m : Int) ≠ 0 by omega)
  have h1 := Int.emod_lt_of_pos z (show 0 < (m : Int) by omega)
  have e := sumR_pick (z % (m : Int)).toNat m
  rw [if_pos (by omega)] at e
  refine Eq.trans ?_ e
  refine sumR_congr fun q hq => ?_
  have : (m : Int) ∣ z - (q : Int) ↔ q = (z % (m : Int)).toNat := by
    rw [Int.dvd_iff_emod_eq_zero, ← Int.emod_eq_emod_iff_emod_sub_eq_zero, Int.emod_eq_of_lt (a := (q : Int)) (by omega) (by omega)]
    omega
  by_cases h : q = (z % (m : Int)).toNat
  · rw [if_pos h, if_pos (this.2 h)]
  · rw [if_neg h, if_neg (fun x => h (this.1 x))]
theorem sumR_const (c : Int) (n : Nat) : sumR (fun _ => c) n = (n : Int) * c := by
  induction n with
  | zero => simp [sumR]
  | succ n ih => simp only [sumR]; rw [ih, show ((n + 1 : Nat) : Int) * c = (n : Int) * c + c by rw [Int.natCast_add, Int.add_mul]; omega]
theorem sumR_mul (c : Int) (f : Nat → Int) (n : Nat) : sumR (fun i => c * f i) n = c * sumR f n := by
  induction n with
  | zero => simp [sumR]
  | succ n ih => simp only [sumR]; rw [ih, Int.mul_add]
theorem dvd_shift {m : Int} {a b : Int} (q : Int) (e : a = b + m * q) : m ∣ a ↔ m ∣ b := by
  rw [e]
  constructor
  · intro h
    have := Int.dvd_sub h (Int.dvd_mul_right m q)
    rwa [Int.add_sub_cancel] at this
  · intro h; exact Int.dvd_add h (Int.dvd_mul_right m q)
theorem KQ_left (x y x' y' : Int) (m : Nat) (σ τ : Int) : KQ x y x' y' m (σ + m) τ ↔ KQ x y x' y' m σ τ := by
  unfold KQ
  rw [dvd_shift (a := (σ + m) * x + τ * x') (b := σ * x + τ * x') x (by rw [Int.add_mul]; omega), dvd_shift (a := (σ + m) * y - τ * y') (b := σ * y - τ * y') y (by rw [Int.add_mul]; omega)]
theorem KQ_right (x y x' y' : Int) (m : Nat) (σ τ : Int) : KQ x y x' y' m σ (τ + m) ↔ KQ x y x' y' m σ τ := by
  unfold KQ
  rw [dvd_shift (a := σ * x + (τ + m) * x') (b := σ * x + τ * x') x' (by rw [Int.add_mul]; omega), dvd_shift (a := σ * y - (τ + m) * y') (b := σ * y - τ * y') (-y') (by rw [Int.add_mul, Int.mul_neg]; omega)]
/-- One choice of the two colours, told by the differences. -/
def gJ (x y x' y' α β : Int) (m : Nat) (j σ q τ : Int) : Int := if (m : Int) ∣ (j + (σ * α - τ * β + σ * x)) - q ∧ KQ x y x' y' m σ τ then 1 else 0
theorem gJ_left (x y x' y' α β : Int) (m : Nat) (j σ q τ : Int) : gJ x y x' y' α β m j (σ + m) q τ = gJ x y x' y' α β m j σ q τ := by
  unfold gJ
  have e : (m : Int) ∣ (j + ((σ + m) * α - τ * β + (σ + m) * x)) - q ↔ (m : Int) ∣ (j + (σ * α - τ * β + σ * x)) - q :=
    dvd_shift (α + x) (by rw [Int.add_mul, Int.add_mul, Int.mul_add]; omega)
  simp only [e, KQ_left]
theorem gJ_right (x y x' y' α β : Int) (m : Nat) (j σ q τ : Int) : gJ x y x' y' α β m j σ q (τ + m) = gJ x y x' y' α β m j σ q τ := by
  unfold gJ
  have e : (m : Int) ∣ (j + (σ * α - (τ + m) * β + σ * x)) - q ↔ (m : Int) ∣ (j + (σ * α - τ * β + σ * x)) - q :=
    dvd_shift (-β) (by rw [Int.add_mul, Int.mul_neg]; omega)
  simp only [e, KQ_right]
theorem gJ_sum (x y x' y' α β : Int) {m : Nat} (hm : 0 < m) (j σ τ : Int) : sumR (fun q => gJ x y x' y' α β m j σ (q : Int) τ) m = if KQ x y x' y' m σ τ then 1 else 0 := by
  by_cases h : KQ x y x' y' m σ τ
  · rw [if_pos h]
    refine Eq.trans (sumR_congr fun q _ => ?_) (sumR_one hm (j + (σ * α - τ * β + σ * x)))
    unfold gJ
    by_cases h2 : (m : Int) ∣ (j + (σ * α - τ * β + σ * x)) - q
    · rw [if_pos ⟨h2, h⟩, if_pos h2]
    · rw [if_neg (fun z => h2 z.1), if_neg h2]
  · rw [if_neg h]
    refine Eq.trans (sumR_congr fun q _ => ?_) (sumR_zero m)
    unfold gJ; rw [if_neg (fun z => h z.2)]
/-- How many differences there are. -/
def cntK (x y x' y' : Int) (m : Nat) : Int := sumR (fun t => sumR (fun s => if KQ x y x' y' m (s : Int) (t : Int) then 1 else 0) m) m
theorem joinN_cnt (s t : ByteArray) (hs : s.size ≤ 24) (ht : t.size ≤ 24) {m : Nat} (hm : 0 < m) (hm' : m ≤ 12) :
    joinN s t m = (m : Int) * cntK (dint s.data.toList (0, 1)).1 (dint s.data.toList (0, 1)).2 (dint t.data.toList (0, 1)).1 (dint t.data.toList (0, 1)).2 m := by
  have Q := fun (i j p q : Nat) (hi : i < m) (hj : j < m) (hp : p < m) (hq : q < m) => joinQ_iff s t hs ht (m := m) (i := i) (j := j) (p := p) (q := q) hm (by omega) (by omega) (by omega) (by omega)
  generalize (dint s.data.toList (0, 1)).1 = x at *
  generalize (dint s.data.toList (0, 1)).2 = y at *
  generalize (dint t.data.toList (0, 1)).1 = x' at *
  generalize (dint t.data.toList (0, 1)).2 = y' at *
  generalize (cafter s.data.toList (1, 1, 0, 0)).1 = α at *
  generalize (cafter t.data.toList (1, 1, 0, 0)).1 = β at *
  have s1 : joinN s t m = sumR (fun p => sumR (fun q => sumR (fun i => sumR (fun j => gJ x y x' y' α β m (j : Int) ((i : Int) - (j : Int)) (q : Int) ((p : Int) - (q : Int))) m) m) m) m := by
    unfold joinN
    refine sumR_congr fun p hp => sumR_congr fun q hq => sumR_congr fun i hi => sumR_congr fun j hj => ?_
    unfold joinC gJ
    have := Q i j p q hi hj hp hq
    by_cases h : joinQ (cend s i j) (cend t p q) (m : Int)
    · rw [if_pos h, if_pos (this.1 h)]
    · rw [if_neg h, if_neg (fun z => h (this.2 z))]
  have s2 : ∀ (q : Int) (τ : Int), sumR (fun i => sumR (fun j => gJ x y x' y' α β m (j : Int) ((i : Int) - (j : Int)) q τ) m) m = sumR (fun j => sumR (fun s => gJ x y x' y' α β m (j : Int) (s : Int) q τ) m) m := by
    intro q τ
    rw [sumR_swap]
    refine sumR_congr fun j _ => ?_
    exact sumR_shift (n := m) j (H := fun z => gJ x y x' y' α β m (j : Int) z q τ) (fun z => gJ_left x y x' y' α β m (j : Int) z q τ)
  rw [s1]
  have s3 : sumR (fun p => sumR (fun q => sumR (fun i => sumR (fun j => gJ x y x' y' α β m (j : Int) ((i : Int) - (j : Int)) (q : Int) ((p : Int) - (q : Int))) m) m) m) m
      = sumR (fun q => sumR (fun t => sumR (fun j => sumR (fun s => gJ x y x' y' α β m (j : Int) (s : Int) (q : Int) (t : Int)) m) m) m) m := by
    rw [sumR_swap]
    refine sumR_congr fun q _ => ?_
    rw [← sumR_shift (n := m) q (H := fun z => sumR (fun j => sumR (fun s => gJ x y x' y' α β m (j : Int) (s : Int) (q : Int) z) m) m) (fun z => ?_)]
    · refine sumR_congr fun p _ => ?_
      exact s2 _ _
    · refine sumR_congr fun j _ => sumR_congr fun s _ => ?_
      exact gJ_right x y x' y' α β m (j : Int) (s : Int) (q : Int) z
  rw [s3, sumR_swap]
  unfold cntK
  rw [← sumR_mul]
  refine sumR_congr fun t _ => ?_
  rw [sumR_swap, ← sumR_const]
  refine sumR_congr fun j _ => ?_
  rw [sumR_swap]
  refine sumR_congr fun s _ => ?_
  exact gJ_sum x y x' y' α β hm (j : Int) (s : Int) (t : Int)
theorem joinC_nonneg (s t : ByteArray) (n : Int) (i j p q : Nat) : 0 ≤ joinC s t n i j p q := (joinC_bd s t n i j p q).1
theorem sumR_nonneg {f : Nat → Int} (h : ∀ i, 0 ≤ f i) (n : Nat) : 0 ≤ sumR f n := by
  induction n with
  | zero => exact Int.le_refl _
  | succ n ih => simp only [sumR]; have := h n; omega
theorem joinN_ge (s t : ByteArray) (m : Nat) : (m : Int) ≤ joinN s t m := by
  unfold joinN
  have n1 : ∀ p q i, 0 ≤ sumR (fun j => joinC s t m i j p q) m := fun p q i => sumR_nonneg (fun j => joinC_nonneg s t m i j p q) m
  have n2 : ∀ p q, 0 ≤ sumR (fun i => sumR (fun j => joinC s t m i j p q) m) m := fun p q => sumR_nonneg (n1 p q) m
  refine sumR_ge' m fun a ha => ?_
  refine Int.le_trans ?_ (sumR_term (f := fun q => sumR (fun i => sumR (fun j => joinC s t m i j a q) m) m) (n2 a) ha)
  refine Int.le_trans ?_ (sumR_term (f := fun i => sumR (fun j => joinC s t m i j a a) m) (n1 a a) ha)
  refine Int.le_trans ?_ (sumR_term (f := fun j => joinC s t m a j a a) (fun j => joinC_nonneg s t m a j a a) ha)
  unfold joinC cend
  rw [cafter_same, cafter_same, if_pos]
  · exact Int.le_refl _
  · unfold joinQ
    simp only [Int.sub_self]
    rw [wrap64_in (n := 0) (by omega) (by omega), Int.zero_tmod]
    exact ⟨rfl, rfl, rfl, rfl⟩
/-- The same count, over rests. -/
def cntF (m x y x' y' : Nat) : Int := sumR (fun t => sumR (fun s => if (s * x + t * x') % m = 0 ∧ (s * y + t * (m - y')) % m = 0 then 1 else 0) m) m
theorem cntF_ok : (List.range 5).all (fun n => (List.range (n + 1)).all fun x => (List.range (n + 1)).all fun y => (List.range (n + 1)).all fun x' => (List.range (n + 1)).all fun y' =>
    Nat.gcd (n + 1) (Nat.gcd x y) != 1 || Nat.gcd (n + 1) (Nat.gcd x' y') != 1 || decide (cntF (n + 1) x y x' y' = ((Nat.gcd (n + 1) (x * y' + x' * y) : Nat) : Int))) = true := by decide +kernel
theorem rest_of (m : Nat) (hm : 0 < m) (x : Int) : ∃ (r : Nat) (q : Int), r < m ∧ x = (m : Int) * q + (r : Int) := by
  have h0 := Int.emod_nonneg x (show (m : Int) ≠ 0 by omega)
  have h1 := Int.emod_lt_of_pos x (show 0 < (m : Int) by omega)
  refine ⟨(x % (m : Int)).toNat, x / (m : Int), by omega, ?_⟩
  have := Int.mul_ediv_add_emod x m
  omega
theorem rest_dvd {m : Nat} {n : Nat} : (m : Int) ∣ (n : Int) ↔ n % m = 0 := by
  rw [Int.natCast_dvd_natCast, Nat.dvd_iff_mod_eq_zero]
theorem rest_gcd {m r1 r2 : Nat} {x y q1 q2 : Int} (h1 : x = (m : Int) * q1 + (r1 : Int)) (h2 : y = (m : Int) * q2 + (r2 : Int)) (hg : Int.gcd x y = 1) : Nat.gcd m (Nat.gcd r1 r2) = 1 := by
  have a1 : Nat.gcd m (Nat.gcd r1 r2) ∣ m := Nat.gcd_dvd_left _ _
  have a2 : Nat.gcd m (Nat.gcd r1 r2) ∣ r1 := Nat.dvd_trans (Nat.gcd_dvd_right _ _) (Nat.gcd_dvd_left _ _)
  have a3 : Nat.gcd m (Nat.gcd r1 r2) ∣ r2 := Nat.dvd_trans (Nat.gcd_dvd_right _ _) (Nat.gcd_dvd_right _ _)
  generalize Nat.gcd m (Nat.gcd r1 r2) = g at *
  have b1 : (g : Int) ∣ (m : Int) := Int.natCast_dvd_natCast.2 a1
  have b2 : (g : Int) ∣ x := by rw [h1]; exact Int.dvd_add (Int.dvd_trans b1 (Int.dvd_mul_right _ _)) (Int.natCast_dvd_natCast.2 a2)
  have b3 : (g : Int) ∣ y := by rw [h2]; exact Int.dvd_add (Int.dvd_trans b1 (Int.dvd_mul_right _ _)) (Int.natCast_dvd_natCast.2 a3)
  have b4 : (g : Int) ∣ ((Int.gcd x y : Nat) : Int) := Int.dvd_coe_gcd b2 b3
  rw [hg] at b4
  have := Int.natCast_dvd_natCast.1 b4
  exact Nat.dvd_one.1 this
theorem cntK_gcd {x y x' y' : Int} (h : Int.gcd x y = 1) (h' : Int.gcd x' y' = 1) {m : Nat} (hm : 0 < m) (hm' : m ≤ 5) : cntK x y x' y' m = ((Int.gcd (m : Int) (x * y' + x' * y) : Nat) : Int) := by
  obtain ⟨a, qa, la, ea⟩ := rest_of m hm x
  obtain ⟨b, qb, lb, eb⟩ := rest_of m hm y
  obtain ⟨c, qc, lc, ec⟩ := rest_of m hm x'
  obtain ⟨d, qd, ld, ed⟩ := rest_of m hm y'
  have e : cntK x y x' y' m = cntF m a b c d := by
    unfold cntK cntF
    refine sumR_congr fun t _ => sumR_congr fun s _ => ?_
    have k1 : (m : Int) ∣ (s : Int) * x + (t : Int) * x' ↔ (s * a + t * c) % m = 0 := by
      rw [← rest_dvd]
      refine dvd_shift ((s : Int) * qa + (t : Int) * qc) ?_
      rw [ea, ec, Int.natCast_add, Int.natCast_mul, Int.natCast_mul, Int.mul_add, Int.mul_add, Int.mul_add, Int.mul_left_comm, Int.mul_left_comm (t : Int)]
      omega
    have k2 : (m : Int) ∣ (s : Int) * y - (t : Int) * y' ↔ (s * b + t * (m - d)) % m = 0 := by
      rw [← rest_dvd]
      refine dvd_shift ((s : Int) * qb - (t : Int) * qd - (t : Int)) ?_
      rw [eb, ed, Int.natCast_add, Int.natCast_mul, Int.natCast_mul, show ((m - d : Nat) : Int) = (m : Int) - (d : Int) by omega, Int.mul_add, Int.mul_add, Int.mul_sub, Int.mul_sub, Int.mul_sub, Int.mul_left_comm, Int.mul_left_comm (t : Int) (m : Int), Int.mul_comm (t : Int) (m : Int)]
      omega
    by_cases hk : KQ x y x' y' m (s : Int) (t : Int)
    · rw [if_pos hk, if_pos ⟨k1.1 hk.1, k2.1 hk.2⟩]
    · rw [if_neg hk, if_neg (fun z => hk ⟨k1.2 z.1, k2.2 z.2⟩)]
  have g1 := rest_gcd ea eb h
  have g2 := rest_gcd ec ed h'
  have z := List.all_eq_true.1 (List.all_eq_true.1 (List.all_eq_true.1 (List.all_eq_true.1 (List.all_eq_true.1 cntF_ok (m - 1) (List.mem_range.2 (by omega))) a (List.mem_range.2 (by omega))) b (List.mem_range.2 (by omega))) c (List.mem_range.2 (by omega))) d (List.mem_range.2 (by omega))
  rw [show m - 1 + 1 = m by omega, g1, g2] at z
  have z := of_decide_eq_true (by simpa using z : decide (cntF m a b c d = ((Nat.gcd m (a * d + c * b) : Nat) : Int)) = true)
  rw [e, z]
  congr 1
  have e2 : x * y' + x' * y = (m : Int) * (qa * y' + (a : Int) * qd + qc * y + (c : Int) * qb) + ((a * d + c * b : Nat) : Int) := by
    have p1 : x * y' = (m : Int) * (qa * y') + ((m : Int) * ((a : Int) * qd) + (a : Int) * (d : Int)) := by
      rw [ea, Int.add_mul, Int.mul_assoc]
      congr 1
      rw [ed, Int.mul_add, Int.mul_left_comm]
    have p2 : x' * y = (m : Int) * (qc * y) + ((m : Int) * ((c : Int) * qb) + (c : Int) * (b : Int)) := by
      rw [ec, Int.add_mul, Int.mul_assoc]
      congr 1
      rw [eb, Int.mul_add, Int.mul_left_comm]
    rw [p1, p2, Int.mul_add, Int.mul_add, Int.mul_add, Int.natCast_add, Int.natCast_mul, Int.natCast_mul]
    omega
  rw [e2, Int.gcd_mul_left_add_right]
  rfl

-- alive
theorem alive_f {k : Nat} (hk : 1000001 ≤ k) : laws_alive.f k = some true := by
  unfold laws_alive.f impl_FractionOk.f
  simp only [impl_isFraction_f _ _ hk, Option.bind_some]
  rw [if_pos (by decide)]
  congr 1

theorem DrawCountJoined_f {l : List Int} {k : Nat} (h : ∀ x ∈ l, (Lit.int .u8 x).wf = true) (hk : 2000000 ≤ k) : ∃ s t n, spec_DrawCountJoined.f k l = some (s, t, n) ∧ s.size ≤ 200 ∧ t.size ≤ 200 := by
  unfold spec_DrawCountJoined.f
  obtain ⟨s, hs, hr⟩ := open_f h
  rw [hs]; simp only [Option.bind_some]
  obtain ⟨d, q, hf, hd, q0, q1⟩ := l20Dance_f (k := k) (p := 0) 8 14 hr (by omega) (by omega) (by omega) (by omega) (by omega)
  rw [hf]; simp only [Option.bind_some]
  obtain ⟨d', q', hf', hd', q0', q1'⟩ := l20Dance_f (k := k) (p := q) 8 14 hr (by omega) (by omega) (by omega) (by omega) (by omega)
  rw [hf']; simp only [Option.bind_some]
  obtain ⟨a, ha, _⟩ := pick_f (k := k) (p := q') 7 hr (by omega) (by omega) (by omega)
  rw [ha]; simp only [Option.bind_some]
  exact ⟨d, d', a, rfl, hd, hd'⟩
theorem FnCountJoined : laws_FnCountJoined.Pure := by
  intro l _ _ hw
  refine ⟨100003000, ?_⟩
  unfold laws_FnCountJoined.f
  refine ite_to (fun _ => rfl) (fun _ => ?_)
  obtain ⟨s, t, n, hd, hs, ht⟩ := DrawCountJoined_f hw (show 2000000 ≤ 100003000 by omega)
  rw [hd]; simp only [Option.bind_some]
  rw [impl_CountJoined_f s t n (by omega) (by omega) (by omega)]; simp only [Option.bind_some]
  rw [spec_CountJoined_f s t n (by omega) (by omega) (by omega), alive_f (by omega)]; simp only [Option.bind_some]
  rw [if_pos trivial, impl_DancedOf_f s (by omega) (by omega), impl_DancedOf_f t (by omega) (by omega)]; simp only [Option.bind_some]
  by_cases h : ((DanceP s ∧ s.size ≤ 24) ∧ (DanceP t ∧ t.size ≤ 24)) ∧ 1 ≤ n ∧ n ≤ 5
  · have e : joincv s t n = joinN s t n.toNat := by unfold joincv; rw [if_pos h]
    obtain ⟨m, rfl⟩ : ∃ m : Nat, n = (m : Int) := ⟨n.toNat, by omega⟩
    rw [show ((m : Int)).toNat = m by omega] at e
    have hge := joinN_ge s t m
    have hc := joinN_cnt s t h.1.1.2 h.1.2.2 (m := m) (by omega) (by omega)
    rw [e, if_neg (by omega)]
    have ex : ∀ P : Nat → Prop, P (100002999 + 1) → P 100003000 := fun P h => h
    have J0 : ∀ x51 a b c d, x51 = false → laws_FnCountJoined.j0 100003000 (m : Int) (joinN s t m) (-1) x51 a b c d = some true := by
      intro x51 a b c d hx
      refine ex (fun K => laws_FnCountJoined.j0 K _ _ _ _ _ _ _ _ = some true) ?_
      simp only [laws_FnCountJoined.j0]
      rw [hx, if_neg (by decide), if_pos hge, if_pos (by omega), alive_f (by omega)]; rfl
    unfold dancedofv
    rw [if_pos h.1.1.1, if_pos h.1.2.1]
    cases hg : dafter s.data.toList (0, 1) with
    | none => simp only [dansw, Bool.false_eq_true, if_false]; exact J0 _ _ _ _ _ rfl
    | some g =>
      cases hg' : dafter t.data.toList (0, 1) with
      | none => simp only [dansw, if_true]; exact J0 _ _ _ _ _ rfl
      | some g' =>
        obtain ⟨a, b⟩ := g
        obtain ⟨c, d⟩ := g'
        obtain ⟨ε, he, hi⟩ := danced_int hg
        obtain ⟨ε', he', hi'⟩ := danced_int hg'
        have hf := dafter_frac (by decide) hg
        have hf' := dafter_frac (by decide) hg'
        simp only [dansw]
        rw [if_pos trivial]
        refine ex (fun K => laws_FnCountJoined.j0 K _ _ _ _ _ _ _ _ = some true) ?_
        simp only [laws_FnCountJoined.j0]
        rw [if_pos trivial, impl_JoinedFor_f _ _ _ _ _ (by omega), alive_f (by omega)]; simp only [Option.bind_some]
        rw [if_pos hge]
        have key : joinv a b c d (m : Int) < 0 ∨ joinv a b c d (m : Int) = joinN s t m := by
          unfold joinv
          by_cases hn : numv a b c d < 0
          · left; rw [if_pos hn]; omega
          · right
            rw [if_neg hn, if_neg (by omega), if_neg (by omega), hc, hi, hi']
            have hs : Small a b 1000 ∧ Small c d 1000 := by
              by_cases hs : Small a b 1000 ∧ Small c d 1000
              · exact hs
              · exfalso
                have : numv a b c d = -1 := by unfold numv; rw [if_neg hs]
                omega
            have hv : numv a b c d = (((a * d + c * b).natAbs : Nat) : Int) := by unfold numv; rw [if_pos hs]
            rw [hv]
            simp only
            congr 1
            rw [cntK_gcd (by rcases he with rfl | rfl <;> simp [hf.2.2.1]) (by rcases he' with rfl | rfl <;> simp [hf'.2.2.1]) (by omega) (by omega)]
            congr 1
            have z : (ε * a * (ε' * d) + ε' * c * (ε * b)).natAbs = (a * d + c * b).natAbs := by
              rcases he with rfl | rfl <;> rcases he' with rfl | rfl <;> simp only [Int.one_mul, Int.neg_mul, Int.mul_neg, Int.neg_neg, Int.neg_one_mul] <;> omega
            unfold Int.gcd
            simp only [Int.natAbs_natCast]
            rw [z]
        rcases key with k1 | k1
        · rw [if_pos k1]
        · rw [k1, if_neg (by omega), if_pos rfl]
  · have e : joincv s t n = -1 := by unfold joincv; rw [if_neg h]
    rw [e, if_pos (by omega), if_pos rfl]

end Go.Proofs.YtkjefpihjgflhaaDoor.Pure
