/- FnToldBy: ToldBy answers as the reference's does; with 1 more at each end it is the same, and with all colours twice, as far as that is told; at every draw. -/
import Derived.Test.YtblbkmjneeeodaaPFnToldByx0
import Derived.Test.YtblbkmjneeeodaaPFnToldByx1
import Derived.Test.YtblbkmjneeeodaaPFnToldByx2
import Derived.Test.YtblbkmjneeeodaaPFnToldByx3
import Derived.Test.YtblbkmjneeeodaaPFnToldByx4
import Derived.Test.YtblbkmjneeeodaaCFnToldBy
set_option linter.unusedVariables false
set_option linter.unusedSimpArgs false
namespace Go.Proofs.Ytblbkmjneeeodaa.Pure
open Go.RowKit Go.Proofs.Ytblbkmjneeeodaa.PFnToldBy Go.Proofs.YtblbkmjneeeodaaW.PrintWords Go.Proofs.YtblbkmjneeeodaaW.PrintLast Go.Proofs.YtblbkmjneeeodaaW.PrintMore

-- base
theorem wrap64_in {n : Int} (h : -9223372036854775808 ≤ n) (h' : n ≤ 9223372036854775807) : wrap64 n = n := by unfold wrap64; omega
theorem i64_of_wf {n : Int} (h : (Lit.int .i64 n).wf = true) : -9223372036854775808 ≤ n ∧ n ≤ 9223372036854775807 := by
  simpa [Lit.wf, IntKind.min, IntKind.max, IntKind.signed, IntKind.bits] using h
theorem bigk : ∃ k : Nat, 1000000000 ≤ k := ⟨1000000000, Nat.le_refl _⟩
theorem dec_true {p : Prop} [Decidable p] (h : p) : some (decide p) = some true := by simp [h]
theorem dec_false {p : Prop} [Decidable p] (h : ¬ p) : some (decide p) = some false := by simp [h]
theorem dec_iff {p q : Prop} [Decidable p] [Decidable q] (h : p ↔ q) : some (decide p) = some (decide q) := by simp [h]
theorem ite_to {c : Prop} [Decidable c] {α : Type} {x y z : α} (h1 : c → x = z) (h2 : ¬ c → y = z) : (if c then x else y) = z := by
  by_cases h : c
  · rw [if_pos h]; exact h1 h
  · rw [if_neg h]; exact h2 h

-- gcdmath
theorem natAbs_tmod_lt (a : Int) {b : Int} (h : b ≠ 0) : (Int.tmod a b).natAbs < b.natAbs := by
  rw [Int.natAbs_tmod]
  exact Nat.mod_lt _ (by omega)
theorem gcd_tmod (a b : Int) : Int.gcd b (Int.tmod a b) = Int.gcd a b := by
  unfold Int.gcd
  rw [Int.natAbs_tmod, Nat.gcd_comm a.natAbs, Nat.gcd_rec b.natAbs a.natAbs, Nat.gcd_comm]
theorem mx_abs {a : Int} (h : -9223372036854775808 < a) (h' : a ≤ 9223372036854775807) : mx a (wrap64 (-a)) = (a.natAbs : Int) := by
  rw [wrap64_in (by omega) (by omega)]; unfold mx; split <;> omega

-- draw
/-- The bytes that a draw reads. -/
def RdOk (s : List Int) : Prop := s.length ≤ 2000 ∧ ∀ x ∈ s, 0 ≤ x ∧ x ≤ 255
theorem rd_bd {s : List Int} (h : RdOk s) (i : Int) : 0 ≤ rd s i ∧ rd s i ≤ 255 := by
  unfold rd
  by_cases hi : i.toNat < s.length
  · have e : s.getD i.toNat 0 = s[i.toNat] := by simp [hi]
    rw [e]; exact h.2 _ (List.getElem_mem hi)
  · have e : s.getD i.toNat 0 = 0 := by simp; rw [List.getElem?_eq_none (by omega)]; rfl
    rw [e]; omega
theorem xor_nonneg {x y : Int} (hx : 0 ≤ x) (hx' : x < 4611686018427387904) (hy : 0 ≤ y) (hy' : y < 4611686018427387904) : 0 ≤ Go.bits .xor .i64 x y := by
  unfold Go.bits
  simp only
  obtain ⟨a, rfl⟩ := Int.eq_ofNat_of_zero_le hx
  obtain ⟨b, rfl⟩ := Int.eq_ofNat_of_zero_le hy
  have h64 : IntKind.i64.bits = 64 := rfl
  rw [BitVec.toNat_xor]
  have ea : (BitVec.ofInt IntKind.i64.bits (a : Int)).toNat = a := by
    rw [BitVec.toNat_ofInt, h64]; omega
  have eb : (BitVec.ofInt IntKind.i64.bits (b : Int)).toNat = b := by
    rw [BitVec.toNat_ofInt, h64]; omega
  rw [ea, eb]
  have hl : a ^^^ b < 2 ^ 62 := Nat.xor_lt_two_pow (by omega) (by omega)
  generalize a ^^^ b = c at *
  have : IntKind.i64.wrap (c : Int) = wrap64 (c : Int) := by
    simp [IntKind.wrap, wrap64, IntKind.signed, IntKind.bits]
    try omega
  rw [this, wrap64_in (by omega) (by omega)]
  omega
theorem tmod_range {x n : Int} (hx : 0 ≤ x) (hn : 1 ≤ n) : 0 ≤ Int.tmod x n ∧ Int.tmod x n < n := by
  rw [Int.tmod_eq_emod_of_nonneg hx]
  exact ⟨Int.emod_nonneg _ (by omega), Int.emod_lt_of_pos _ (by omega)⟩
theorem pick_f {s : List Int} {p : Int} (n : Int) {k : Nat} (hs : RdOk s) (hp : 0 ≤ p) (hp' : p ≤ 1000000) (hk : 1 ≤ k) :
    ∃ v, spec_l20Rd_pick.f k s p n = some (v, p + 1) ∧ 0 ≤ v ∧ (1 ≤ n → v < n) ∧ (n < 1 → v = 0) := by
  obtain ⟨k, rfl⟩ : ∃ m, k = m + 1 := ⟨k - 1, by omega⟩
  unfold spec_l20Rd_pick.f
  rw [wrap64_in (n := p + 1) (by omega) (by omega)]
  by_cases hn : n < 1
  · rw [if_pos hn]; simp only [spec_l20Rd_pick.j0]; rw [if_pos trivial]
    exact ⟨0, rfl, by omega, by omega, fun _ => rfl⟩
  · rw [if_neg hn]
    by_cases hl : (s.length : Int) = 0
    · rw [show ((s.length : Int) == 0) = true by simpa using hl]; simp only [spec_l20Rd_pick.j0]; rw [if_pos trivial]
      exact ⟨0, rfl, by omega, by omega, fun _ => rfl⟩
    · rw [show ((s.length : Int) == 0) = false by simpa using hl]; simp only [spec_l20Rd_pick.j0]; rw [if_neg (by decide)]
      have hlen := hs.1
      rw [show p + 1 - 1 = p by omega, wrap64_in (n := p) (by omega) (by omega)]
      by_cases h1 : p < (s.length : Int)
      · have hb := rd_bd hs p
        rw [if_pos h1, if_pos hp, if_neg (by omega), wrap64_in (by omega) (by omega)]
        have ht := tmod_range (n := n) hb.1 (by omega)
        exact ⟨_, rfl, ht.1, fun _ => ht.2, fun x => absurd x hn⟩
      · have t1 := tmod_range (x := p) (n := (s.length : Int)) hp (by omega)
        have t2 := tmod_range (x := p * 7 + 3) (n := (s.length : Int)) (by omega) (by omega)
        rw [if_neg h1, if_neg hl, if_pos t1.1, if_pos t1.2, wrap64_in (n := p * 7) (by omega) (by omega), wrap64_in (n := p * 7 + 3) (by omega) (by omega), if_pos t2.1, if_pos t2.2, if_neg (by omega)]
        have b1 := rd_bd hs (Int.tmod p (s.length : Int))
        have b2 := rd_bd hs (Int.tmod (p * 7 + 3) (s.length : Int))
        generalize rd s (Int.tmod p (s.length : Int)) = r1 at *
        generalize rd s (Int.tmod (p * 7 + 3) (s.length : Int)) = r2 at *
        have q1 : 0 ≤ Int.tdiv p (s.length : Int) ∧ Int.tdiv p (s.length : Int) ≤ p := by
          obtain ⟨a, rfl⟩ := Int.eq_ofNat_of_zero_le hp
          rw [Int.tdiv_eq_ediv_of_nonneg (by omega), ← Int.natCast_ediv]
          have := Nat.div_le_self a s.length
          exact ⟨Int.natCast_nonneg _, by exact_mod_cast this⟩
        generalize Int.tdiv p (s.length : Int) = q at *
        rw [wrap64_in (n := r1) (by omega) (by omega), wrap64_in (n := r1 * 131) (by omega) (by omega), wrap64_in (n := r2) (by omega) (by omega), wrap64_in (n := r2 * 1117) (by omega) (by omega), wrap64_in (n := r1 * 131 + r2 * 1117) (by omega) (by omega), wrap64_in (n := p * 29) (by omega) (by omega), wrap64_in (n := q) (by omega) (by omega), wrap64_in (n := q * 53) (by omega) (by omega), wrap64_in (n := r1 * 131 + r2 * 1117 + p * 29) (by omega) (by omega), wrap64_in (n := r1 * 131 + r2 * 1117 + p * 29 + q * 53) (by omega) (by omega)]
        generalize hX : r1 * 131 + r2 * 1117 + p * 29 + q * 53 = X
        have hX0 : 0 ≤ X := by omega
        have hX1 : X ≤ 1000000000 := by omega
        have d1 : 0 ≤ Int.tdiv X 64 ∧ Int.tdiv X 64 ≤ X := by
          rw [Int.tdiv_eq_ediv_of_nonneg hX0]; omega
        rw [wrap64_in (n := Int.tdiv X 64) (by omega) (by omega)]
        have hx := xor_nonneg (x := X) (y := Int.tdiv X 64) hX0 (by omega) d1.1 (by omega)
        have ht := tmod_range (n := n) hx (by omega)
        exact ⟨_, rfl, ht.1, fun _ => ht.2, fun x => absurd x hn⟩

-- open
theorem u8_of_wf {n : Int} (h : (Lit.int .u8 n).wf = true) : 0 ≤ n ∧ n ≤ 255 := by
  simpa [Lit.wf, IntKind.min, IntKind.max, IntKind.signed, IntKind.bits] using h
theorem open_f {l : List Int} (h : ∀ x ∈ l, (Lit.int .u8 x).wf = true) : ∃ s, spec_l20Open.f l = some (s, 0) ∧ RdOk s := by
  unfold spec_l20Open.f
  by_cases hl : (l.length : Int) > 2000
  · rw [if_pos hl, if_pos (by omega)]
    exact ⟨_, rfl, by rw [List.length_take]; omega, fun x hx => u8_of_wf (h x (List.mem_of_mem_take hx))⟩
  · rw [if_neg hl]
    exact ⟨_, rfl, by omega, fun x hx => u8_of_wf (h x hx)⟩

-- odd
theorem odd_f {s : List Int} {p : Int} (n : Int) {k : Nat} (hs : RdOk s) (hp : 0 ≤ p) (hp' : p ≤ 1000000) (hk : 1 ≤ k) :
    ∃ v q, spec_l20Rd_odd.f k s p n = some (v, q) ∧ p ≤ q ∧ q ≤ p + 1 := by
  unfold spec_l20Rd_odd.f
  by_cases h : n > 0
  · rw [if_pos h]
    obtain ⟨v, hv, _⟩ := pick_f n hs hp hp' hk
    rw [hv]; simp only [Option.bind_some]
    exact ⟨_, _, rfl, by omega, by omega⟩
  · rw [if_neg h]; exact ⟨_, _, rfl, by omega, by omega⟩

-- drawdance
theorem mem_small {L : List ByteArray} {B : Nat} (h : ∀ b ∈ L, b.size ≤ B) (i : Int) : (rdOf ByteArray.empty L i).size ≤ B := by
  unfold rdOf
  by_cases hi : i.toNat < L.length
  · have e : L.getD i.toNat ByteArray.empty = L[i.toNat] := by simp [hi]
    rw [e]; exact h _ (List.getElem_mem hi)
  · have e : L.getD i.toNat ByteArray.empty = ByteArray.empty := by simp; rw [List.getElem?_eq_none (by omega)]; rfl
    rw [e]; exact Nat.zero_le _
theorem l20Dance_l0 {s : List Int} (hs : RdOk s) (x2 : Int) (n : Nat) : ∀ (out : ByteArray) (p : Int) (k : Nat), 0 ≤ p → p + 3 * n ≤ 900000 → out.size + 3 * n ≤ 1000000 → n + 10 < k →
    ∃ d q, spec_l20Dance.l0 k x2 out (n : Int) s p = some (d, q) ∧ d.size ≤ out.size + n + 41 ∧ p ≤ q ∧ q ≤ p + n + 2 := by
  induction n with
  | zero =>
    intro out p k hp hp' ho hk
    obtain ⟨k, rfl⟩ : ∃ m, k = m + 1 := ⟨k - 1, by omega⟩
    simp only [spec_l20Dance.l0]
    rw [if_neg (by omega)]
    obtain ⟨o, q, h1, q0, q1⟩ := odd_f (k := k) (p := p) x2 hs (by omega) (by omega) (by omega)
    rw [h1]; simp only [Option.bind_some]
    split
    · obtain ⟨w, hw, w0, w1, _⟩ := pick_f (k := k) (p := q) 3 hs (by omega) (by omega) (by omega)
      have w1 := w1 (by omega)
      rw [hw]; simp only [Option.bind_some]
      have key : ∀ L : List ByteArray, w < (L.length : Int) → (∀ b ∈ L, b.size ≤ 41) → ∃ d q', (if 0 ≤ w then (if w < (L.length : Int) then (if out.size + (rdOf ByteArray.empty L w).size ≤ 9223372036854775807 then (some (out ++ (rdOf ByteArray.empty L w), q + 1)) else (none)) else (none)) else (none)) = some (d, q') ∧ d.size ≤ out.size + 0 + 41 ∧ p ≤ q' ∧ q' ≤ p + (0 : Nat) + 2 := by
        intro L h1 h2
        have hm := mem_small h2 w
        rw [if_pos w0, if_pos h1, if_pos (by omega)]
        exact ⟨_, _, rfl, by rw [ByteArray.size_append]; omega, by omega, by omega⟩
      exact key _ (by simpa using w1) (by decide)
    · exact ⟨_, _, rfl, by omega, by omega, by omega⟩
  | succ n ih =>
    intro out p k hp hp' ho hk
    obtain ⟨k, rfl⟩ : ∃ m, k = m + 1 := ⟨k - 1, by omega⟩
    simp only [spec_l20Dance.l0, Option.bind_some]
    rw [if_pos (by omega)]
    obtain ⟨w, hw, w0, w1, _⟩ := pick_f (k := k) (p := p) 6 hs (by omega) (by omega) (by omega)
    have w1 := w1 (by omega)
    rw [hw]; simp only [Option.bind_some]
    rw [if_pos w0, if_pos (by simpa using w1)]
    have hm := mem_small (B := 1) (L := [(⟨#[84]⟩ : ByteArray), (⟨#[84]⟩ : ByteArray), (⟨#[82]⟩ : ByteArray), (⟨#[116]⟩ : ByteArray), (⟨#[82]⟩ : ByteArray), (⟨#[84]⟩ : ByteArray)]) (by decide) w
    rw [if_pos (by omega), wrap64_in (by omega) (by omega), show ((n + 1 : Nat) : Int) - 1 = (n : Int) by omega]
    obtain ⟨d, q, e, d1, q0, q1⟩ := ih (out ++ rdOf ByteArray.empty [(⟨#[84]⟩ : ByteArray), (⟨#[84]⟩ : ByteArray), (⟨#[82]⟩ : ByteArray), (⟨#[116]⟩ : ByteArray), (⟨#[82]⟩ : ByteArray), (⟨#[84]⟩ : ByteArray)] w) (p + 1) k (by omega) (by omega) (by rw [ByteArray.size_append]; omega) (by omega)
    rw [ByteArray.size_append] at d1
    exact ⟨d, q, e, by omega, by omega, by omega⟩
theorem l20Dance_f {s : List Int} {p : Int} (most n : Int) {k : Nat} (hs : RdOk s) (hp : 0 ≤ p) (hp' : p ≤ 800000) (hm : 0 ≤ most) (hm' : most ≤ 100) (hk : 1000 ≤ k) :
    ∃ d q, spec_l20Dance.f k s p most n = some (d, q) ∧ d.size ≤ 200 ∧ p ≤ q ∧ q ≤ p + 120 := by
  unfold spec_l20Dance.f
  rw [wrap64_in (n := most + 1) (by omega) (by omega)]
  obtain ⟨w, hw, w0, w1, _⟩ := pick_f (k := k) (p := p) (most + 1) hs (by omega) (by omega) (by omega)
  have w1 := w1 (by omega)
  rw [hw]; simp only [Option.bind_some]
  obtain ⟨w, rfl⟩ := Int.eq_ofNat_of_zero_le w0
  obtain ⟨d, q, e, d1, q0, q1⟩ := l20Dance_l0 hs n w (⟨#[]⟩ : ByteArray) (p + 1) k (by omega) (by omega) (by show 0 + 3 * w ≤ 1000000; omega) (by omega)
  have : (⟨#[]⟩ : ByteArray).size = 0 := rfl
  exact ⟨d, q, e, by omega, by omega, by omega⟩

-- bytes
theorem bt_drop {s : ByteArray} {i : Nat} (h : i < s.size) : ∃ c : UInt8, s.data.toList.drop i = c :: s.data.toList.drop (i + 1) ∧ bt s (i : Int) = ((c.toNat : Nat) : Int) := by
  have hl : i < s.data.toList.length := by simpa using h
  refine ⟨s.data.toList[i], List.drop_eq_getElem_cons hl, ?_⟩
  unfold bt
  rw [dif_pos (by simpa using h)]
  simp
  rfl
theorem drop_end {s : ByteArray} {i : Nat} (h : s.size ≤ i) : s.data.toList.drop i = [] := List.drop_of_length_le (by simpa using h)
theorem toList_length (s : ByteArray) : s.data.toList.length = s.size := by simp
theorem u8_eq {c : UInt8} {n : Nat} (hn : n < 256) : ((c.toNat : Nat) : Int) = (n : Int) ↔ c = UInt8.ofNat n := by
  constructor
  · intro h
    apply UInt8.toNat_inj.1
    rw [UInt8.toNat_ofNat']
    omega
  · intro h
    subst h
    rw [UInt8.toNat_ofNat']
    omega

-- dancemath
def MoveP (c : UInt8) : Prop := c = 84 ∨ c = 116 ∨ c = 82
instance (c : UInt8) : Decidable (MoveP c) := by unfold MoveP; infer_instance
def AllM (l : List UInt8) : Prop := ∀ c ∈ l, MoveP c
instance (l : List UInt8) : Decidable (AllM l) := by unfold AllM; infer_instance
theorem allM_nil : AllM [] := by intro c h; simp at h
theorem allM_cons (c : UInt8) (l : List UInt8) : AllM (c :: l) ↔ MoveP c ∧ AllM l := by unfold AllM; simp
/-- A dance: of at most 40 moves. -/
def DanceL (l : List UInt8) : Prop := l.length ≤ 40 ∧ AllM l
instance (l : List UInt8) : Decidable (DanceL l) := by unfold DanceL; infer_instance
def DanceP (s : ByteArray) : Prop := DanceL s.data.toList
instance (s : ByteArray) : Decidable (DanceP s) := by unfold DanceP; infer_instance

-- colmath
/-- Colours after a move, and after moves: above left, above right, below left, below right. -/
def cmove (c : Int × Int × Int × Int) (m : UInt8) : Int × Int × Int × Int :=
  if m = 84 then (c.1, 2 * c.2.1 - c.2.2.2, c.2.2.1, c.2.1) else if m = 116 then (c.1, c.2.2.2, c.2.2.1, 2 * c.2.2.2 - c.2.1) else (c.2.2.1, c.1, c.2.2.2, c.2.1)
def cafter (l : List UInt8) (c : Int × Int × Int × Int) : Int × Int × Int × Int := l.foldl cmove c
def ColBd (B : Nat) (c : Int × Int × Int × Int) : Prop := c.1.natAbs ≤ B ∧ c.2.1.natAbs ≤ B ∧ c.2.2.1.natAbs ≤ B ∧ c.2.2.2.natAbs ≤ B
theorem cmove_bd {B : Nat} {c : Int × Int × Int × Int} (h : ColBd B c) (m : UInt8) : ColBd (3 * B) (cmove c m) := by
  obtain ⟨a, b, d, e⟩ := c
  unfold ColBd cmove at *
  simp only at *
  split
  · simp only; omega
  · split
    · simp only; omega
    · simp only; omega
def ColArgs (s : ByteArray) (a b : Int) : Prop := (DanceP s ∧ s.size ≤ 24) ∧ (0 ≤ a ∧ a ≤ 12) ∧ (0 ≤ b ∧ b ≤ 12)
instance (s : ByteArray) (a b : Int) : Decidable (ColArgs s a b) := by unfold ColArgs; infer_instance
/-- What ColoursAfter answers. -/
def colv (s : ByteArray) (a b : Int) : Int × Int × Int × Int × Bool :=
  if ColArgs s a b then ((cafter s.data.toList (a, a, b, b)).1, (cafter s.data.toList (a, a, b, b)).2.1, (cafter s.data.toList (a, a, b, b)).2.2.1, (cafter s.data.toList (a, a, b, b)).2.2.2, true) else (0, 0, 0, 0, false)

-- spec_DanceOk
theorem spec_DanceOk_l0 (s : ByteArray) (hs : s.size ≤ 1000000000) (n : Nat) : ∀ i : Nat, i + n = s.size → ∀ k, n < k → spec_DanceOk.l0 k s (i : Int) = some (decide (s.size ≤ 40 ∧ AllM (s.data.toList.drop i))) := by
  induction n with
  | zero =>
    intro i hi k hk
    obtain ⟨k, rfl⟩ : ∃ m, k = m + 1 := ⟨k - 1, by omega⟩
    simp only [spec_DanceOk.l0]
    rw [if_neg (by omega), drop_end (by omega)]
    exact dec_iff ⟨fun x => ⟨by omega, allM_nil⟩, fun x => by omega⟩
  | succ n ih =>
    intro i hi k hk
    obtain ⟨k, rfl⟩ : ∃ m, k = m + 1 := ⟨k - 1, by omega⟩
    obtain ⟨c, hd, hb⟩ := bt_drop (s := s) (i := i) (by omega)
    simp only [spec_DanceOk.l0]
    rw [if_pos (by omega), if_pos (by omega), hb, hd, wrap64_in (by omega) (by omega), show ((i : Int) + 1) = ((i + 1 : Nat) : Int) by omega, ih (i + 1) (by omega) k (by omega)]
    have e1 : (((c.toNat : Nat) : Int) = 84) ↔ c = 84 := u8_eq (n := 84) (by omega)
    have e2 : (((c.toNat : Nat) : Int) = 116) ↔ c = 116 := u8_eq (n := 116) (by omega)
    have e3 : (((c.toNat : Nat) : Int) = 82) ↔ c = 82 := u8_eq (n := 82) (by omega)
    have yes : MoveP c → some (decide (s.size ≤ 40 ∧ AllM (s.data.toList.drop (i + 1)))) = some (decide (s.size ≤ 40 ∧ AllM (c :: s.data.toList.drop (i + 1)))) := by
      intro h; exact dec_iff ⟨fun x => ⟨x.1, (allM_cons _ _).2 ⟨h, x.2⟩⟩, fun x => ⟨x.1, ((allM_cons _ _).1 x.2).2⟩⟩
    by_cases h1 : c = 84
    · rw [if_pos (e1.2 h1)]; exact yes (.inl h1)
    · rw [if_neg (fun x => h1 (e1.1 x))]
      by_cases h2 : c = 116
      · rw [if_pos (e2.2 h2)]; exact yes (.inr (.inl h2))
      · rw [if_neg (fun x => h2 (e2.1 x))]
        by_cases h3 : c = 82
        · rw [if_pos (e3.2 h3)]; exact yes (.inr (.inr h3))
        · rw [if_neg (fun x => h3 (e3.1 x))]
          exact (dec_false (fun x => by rcases ((allM_cons _ _).1 x.2).1 with y | y | y <;> contradiction)).symm
theorem spec_DanceOk_f (s : ByteArray) {k : Nat} (hs : s.size ≤ 100000000) (hk : 100000001 ≤ k) : spec_DanceOk.f k s = some (decide (DanceP s)) := by
  unfold spec_DanceOk.f
  have := spec_DanceOk_l0 s (by omega) s.size 0 (by omega) k (by omega)
  rw [show ((0 : Nat) : Int) = 0 from rfl] at this
  rw [this]
  exact dec_iff (by unfold DanceP DanceL; simp)

-- spec_l1In
theorem spec_l1In_f (a b c : Int) : spec_l1In.f a b c = some (decide (b ≤ a ∧ a ≤ c)) := by
  unfold spec_l1In.f
  by_cases h : b ≤ a
  · rw [if_pos h]; exact dec_iff ⟨fun x => ⟨h, x⟩, fun x => x.2⟩
  · rw [if_neg h]; exact (dec_false (fun x => h x.1)).symm

-- spec_ColoursAfter
theorem spec_l8Moved_f {B : Nat} {c : Int × Int × Int × Int} (h : ColBd B c) (hB : B ≤ 1000000000000000) (m : UInt8) : spec_l8Moved.f c.1 c.2.1 c.2.2.1 c.2.2.2 ((m.toNat : Nat) : Int) = some (cmove c m) := by
  obtain ⟨a, b, d, e⟩ := c
  unfold ColBd at h
  unfold spec_l8Moved.f cmove
  simp only at *
  have e1 : (((m.toNat : Nat) : Int) = 84) ↔ m = 84 := u8_eq (n := 84) (by omega)
  have e2 : (((m.toNat : Nat) : Int) = 116) ↔ m = 116 := u8_eq (n := 116) (by omega)
  by_cases h1 : m = 84
  · rw [if_pos (e1.2 h1), if_pos h1, wrap64_in (n := 2 * b) (by omega) (by omega), wrap64_in (by omega) (by omega)]
  · rw [if_neg (fun x => h1 (e1.1 x)), if_neg h1]
    by_cases h2 : m = 116
    · rw [if_pos (e2.2 h2), if_pos h2, wrap64_in (n := 2 * e) (by omega) (by omega), wrap64_in (by omega) (by omega)]
    · rw [if_neg (fun x => h2 (e2.1 x)), if_neg h2]
theorem spec_ColoursAfter_l0 (s : ByteArray) (hs : s.size ≤ 24) (n : Nat) : ∀ (i : Nat) (c : Int × Int × Int × Int), i + n = s.size → ColBd (12 * 3 ^ i) c → ∀ k, n < k →
    spec_ColoursAfter.l0 k s (i : Int) c.1 c.2.1 c.2.2.1 c.2.2.2 = some ((cafter (s.data.toList.drop i) c).1, (cafter (s.data.toList.drop i) c).2.1, (cafter (s.data.toList.drop i) c).2.2.1, (cafter (s.data.toList.drop i) c).2.2.2, true) := by
  induction n with
  | zero =>
    intro i c hi hc k hk
    obtain ⟨k, rfl⟩ : ∃ m, k = m + 1 := ⟨k - 1, by omega⟩
    simp only [spec_ColoursAfter.l0]
    rw [if_neg (by omega), drop_end (by omega)]; rfl
  | succ n ih =>
    intro i c hi hc k hk
    obtain ⟨k, rfl⟩ : ∃ m, k = m + 1 := ⟨k - 1, by omega⟩
    obtain ⟨m, hd, hb⟩ := bt_drop (s := s) (i := i) (by omega)
    have hp : 3 ^ i ≤ 3 ^ 24 := Nat.pow_le_pow_right (by omega) (by omega)
    simp only [spec_ColoursAfter.l0]
    rw [if_pos (by omega), if_pos (by omega), hb, spec_l8Moved_f hc (by omega) m, hd, wrap64_in (by omega) (by omega), show ((i : Int) + 1) = ((i + 1 : Nat) : Int) by omega]; simp only [Option.bind_some]
    have hc' : ColBd (12 * 3 ^ (i + 1)) (cmove c m) := by
      have := cmove_bd hc m
      rw [Nat.pow_succ, show 12 * (3 ^ i * 3) = 3 * (12 * 3 ^ i) by omega]
      exact this
    rw [ih (i + 1) (cmove c m) (by omega) hc' k (by omega)]
    rfl
theorem spec_ColoursAfter_f (s : ByteArray) (a b : Int) {k : Nat} (hs : s.size ≤ 100000000) (hk : 100000001 ≤ k) : spec_ColoursAfter.f k s a b = some (colv s a b) := by
  obtain ⟨k, rfl⟩ : ∃ m, k = m + 1 := ⟨k - 1, by omega⟩
  unfold spec_ColoursAfter.f colv
  rw [spec_DanceOk_f s hs (by omega)]; simp only [Option.bind_some, decide_eq_true_eq, spec_l1In_f]
  have no : spec_ColoursAfter.j0 (k + 1) s a b true = some (0, 0, 0, 0, false) := by simp only [spec_ColoursAfter.j0]; rw [if_pos trivial]
  by_cases h : DanceP s
  · rw [if_pos h]
    by_cases h1 : (s.size : Int) > 24
    · rw [if_pos h1, no, if_neg (fun x => by have := x.1.2; omega)]
    · rw [if_neg h1]
      by_cases h2 : 0 ≤ a ∧ a ≤ 12
      · rw [if_pos h2]
        by_cases h3 : 0 ≤ b ∧ b ≤ 12
        · rw [decide_eq_true h3, if_pos (show ColArgs s a b from ⟨⟨h, by omega⟩, h2, h3⟩)]
          simp only [spec_ColoursAfter.j0]
          rw [if_neg (by decide)]
          have := spec_ColoursAfter_l0 s (by omega) s.size 0 (a, a, b, b) (by omega) ⟨by simp only; omega, by simp only; omega, by simp only; omega, by simp only; omega⟩ k (by omega)
          rw [List.drop_zero] at this
          exact this
        · rw [decide_eq_false h3, if_neg (fun x => h3 x.2.2)]; exact no
      · rw [if_neg h2, no, if_neg (fun x => h2 x.2.1)]
  · rw [if_neg h, no, if_neg (fun x => h x.1.1)]

-- drawcol
theorem l20Colours_f {s : List Int} {p : Int} {k : Nat} (hs : RdOk s) (hp : 0 ≤ p) (hp' : p ≤ 700000) (hk : 100000002 ≤ k) :
    ∃ a b c d q, spec_l20Colours.f k s p = some (a, b, c, d, q) := by
  obtain ⟨k, rfl⟩ : ∃ m, k = m + 1 := ⟨k - 1, by omega⟩
  unfold spec_l20Colours.f
  obtain ⟨d, q, h1, d1, q0, q1⟩ := l20Dance_f (k := k + 1) (p := p) 12 0 hs hp (by omega) (by omega) (by omega) (by omega)
  rw [h1]; simp only [Option.bind_some]
  obtain ⟨v1, e1, _⟩ := pick_f (k := k + 1) (p := q) 5 hs (by omega) (by omega) (by omega)
  rw [e1]; simp only [Option.bind_some]
  obtain ⟨v2, e2, _⟩ := pick_f (k := k + 1) (p := q + 1) 5 hs (by omega) (by omega) (by omega)
  rw [e2]; simp only [Option.bind_some]
  rw [spec_ColoursAfter_f _ _ _ (by omega) (by omega)]; simp only [Option.bind_some]
  have hj : ∀ x q' a b c d, 0 ≤ q' → q' ≤ 900000 → ∃ a' b' c' d' q'', spec_l20Colours.j0 (k + 1) x s q' a b c d = some (a', b', c', d', q'') := by
    intro x q' a b c d r0 r1
    simp only [spec_l20Colours.j0]
    split
    · obtain ⟨w1, f1, _⟩ := pick_f (k := k) (p := q') 5 hs (by omega) (by omega) (by omega)
      rw [f1]; simp only [Option.bind_some]
      obtain ⟨w2, f2, _⟩ := pick_f (k := k) (p := q' + 1) 5 hs (by omega) (by omega) (by omega)
      rw [f2]; simp only [Option.bind_some]
      obtain ⟨w3, f3, _⟩ := pick_f (k := k) (p := q' + 1 + 1) 5 hs (by omega) (by omega) (by omega)
      rw [f3]; simp only [Option.bind_some]
      obtain ⟨w4, f4, _⟩ := pick_f (k := k) (p := q' + 1 + 1 + 1) 5 hs (by omega) (by omega) (by omega)
      rw [f4]; simp only [Option.bind_some]
      exact ⟨_, _, _, _, _, rfl⟩
    · exact ⟨_, _, _, _, _, rfl⟩
  split
  · obtain ⟨o, q', ho, r0, r1⟩ := odd_f (k := k + 1) (p := q + 1 + 1) 8 hs (by omega) (by omega) (by omega)
    rw [ho]; simp only [Option.bind_some]
    exact hj _ _ _ _ _ _ (by omega) (by omega)
  · exact hj _ _ _ _ _ _ (by omega) (by omega)

-- frac
/-- A fraction in lowest terms, as FractionOk tells it. -/
def Frac (a b : Int) : Prop := (-1000000 ≤ a ∧ a ≤ 1000000) ∧ (0 ≤ b ∧ b ≤ 1000000) ∧ Int.gcd a b = 1 ∧ (b = 0 → a = 1)
instance (a b : Int) : Decidable (Frac a b) := by unfold Frac; infer_instance

-- lowmath
/-- Two numbers in lowest terms. -/
def lowv (a b : Int) : Int × Int := if b < 0 ∨ (b = 0 ∧ a < 0) then (Int.tdiv a (-(Int.gcd a b : Int)), Int.tdiv b (-(Int.gcd a b : Int))) else (Int.tdiv a (Int.gcd a b : Int), Int.tdiv b (Int.gcd a b : Int))
theorem gcd_ne {a b : Int} (h : ¬ (a = 0 ∧ b = 0)) : Int.gcd a b ≠ 0 := by
  intro x; rw [Int.gcd_eq_zero_iff] at x; exact h x
theorem tdiv_wrap {a g : Int} (h : a.natAbs ≤ 9223372036854775807) : wrap64 (Int.tdiv a g) = Int.tdiv a g := by
  have := Nat.div_le_self a.natAbs g.natAbs
  have e : (Int.tdiv a g).natAbs = a.natAbs / g.natAbs := Int.natAbs_tdiv a g
  rw [← e] at this
  exact wrap64_in (by omega) (by omega)
theorem gcd_le_abs {a b : Int} (h : ¬ (a = 0 ∧ b = 0)) : (Int.gcd a b) ≤ a.natAbs + b.natAbs := by
  by_cases ha : a = 0
  · subst ha; rw [Int.gcd_zero_left]; omega
  · have := Int.gcd_le_natAbs_left (b := b) ha; omega

-- lowestof
/-- What LowestOf answers. -/
def LowOk (a b : Int) : Prop := (-1000000 ≤ a ∧ a ≤ 1000000) ∧ (-1000000 ≤ b ∧ b ≤ 1000000) ∧ ¬ (a = 0 ∧ b = 0)
instance (a b : Int) : Decidable (LowOk a b) := by unfold LowOk; infer_instance
def lowofv (a b : Int) : Int × Int × Bool := if LowOk a b then ((lowv a b).1, (lowv a b).2, true) else (0, 0, false)

-- balmath
def PartP (a : Int) : Prop := -1000000 ≤ a ∧ a ≤ 1000000
instance (a : Int) : Decidable (PartP a) := by unfold PartP; infer_instance
/-- Colours are balanced. -/
def BalP (a b c d : Int) : Prop := PartP a ∧ PartP b ∧ PartP c ∧ PartP d ∧ a + d = b + c
instance (a b c d : Int) : Decidable (BalP a b c d) := by unfold BalP; infer_instance
def toldv (a b c d : Int) : Int × Int × Bool := if BalP a b c d then lowofv (b - a) (b - d) else (0, 0, false)
theorem bal_end {a b c d : Int} (h1 : PartP a) (h2 : PartP b) (h3 : PartP c) (h4 : PartP d) : some ((wrap64 (a + d)) == (wrap64 (b + c))) = some (decide (BalP a b c d)) := by
  unfold PartP at h1 h2 h3 h4
  rw [wrap64_in (by omega) (by omega), wrap64_in (by omega) (by omega)]
  exact dec_iff ⟨fun x => ⟨h1, h2, h3, h4, x⟩, fun x => x.2.2.2.2⟩

-- impl_isPart
theorem impl_isPart_f (a : Int) : impl_isPart.f a = some (decide (-1000000 ≤ a ∧ a ≤ 1000000)) := by
  unfold impl_isPart.f
  by_cases h : -1000000 ≤ a
  · rw [if_pos h]; exact dec_iff ⟨fun x => ⟨h, x⟩, fun x => x.2⟩
  · rw [if_neg h]; exact (dec_false (fun x => h x.1)).symm

-- impl_isBalanced
theorem impl_isBalanced_f (a b c d : Int) : impl_isBalanced.f a b c d = some (decide (BalP a b c d)) := by
  unfold impl_isBalanced.f
  simp only [impl_isPart_f, Option.bind_some, decide_eq_true_eq]
  by_cases h1 : -1000000 ≤ a ∧ a ≤ 1000000
  · rw [if_pos h1]
    by_cases h2 : -1000000 ≤ b ∧ b ≤ 1000000
    · rw [if_pos h2]
      by_cases h3 : -1000000 ≤ c ∧ c ≤ 1000000
      · rw [if_pos h3]
        by_cases h4 : -1000000 ≤ d ∧ d ≤ 1000000
        · rw [if_pos h4]; exact bal_end h1 h2 h3 h4
        · rw [if_neg h4]; exact (dec_false (fun x => h4 x.2.2.2.1)).symm
      · rw [if_neg h3]; exact (dec_false (fun x => h3 x.2.2.1)).symm
    · rw [if_neg h2]; exact (dec_false (fun x => h2 x.2.1)).symm
  · rw [if_neg h1]; exact (dec_false (fun x => h1 x.1)).symm

-- impl_gcd
theorem impl_gcd_l0 (n : Nat) : ∀ (a b : Int), b.natAbs ≤ n → a.natAbs ≤ 9223372036854775807 → b.natAbs ≤ 9223372036854775807 → ∀ k, n < k → impl_gcd.l0 k a b = some (Int.gcd a b : Int) := by
  induction n with
  | zero =>
    intro a b hb ha _ k hk
    obtain ⟨k, rfl⟩ : ∃ m, k = m + 1 := ⟨k - 1, by omega⟩
    obtain rfl : b = 0 := by omega
    simp only [impl_gcd.l0]
    rw [if_pos trivial, mx_abs (by omega) (by omega), Int.gcd_zero_right]
  | succ n ih =>
    intro a b hb ha hb' k hk
    obtain ⟨k, rfl⟩ : ∃ m, k = m + 1 := ⟨k - 1, by omega⟩
    simp only [impl_gcd.l0]
    by_cases h : b = 0
    · subst h; rw [if_pos rfl, mx_abs (by omega) (by omega), Int.gcd_zero_right]
    · have := natAbs_tmod_lt a h
      rw [if_neg h, ih b (Int.tmod a b) (by omega) hb' (by omega) k (by omega), gcd_tmod]
theorem impl_gcd_f {a b : Int} {k : Nat} (ha : a.natAbs ≤ 9223372036854775807) (hb : b.natAbs ≤ 9223372036854775807) (hk : b.natAbs < k) : impl_gcd.f k a b = some (Int.gcd a b : Int) :=
  impl_gcd_l0 b.natAbs a b (Nat.le_refl _) ha hb k hk

-- impl_lowest
theorem impl_lowest_f {a b : Int} {k : Nat} (h : ¬ (a = 0 ∧ b = 0)) (ha : a.natAbs ≤ 1000000) (hb : b.natAbs ≤ 1000000) (hk : 1000001 ≤ k) : impl_lowest.f k a b = some (lowv a b) := by
  unfold impl_lowest.f
  rw [impl_gcd_f (by omega) (by omega) (by omega)]; simp only [Option.bind_some]
  have hg := gcd_ne h
  have hl := gcd_le_abs h
  rw [wrap64_in (n := -((Int.gcd a b : Nat) : Int)) (by omega) (by omega)]
  unfold lowv
  by_cases h1 : b < 0
  · rw [if_pos h1, if_neg (by omega), if_pos (.inl h1), tdiv_wrap (by omega), tdiv_wrap (by omega)]
  · rw [if_neg h1]
    by_cases h2 : b = 0
    · rw [if_pos h2]
      by_cases h3 : a < 0
      · rw [if_pos h3, if_neg (by omega), if_pos (.inr ⟨h2, h3⟩), tdiv_wrap (by omega), tdiv_wrap (by omega)]
      · rw [if_neg h3, if_neg (by omega), if_neg (by omega), tdiv_wrap (by omega), tdiv_wrap (by omega)]
    · rw [if_neg h2, if_neg (by omega), if_neg (by omega), tdiv_wrap (by omega), tdiv_wrap (by omega)]

-- impl_LowestOf
theorem impl_LowestOf_f (a b : Int) {k : Nat} (hk : 1000001 ≤ k) : impl_LowestOf.f k a b = some (lowofv a b) := by
  unfold impl_LowestOf.f
  simp only [impl_isPart_f, Option.bind_some, decide_eq_true_eq]
  unfold lowofv
  by_cases h1 : -1000000 ≤ a ∧ a ≤ 1000000
  · rw [if_pos h1]
    by_cases h2 : -1000000 ≤ b ∧ b ≤ 1000000
    · rw [if_pos h2]
      by_cases h3 : a = 0
      · rw [if_pos h3]
        by_cases h4 : b = 0
        · rw [if_pos h4, if_neg (show ¬ LowOk a b from fun x => x.2.2 ⟨h3, h4⟩)]
        · rw [if_neg h4, impl_lowest_f (by omega) (by omega) (by omega) hk, if_pos (show LowOk a b from ⟨h1, h2, fun x => h4 x.2⟩)]; rfl
      · rw [if_neg h3, impl_lowest_f (by omega) (by omega) (by omega) hk, if_pos (show LowOk a b from ⟨h1, h2, fun x => h3 x.1⟩)]; rfl
    · rw [if_neg h2, if_neg (show ¬ LowOk a b from fun x => h2 x.2.1)]
  · rw [if_neg h1, if_neg (show ¬ LowOk a b from fun x => h1 x.1)]

-- impl_ToldBy
theorem impl_ToldBy_f (a b c d : Int) {k : Nat} (hk : 1000002 ≤ k) : impl_ToldBy.f k a b c d = some (toldv a b c d) := by
  unfold impl_ToldBy.f toldv
  rw [impl_isBalanced_f]; simp only [Option.bind_some, decide_eq_true_eq]
  by_cases h : BalP a b c d
  · have h1 := h.1
    have h2 := h.2.1
    have h4 := h.2.2.2.1
    unfold PartP at h1 h2 h4
    rw [if_pos h, if_pos h, wrap64_in (by omega) (by omega), wrap64_in (by omega) (by omega), impl_LowestOf_f _ _ (by omega)]; rfl
  · rw [if_neg h, if_neg h]

-- spec_BalancedOk
theorem spec_BalancedOk_f (a b c d : Int) : spec_BalancedOk.f a b c d = some (decide (BalP a b c d)) := by
  unfold spec_BalancedOk.f
  simp only [spec_l1In_f, Option.bind_some, decide_eq_true_eq]
  by_cases h1 : -1000000 ≤ a ∧ a ≤ 1000000
  · rw [if_pos h1]
    by_cases h2 : -1000000 ≤ b ∧ b ≤ 1000000
    · rw [if_pos h2]
      by_cases h3 : -1000000 ≤ c ∧ c ≤ 1000000
      · rw [if_pos h3]
        by_cases h4 : -1000000 ≤ d ∧ d ≤ 1000000
        · rw [if_pos h4]; exact bal_end h1 h2 h3 h4
        · rw [if_neg h4]; exact (dec_false (fun x => h4 x.2.2.2.1)).symm
      · rw [if_neg h3]; exact (dec_false (fun x => h3 x.2.2.1)).symm
    · rw [if_neg h2]; exact (dec_false (fun x => h2 x.2.1)).symm
  · rw [if_neg h1]; exact (dec_false (fun x => h1 x.1)).symm

-- spec_l1Common
theorem spec_l1Common_l0 (n : Nat) : ∀ (a b : Int), b.natAbs ≤ n → 0 ≤ a → 0 ≤ b → ∀ k, n < k → spec_l1Common.l0 k a b = some (Int.gcd a b : Int) := by
  induction n with
  | zero =>
    intro a b hb ha _ k hk
    obtain ⟨k, rfl⟩ : ∃ m, k = m + 1 := ⟨k - 1, by omega⟩
    obtain rfl : b = 0 := by omega
    simp only [spec_l1Common.l0]
    rw [if_neg (by omega), Int.gcd_zero_right]
    congr 1; omega
  | succ n ih =>
    intro a b hb ha hb' k hk
    obtain ⟨k, rfl⟩ : ∃ m, k = m + 1 := ⟨k - 1, by omega⟩
    simp only [spec_l1Common.l0]
    by_cases h : b = 0
    · subst h; rw [if_neg (by omega), Int.gcd_zero_right]; congr 1; omega
    · have := natAbs_tmod_lt a h
      rw [if_pos (by omega), if_neg h, ih b (Int.tmod a b) (by omega) hb' (Int.tmod_nonneg _ ha) k (by omega), gcd_tmod]
theorem spec_l1Common_f {a b : Int} {k : Nat} (ha : a.natAbs ≤ 9223372036854775807) (hb : b.natAbs ≤ 9223372036854775807) (hk : b.natAbs < k) : spec_l1Common.f k a b = some (Int.gcd a b : Int) := by
  unfold spec_l1Common.f
  rw [mx_abs (by omega) (by omega), mx_abs (by omega) (by omega), spec_l1Common_l0 b.natAbs _ _ (by omega) (by omega) (by omega) k hk]
  rfl

-- spec_LowestOf
theorem spec_LowestOf_f (a b : Int) {k : Nat} (hk : 1000002 ≤ k) : spec_LowestOf.f k a b = some (lowofv a b) := by
  obtain ⟨k, rfl⟩ : ∃ m, k = m + 1 := ⟨k - 1, by omega⟩
  unfold spec_LowestOf.f
  simp only [spec_l1In_f, Option.bind_some, decide_eq_true_eq]
  unfold lowofv
  by_cases h : LowOk a b
  · rw [if_pos h.1, if_pos h.2.1, if_pos h]
    have e : (if a = 0 then spec_LowestOf.j0 (k + 1) a b (b == 0) else spec_LowestOf.j0 (k + 1) a b false) = spec_LowestOf.j0 (k + 1) a b false := by
      by_cases h3 : a = 0
      · rw [if_pos h3, show (b == 0) = false from by simp; exact fun x => h.2.2 ⟨h3, x⟩]
      · rw [if_neg h3]
    rw [e]
    have h1 := h.1
    have h2 := h.2.1
    simp only [spec_LowestOf.j0]
    rw [if_neg (by decide), spec_l1Common_f (by omega) (by omega) (by omega)]; simp only [Option.bind_some]
    have hg := gcd_ne h.2.2
    have hl := gcd_le_abs h.2.2
    rw [wrap64_in (n := -((Int.gcd a b : Nat) : Int)) (by omega) (by omega)]
    unfold lowv
    by_cases h1 : b < 0
    · rw [if_pos h1, if_neg (by omega), if_pos (.inl h1), tdiv_wrap (by omega), tdiv_wrap (by omega)]
    · rw [if_neg h1]
      by_cases h2 : b = 0
      · rw [if_pos h2]
        by_cases h3 : a < 0
        · rw [if_pos h3, if_neg (by omega), if_pos (.inr ⟨h2, h3⟩), tdiv_wrap (by omega), tdiv_wrap (by omega)]
        · rw [if_neg h3, if_neg (by omega), if_neg (by omega), tdiv_wrap (by omega), tdiv_wrap (by omega)]
      · rw [if_neg h2, if_neg (by omega), if_neg (by omega), tdiv_wrap (by omega), tdiv_wrap (by omega)]
  · rw [if_neg h]
    have e : spec_LowestOf.j0 (k + 1) a b true = some (0, 0, false) := by simp only [spec_LowestOf.j0]; rw [if_pos trivial]
    by_cases h1 : -1000000 ≤ a ∧ a ≤ 1000000
    · rw [if_pos h1]
      by_cases h2 : -1000000 ≤ b ∧ b ≤ 1000000
      · rw [if_pos h2]
        have h3 : a = 0 ∧ b = 0 := by
          by_cases x : a = 0 ∧ b = 0
          · exact x
          · exact absurd ⟨h1, h2, x⟩ h
        rw [if_pos h3.1, h3.2]
        rw [h3.2] at e
        exact e
      · rw [if_neg h2, e]
    · rw [if_neg h1, e]

-- spec_ToldBy
theorem spec_ToldBy_f (a b c d : Int) {k : Nat} (hk : 1000002 ≤ k) : spec_ToldBy.f k a b c d = some (toldv a b c d) := by
  unfold spec_ToldBy.f toldv
  rw [spec_BalancedOk_f]; simp only [Option.bind_some, decide_eq_true_eq]
  by_cases h : BalP a b c d
  · have h1 := h.1
    have h2 := h.2.1
    have h4 := h.2.2.2.1
    unfold PartP at h1 h2 h4
    rw [if_pos h, if_pos h, wrap64_in (by omega) (by omega), wrap64_in (by omega) (by omega), spec_LowestOf_f _ _ hk]; rfl
  · rw [if_neg h, if_neg h]

-- impl_isFraction
theorem impl_isFraction_f (a b : Int) {k : Nat} (hk : 1000001 ≤ k) : impl_isFraction.f k a b = some (decide (Frac a b)) := by
  unfold impl_isFraction.f
  rw [impl_isPart_f]; simp only [Option.bind_some, decide_eq_true_eq]
  by_cases h1 : -1000000 ≤ a ∧ a ≤ 1000000
  · rw [if_pos h1]
    by_cases h2 : b < 0
    · rw [if_pos h2]; exact (dec_false (fun x => by have := x.2.1; omega)).symm
    · rw [if_neg h2]
      by_cases h2' : b > 1000000
      · rw [if_pos h2']; exact (dec_false (fun x => by have := x.2.1; omega)).symm
      · rw [if_neg h2', impl_gcd_f (by omega) (by omega) (by omega)]; simp only [Option.bind_some]
        have hb : (((Int.gcd a b : Nat) : Int) == 1) = decide (Int.gcd a b = 1) := by
          rw [Bool.eq_iff_iff]; simp; omega
        rw [hb]
        by_cases h4 : b = 0
        · rw [if_pos h4]
          by_cases h5 : a = 1
          · rw [if_pos h5]; exact dec_iff ⟨fun h => ⟨h1, by omega, h, fun _ => h5⟩, fun h => h.2.2.1⟩
          · rw [if_neg h5]; exact (dec_false (fun x => h5 (x.2.2.2 h4))).symm
        · rw [if_neg h4]; exact dec_iff ⟨fun h => ⟨h1, by omega, h, fun h' => absurd h' h4⟩, fun h => h.2.2.1⟩
  · rw [if_neg h1]; exact (dec_false (fun x => h1 x.1)).symm

-- impl_FractionOk
theorem impl_FractionOk_f (a b : Int) {k : Nat} (hk : 1000001 ≤ k) : impl_FractionOk.f k a b = some (decide (Frac a b)) := by
  unfold impl_FractionOk.f; rw [impl_isFraction_f _ _ hk]; rfl

-- alive
theorem alive_f {k : Nat} (hk : 1000001 ≤ k) : laws_alive.f k = some true := by
  unfold laws_alive.f impl_FractionOk.f
  simp only [impl_isFraction_f _ _ hk, Option.bind_some]
  rw [if_pos (by decide)]
  congr 1

-- lowfrac
theorem tdiv_coprime {u v : Int} (h : ¬ (u = 0 ∧ v = 0)) (g : Int) (hg : g.natAbs = Int.gcd u v) : Int.gcd (Int.tdiv u g) (Int.tdiv v g) = 1 := by
  have h0 := gcd_ne h
  have e1 : (Int.tdiv u g).natAbs = u.natAbs / g.natAbs := Int.natAbs_tdiv u g
  have e2 : (Int.tdiv v g).natAbs = v.natAbs / g.natAbs := Int.natAbs_tdiv v g
  unfold Int.gcd
  rw [e1, e2, hg]
  exact Nat.coprime_div_gcd_div_gcd (show 0 < Nat.gcd u.natAbs v.natAbs from Nat.pos_of_ne_zero h0)
theorem lowv_frac {u v : Int} (h : LowOk u v) : Frac (lowv u v).1 (lowv u v).2 := by
  have h1 := h.1
  have h2 := h.2.1
  have h3 := h.2.2
  have h0 := gcd_ne h3
  have key : ∀ (x g : Int), x.natAbs ≤ 1000000 → (Int.tdiv x g).natAbs ≤ 1000000 := by
    intro x g hx
    have := Nat.div_le_self x.natAbs g.natAbs
    have e : (Int.tdiv x g).natAbs = x.natAbs / g.natAbs := Int.natAbs_tdiv x g
    omega
  unfold lowv
  split
  · rename_i hc
    have k1 := key u (-((Int.gcd u v : Nat) : Int)) (by omega)
    have k2 := key v (-((Int.gcd u v : Nat) : Int)) (by omega)
    have hn : 0 ≤ Int.tdiv v (-((Int.gcd u v : Nat) : Int)) := by
      obtain ⟨w, hw⟩ : ∃ w : Nat, v = -(w : Int) := ⟨v.natAbs, by omega⟩
      generalize Int.gcd u v = g
      rw [hw, Int.tdiv_neg, Int.neg_tdiv, Int.neg_neg]
      exact Int.tdiv_nonneg (by omega) (by omega)
    refine ⟨by simp only; omega, by simp only; omega, tdiv_coprime h3 _ (by omega), ?_⟩
    intro hz
    simp only at hz ⊢
    by_cases hv : v = 0
    · subst hv
      rw [Int.gcd_zero_right]
      have : -((u.natAbs : Nat) : Int) = u := by omega
      rw [this]; exact Int.tdiv_self (by omega)
    · exfalso
      have e : (Int.tdiv v (-((Int.gcd u v : Nat) : Int))).natAbs = v.natAbs / (-((Int.gcd u v : Nat) : Int)).natAbs := Int.natAbs_tdiv v _
      rw [hz] at e
      have hl : Int.gcd u v ≤ v.natAbs := Int.gcd_le_natAbs_right (a := u) hv
      have := Nat.div_pos (show (-((Int.gcd u v : Nat) : Int)).natAbs ≤ v.natAbs by omega) (by omega)
      omega
  · rename_i hc
    have k1 := key u ((Int.gcd u v : Nat) : Int) (by omega)
    have k2 := key v ((Int.gcd u v : Nat) : Int) (by omega)
    have hn : 0 ≤ Int.tdiv v ((Int.gcd u v : Nat) : Int) := Int.tdiv_nonneg (by omega) (by omega)
    refine ⟨by simp only; omega, by simp only; omega, tdiv_coprime h3 _ (by omega), ?_⟩
    intro hz
    simp only at hz ⊢
    by_cases hv : v = 0
    · subst hv
      rw [Int.gcd_zero_right]
      have : ((u.natAbs : Nat) : Int) = u := by omega
      rw [this]; exact Int.tdiv_self (by omega)
    · exfalso
      have e : (Int.tdiv v ((Int.gcd u v : Nat) : Int)).natAbs = v.natAbs / ((Int.gcd u v : Nat) : Int).natAbs := Int.natAbs_tdiv v _
      rw [hz] at e
      have hl : Int.gcd u v ≤ v.natAbs := Int.gcd_le_natAbs_right (a := u) hv
      have := Nat.div_pos (show (((Int.gcd u v : Nat) : Int)).natAbs ≤ v.natAbs by omega) (by omega)
      omega
/-- A common divisor doesn't matter. -/
theorem lowv_mul (c : Int) (hc : 0 < c) (u v : Int) : lowv (c * u) (c * v) = lowv u v := by
  unfold lowv
  have e : ((Int.gcd (c * u) (c * v) : Nat) : Int) = c * ((Int.gcd u v : Nat) : Int) := by
    rw [Int.gcd_mul_left, Int.natCast_mul]
    congr 1; omega
  rw [e]
  have s1 : c * v < 0 ↔ v < 0 := by
    constructor
    · intro h
      by_cases hv : v < 0
      · exact hv
      · exfalso; have := Int.mul_nonneg (show 0 ≤ c by omega) (show 0 ≤ v by omega); omega
    · intro h; exact Int.mul_neg_of_pos_of_neg hc h
  have s2 : c * u < 0 ↔ u < 0 := by
    constructor
    · intro h
      by_cases hu : u < 0
      · exact hu
      · exfalso; have := Int.mul_nonneg (show 0 ≤ c by omega) (show 0 ≤ u by omega); omega
    · intro h; exact Int.mul_neg_of_pos_of_neg hc h
  have s3 : c * v = 0 ↔ v = 0 := by
    rw [Int.mul_eq_zero]; omega
  rw [← Int.mul_neg]
  by_cases hcond : v < 0 ∨ (v = 0 ∧ u < 0)
  · rw [if_pos hcond, if_pos (by rw [s1, s2, s3]; exact hcond), Int.mul_tdiv_mul_of_pos _ _ hc, Int.mul_tdiv_mul_of_pos _ _ hc]
  · rw [if_neg hcond, if_neg (by rw [s1, s2, s3]; exact hcond), Int.mul_tdiv_mul_of_pos _ _ hc, Int.mul_tdiv_mul_of_pos _ _ hc]

theorem FnToldBy : laws_FnToldBy.Pure := by
  intro l _ _ hw
  obtain ⟨k, hk⟩ := bigk
  obtain ⟨k, rfl⟩ : ∃ m, k = m + 1 := ⟨k - 1, by omega⟩
  refine ⟨k + 1, ?_⟩
  unfold laws_FnToldBy.f spec_DrawToldBy.f
  refine ite_to (fun _ => rfl) (fun _ => ?_)
  obtain ⟨s, hs, hr⟩ := open_f hw
  rw [hs]; simp only [Option.bind_some]
  obtain ⟨a, b, c, d, q, hd⟩ := l20Colours_f (k := k + 1) (p := 0) hr (by omega) (by omega) (by omega)
  rw [hd]; simp only [Option.bind_some]
  rw [impl_ToldBy_f a b c d (by omega), spec_ToldBy_f _ _ _ _ (by omega)]; simp only [Option.bind_some]
  rw [if_neg (by simp), show ((toldv a b c d).2.2 != (toldv a b c d).2.2) = false by simp]
  simp only [laws_FnToldBy.j0]
  rw [if_neg (by decide)]
  by_cases h : BalP a b c d ∧ LowOk (b - a) (b - d)
  · have e : toldv a b c d = ((lowv (b - a) (b - d)).1, (lowv (b - a) (b - d)).2, true) := by
      unfold toldv lowofv; rw [if_pos h.1, if_pos h.2]
    have p1 := h.1.1
    have p2 := h.1.2.1
    have p3 := h.1.2.2.1
    have p4 := h.1.2.2.2.1
    unfold PartP at p1 p2 p3 p4
    rw [e]; simp only
    rw [if_pos trivial, wrap64_in (n := a + 1) (by omega) (by omega), wrap64_in (n := b + 1) (by omega) (by omega), wrap64_in (n := c + 1) (by omega) (by omega), wrap64_in (n := d + 1) (by omega) (by omega), wrap64_in (n := 2 * a) (by omega) (by omega), wrap64_in (n := 2 * b) (by omega) (by omega), wrap64_in (n := 2 * c) (by omega) (by omega), wrap64_in (n := 2 * d) (by omega) (by omega)]
    rw [impl_ToldBy_f _ _ _ _ (by omega), impl_ToldBy_f _ _ _ _ (by omega), impl_FractionOk_f _ _ (by omega)]; simp only [Option.bind_some]
    rw [if_pos (decide_eq_true (lowv_frac h.2))]
    have more : toldv (a + 1) (b + 1) (c + 1) (d + 1) = (0, 0, false) ∨ toldv (a + 1) (b + 1) (c + 1) (d + 1) = ((lowv (b - a) (b - d)).1, (lowv (b - a) (b - d)).2, true) := by
      unfold toldv
      split
      · right
        rw [show b + 1 - (a + 1) = b - a by omega, show b + 1 - (d + 1) = b - d by omega]
        unfold lowofv; rw [if_pos h.2]
      · left; rfl
    have twice : toldv (2 * a) (2 * b) (2 * c) (2 * d) = (0, 0, false) ∨ toldv (2 * a) (2 * b) (2 * c) (2 * d) = ((lowv (b - a) (b - d)).1, (lowv (b - a) (b - d)).2, true) := by
      unfold toldv
      split
      · rw [show 2 * b - 2 * a = 2 * (b - a) by omega, show 2 * b - 2 * d = 2 * (b - d) by omega]
        unfold lowofv
        split
        · right; rw [lowv_mul 2 (by omega)]
        · left; rfl
      · left; rfl
    rcases more with m | m <;> rcases twice with t | t <;> (rw [m, t]; simp)
  · have e : toldv a b c d = (0, 0, false) := by
      unfold toldv lowofv
      split
      · split
        · rename_i h1 h2; exact absurd ⟨h1, h2⟩ h
        · rfl
      · rfl
    rw [e]; simp only
    rw [if_neg (by decide), if_pos (by decide), alive_f (by omega)]; rfl

end Go.Proofs.Ytblbkmjneeeodaa.Pure
