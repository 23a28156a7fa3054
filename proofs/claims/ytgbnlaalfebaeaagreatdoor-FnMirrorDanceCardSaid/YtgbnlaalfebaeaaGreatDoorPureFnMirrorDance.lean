/- FnMirrorDance: MirrorDance answers as the reference's does; the dance in the mirror leads to the mirror of where the dance leads; twice it is the dance; at every draw. -/
import Derived.Lib.AtoiAll
import Derived.Lib.ItoaNum
import Derived.Test.YtgbnlaalfebaeaaGreatDoorPFnMirrorDancex0
import Derived.Test.YtgbnlaalfebaeaaGreatDoorPFnMirrorDancex1
import Derived.Test.YtgbnlaalfebaeaaGreatDoorPFnMirrorDancex2
import Derived.Test.YtgbnlaalfebaeaaGreatDoorPFnMirrorDancex3
import Derived.Test.YtgbnlaalfebaeaaGreatDoorPFnMirrorDancex4
import Derived.Test.YtgbnlaalfebaeaaGreatDoorPFnMirrorDancex5
set_option linter.unusedVariables false
set_option linter.unusedSimpArgs false
namespace Go.Proofs.YtgbnlaalfebaeaaGreatDoor.Pure
open Go.RowKit Go.Proofs.YtgbnlaalfebaeaaGreatDoor.PFnMirrorDance Go.Proofs.YtgbnlaalfebaeaaGreatDoorW.PrintWords Go.Proofs.YtgbnlaalfebaeaaGreatDoorW.PrintLast Go.Proofs.YtgbnlaalfebaeaaGreatDoorW.PrintMore Go.Proofs.YtgbnlaalfebaeaaGreatDoor.Lib

-- base
theorem wrap64_in {n : Int} (h : -9223372036854775808 ≤ n) (h' : n ≤ 9223372036854775807) : wrap64 n = n := by unfold wrap64; omega
theorem i64_of_wf {n : Int} (h : (Lit.int .i64 n).wf = true) : -9223372036854775808 ≤ n ∧ n ≤ 9223372036854775807 := by
  simpa [Lit.wf, IntKind.min, IntKind.max, IntKind.signed, IntKind.bits] using h
theorem bigk : ∃ k : Nat, 1000000000 ≤ k := ⟨1000000000, Nat.le_refl _⟩
theorem dec_true {p : Prop} [Decidable p] (h : p) : some (decide p) = some true := by simp [h]
theorem dec_false {p : Prop} [Decidable p] (h : ¬ p) : some (decide p) = some false := by simp [h]
theorem dec_iff {p q : Prop} [Decidable p] [Decidable q] (h : p ↔ q) : some (decide p) = some (decide q) := by simp [h]
theorem ite_to {c : Prop} [Decidable c] {α : Type} {x y z : α} (h1 : c → x = z) (h2 : ¬ c → y = z) : (if c then x else y) = z := by
  by_cases h : c
  · rw [if_pos h]; exact h1 h
  · rw [if_neg h]; exact h2 h

-- gcdmath
theorem natAbs_tmod_lt (a : Int) {b : Int} (h : b ≠ 0) : (Int.tmod a b).natAbs < b.natAbs := by
  rw [Int.natAbs_tmod]
  exact Nat.mod_lt _ (by omega)
theorem gcd_tmod (a b : Int) : Int.gcd b (Int.tmod a b) = Int.gcd a b := by
  unfold Int.gcd
  rw [Int.natAbs_tmod, Nat.gcd_comm a.natAbs, Nat.gcd_rec b.natAbs a.natAbs, Nat.gcd_comm]
theorem mx_abs {a : Int} (h : -9223372036854775808 < a) (h' : a ≤ 9223372036854775807) : mx a (wrap64 (-a)) = (a.natAbs : Int) := by
  rw [wrap64_in (by omega) (by omega)]; unfold mx; split <;> omega

-- draw
/-- The bytes that a draw reads. -/
def RdOk (s : List Int) : Prop := s.length ≤ 2000 ∧ ∀ x ∈ s, 0 ≤ x ∧ x ≤ 255
theorem rd_bd {s : List Int} (h : RdOk s) (i : Int) : 0 ≤ rd s i ∧ rd s i ≤ 255 := by
  unfold rd
  by_cases hi : i.toNat < s.length
  · have e : s.getD i.toNat 0 = s[i.toNat] := by simp [hi]
    rw [e]; exact h.2 _ (List.getElem_mem hi)
  · have e : s.getD i.toNat 0 = 0 := by simp; rw [List.getElem?_eq_none (by omega)]; rfl
    rw [e]; omega
theorem xor_nonneg {x y : Int} (hx : 0 ≤ x) (hx' : x < 4611686018427387904) (hy : 0 ≤ y) (hy' : y < 4611686018427387904) : 0 ≤ Go.bits .xor .i64 x y := by
  unfold Go.bits
  simp only
  obtain ⟨a, rfl⟩ := Int.eq_ofNat_of_zero_le hx
  obtain ⟨b, rfl⟩ := Int.eq_ofNat_of_zero_le hy
  have h64 : IntKind.i64.bits = 64 := rfl
  rw [BitVec.toNat_xor]
  have ea : (BitVec.ofInt IntKind.i64.bits (a : Int)).toNat = a := by
    rw [BitVec.toNat_ofInt, h64]; omega
  have eb : (BitVec.ofInt IntKind.i64.bits (b : Int)).toNat = b := by
    rw [BitVec.toNat_ofInt, h64]; omega
  rw [ea, eb]
  have hl : a ^^^ b < 2 ^ 62 := Nat.xor_lt_two_pow (by omega) (by omega)
  generalize a ^^^ b = c at *
  have : IntKind.i64.wrap (c : Int) = wrap64 (c : Int) := by
    simp [IntKind.wrap, wrap64, IntKind.signed, IntKind.bits]
    try omega
  rw [this, wrap64_in (by omega) (by omega)]
  omega
theorem tmod_range {x n : Int} (hx : 0 ≤ x) (hn : 1 ≤ n) : 0 ≤ Int.tmod x n ∧ Int.tmod x n < n := by
  rw [Int.tmod_eq_emod_of_nonneg hx]
  exact ⟨Int.emod_nonneg _ (by omega), Int.emod_lt_of_pos _ (by omega)⟩
theorem pick_f {s : List Int} {p : Int} (n : Int) {k : Nat} (hs : RdOk s) (hp : 0 ≤ p) (hp' : p ≤ 1000000) (hk : 1 ≤ k) :
    ∃ v, spec_l20Rd_pick.f k s p n = some (v, p + 1) ∧ 0 ≤ v ∧ (1 ≤ n → v < n) ∧ (n < 1 → v = 0) := by
  obtain ⟨k, rfl⟩ : ∃ m, k = m + 1 := ⟨k - 1, by omega⟩
  unfold spec_l20Rd_pick.f
  rw [wrap64_in (n := p + 1) (by omega) (by omega)]
  by_cases hn : n < 1
  · rw [if_pos hn]; simp only [spec_l20Rd_pick.j0]; rw [if_pos trivial]
    exact ⟨0, rfl, by omega, by omega, fun _ => rfl⟩
  · rw [if_neg hn]
    by_cases hl : (s.length : Int) = 0
    · rw [show ((s.length : Int) == 0) = true by simpa using hl]; simp only [spec_l20Rd_pick.j0]; rw [if_pos trivial]
      exact ⟨0, rfl, by omega, by omega, fun _ => rfl⟩
    · rw [show ((s.length : Int) == 0) = false by simpa using hl]; simp only [spec_l20Rd_pick.j0]; rw [if_neg (by decide)]
      have hlen := hs.1
      rw [show p + 1 - 1 = p by omega, wrap64_in (n := p) (by omega) (by omega)]
      by_cases h1 : p < (s.length : Int)
      · have hb := rd_bd hs p
        rw [if_pos h1, if_pos hp, if_neg (by omega), wrap64_in (by omega) (by omega)]
        have ht := tmod_range (n := n) hb.1 (by omega)
        exact ⟨_, rfl, ht.1, fun _ => ht.2, fun x => absurd x hn⟩
      · have t1 := tmod_range (x := p) (n := (s.length : Int)) hp (by omega)
        have t2 := tmod_range (x := p * 7 + 3) (n := (s.length : Int)) (by omega) (by omega)
        rw [if_neg h1, if_neg hl, if_pos t1.1, if_pos t1.2, wrap64_in (n := p * 7) (by omega) (by omega), wrap64_in (n := p * 7 + 3) (by omega) (by omega), if_pos t2.1, if_pos t2.2, if_neg (by omega)]
        have b1 := rd_bd hs (Int.tmod p (s.length : Int))
        have b2 := rd_bd hs (Int.tmod (p * 7 + 3) (s.length : Int))
        generalize rd s (Int.tmod p (s.length : Int)) = r1 at *
        generalize rd s (Int.tmod (p * 7 + 3) (s.length : Int)) = r2 at *
        have q1 : 0 ≤ Int.tdiv p (s.length : Int) ∧ Int.tdiv p (s.length : Int) ≤ p := by
          obtain ⟨a, rfl⟩ := Int.eq_ofNat_of_zero_le hp
          rw [Int.tdiv_eq_ediv_of_nonneg (by omega), ← Int.natCast_ediv]
          have := Nat.div_le_self a s.length
          exact ⟨Int.natCast_nonneg _, by exact_mod_cast this⟩
        generalize Int.tdiv p (s.length : Int) = q at *
        rw [wrap64_in (n := r1) (by omega) (by omega), wrap64_in (n := r1 * 131) (by omega) (by omega), wrap64_in (n := r2) (by omega) (by omega), wrap64_in (n := r2 * 1117) (by omega) (by omega), wrap64_in (n := r1 * 131 + r2 * 1117) (by omega) (by omega), wrap64_in (n := p * 29) (by omega) (by omega), wrap64_in (n := q) (by omega) (by omega), wrap64_in (n := q * 53) (by omega) (by omega), wrap64_in (n := r1 * 131 + r2 * 1117 + p * 29) (by omega) (by omega), wrap64_in (n := r1 * 131 + r2 * 1117 + p * 29 + q * 53) (by omega) (by omega)]
        generalize hX : r1 * 131 + r2 * 1117 + p * 29 + q * 53 = X
        have hX0 : 0 ≤ X := by omega
        have hX1 : X ≤ 1000000000 := by omega
        have d1 : 0 ≤ Int.tdiv X 64 ∧ Int.tdiv X 64 ≤ X := by
          rw [Int.tdiv_eq_ediv_of_nonneg hX0]; omega
        rw [wrap64_in (n := Int.tdiv X 64) (by omega) (by omega)]
        have hx := xor_nonneg (x := X) (y := Int.tdiv X 64) hX0 (by omega) d1.1 (by omega)
        have ht := tmod_range (n := n) hx (by omega)
        exact ⟨_, rfl, ht.1, fun _ => ht.2, fun x => absurd x hn⟩

-- open
theorem u8_of_wf {n : Int} (h : (Lit.int .u8 n).wf = true) : 0 ≤ n ∧ n ≤ 255 := by
  simpa [Lit.wf, IntKind.min, IntKind.max, IntKind.signed, IntKind.bits] using h
theorem open_f {l : List Int} (h : ∀ x ∈ l, (Lit.int .u8 x).wf = true) : ∃ s, spec_l20Open.f l = some (s, 0) ∧ RdOk s := by
  unfold spec_l20Open.f
  by_cases hl : (l.length : Int) > 2000
  · rw [if_pos hl, if_pos (by omega)]
    exact ⟨_, rfl, by rw [List.length_take]; omega, fun x hx => u8_of_wf (h x (List.mem_of_mem_take hx))⟩
  · rw [if_neg hl]
    exact ⟨_, rfl, by omega, fun x hx => u8_of_wf (h x hx)⟩

-- odd
theorem odd_f {s : List Int} {p : Int} (n : Int) {k : Nat} (hs : RdOk s) (hp : 0 ≤ p) (hp' : p ≤ 1000000) (hk : 1 ≤ k) :
    ∃ v q, spec_l20Rd_odd.f k s p n = some (v, q) ∧ p ≤ q ∧ q ≤ p + 1 := by
  unfold spec_l20Rd_odd.f
  by_cases h : n > 0
  · rw [if_pos h]
    obtain ⟨v, hv, _⟩ := pick_f n hs hp hp' hk
    rw [hv]; simp only [Option.bind_some]
    exact ⟨_, _, rfl, by omega, by omega⟩
  · rw [if_neg h]; exact ⟨_, _, rfl, by omega, by omega⟩

-- drawdance
theorem mem_small {L : List ByteArray} {B : Nat} (h : ∀ b ∈ L, b.size ≤ B) (i : Int) : (rdOf ByteArray.empty L i).size ≤ B := by
  unfold rdOf
  by_cases hi : i.toNat < L.length
  · have e : L.getD i.toNat ByteArray.empty = L[i.toNat] := by simp [hi]
    rw [e]; exact h _ (List.getElem_mem hi)
  · have e : L.getD i.toNat ByteArray.empty = ByteArray.empty := by simp; rw [List.getElem?_eq_none (by omega)]; rfl
    rw [e]; exact Nat.zero_le _
theorem l20Dance_l0 {s : List Int} (hs : RdOk s) (x2 : Int) (n : Nat) : ∀ (out : ByteArray) (p : Int) (k : Nat), 0 ≤ p → p + 3 * n ≤ 900000 → out.size + 3 * n ≤ 1000000 → n + 10 < k →
    ∃ d q, spec_l20Dance.l0 k x2 out (n : Int) s p = some (d, q) ∧ d.size ≤ out.size + n + 41 ∧ p ≤ q ∧ q ≤ p + n + 2 := by
  induction n with
  | zero =>
    intro out p k hp hp' ho hk
    obtain ⟨k, rfl⟩ : ∃ m, k = m + 1 := ⟨k - 1, by omega⟩
    simp only [spec_l20Dance.l0]
    rw [if_neg (by omega)]
    obtain ⟨o, q, h1, q0, q1⟩ := odd_f (k := k) (p := p) x2 hs (by omega) (by omega) (by omega)
    rw [h1]; simp only [Option.bind_some]
    split
    · obtain ⟨w, hw, w0, w1, _⟩ := pick_f (k := k) (p := q) 3 hs (by omega) (by omega) (by omega)
      have w1 := w1 (by omega)
      rw [hw]; simp only [Option.bind_some]
      have key : ∀ L : List ByteArray, w < (L.length : Int) → (∀ b ∈ L, b.size ≤ 41) → ∃ d q', (if 0 ≤ w then (if w < (L.length : Int) then (if out.size + (rdOf ByteArray.empty L w).size ≤ 9223372036854775807 then (some (out ++ (rdOf ByteArray.empty L w), q + 1)) else (none)) else (none)) else (none)) = some (d, q') ∧ d.size ≤ out.size + 0 + 41 ∧ p ≤ q' ∧ q' ≤ p + (0 : Nat) + 2 := by
        intro L h1 h2
        have hm := mem_small h2 w
        rw [if_pos w0, if_pos h1, if_pos (by omega)]
        exact ⟨_, _, rfl, by rw [ByteArray.size_append]; omega, by omega, by omega⟩
      exact key _ (by simpa using w1) (by decide)
    · exact ⟨_, _, rfl, by omega, by omega, by omega⟩
  | succ n ih =>
    intro out p k hp hp' ho hk
    obtain ⟨k, rfl⟩ : ∃ m, k = m + 1 := ⟨k - 1, by omega⟩
    simp only [spec_l20Dance.l0, Option.bind_some]
    rw [if_pos (by omega)]
    obtain ⟨w, hw, w0, w1, _⟩ := pick_f (k := k) (p := p) 6 hs (by omega) (by omega) (by omega)
    have w1 := w1 (by omega)
    rw [hw]; simp only [Option.bind_some]
    rw [if_pos w0, if_pos (by simpa using w1)]
    have hm := mem_small (B := 1) (L := [(⟨#[84]⟩ : ByteArray), (⟨#[84]⟩ : ByteArray), (⟨#[82]⟩ : ByteArray), (⟨#[116]⟩ : ByteArray), (⟨#[82]⟩ : ByteArray), (⟨#[84]⟩ : ByteArray)]) (by decide) w
    rw [if_pos (by omega), wrap64_in (by omega) (by omega), show ((n + 1 : Nat) : Int) - 1 = (n : Int) by omega]
    obtain ⟨d, q, e, d1, q0, q1⟩ := ih (out ++ rdOf ByteArray.empty [(⟨#[84]⟩ : ByteArray), (⟨#[84]⟩ : ByteArray), (⟨#[82]⟩ : ByteArray), (⟨#[116]⟩ : ByteArray), (⟨#[82]⟩ : ByteArray), (⟨#[84]⟩ : ByteArray)] w) (p + 1) k (by omega) (by omega) (by rw [ByteArray.size_append]; omega) (by omega)
    rw [ByteArray.size_append] at d1
    exact ⟨d, q, e, by omega, by omega, by omega⟩
theorem l20Dance_f {s : List Int} {p : Int} (most n : Int) {k : Nat} (hs : RdOk s) (hp : 0 ≤ p) (hp' : p ≤ 800000) (hm : 0 ≤ most) (hm' : most ≤ 100) (hk : 1000 ≤ k) :
    ∃ d q, spec_l20Dance.f k s p most n = some (d, q) ∧ d.size ≤ 200 ∧ p ≤ q ∧ q ≤ p + 120 := by
  unfold spec_l20Dance.f
  rw [wrap64_in (n := most + 1) (by omega) (by omega)]
  obtain ⟨w, hw, w0, w1, _⟩ := pick_f (k := k) (p := p) (most + 1) hs (by omega) (by omega) (by omega)
  have w1 := w1 (by omega)
  rw [hw]; simp only [Option.bind_some]
  obtain ⟨w, rfl⟩ := Int.eq_ofNat_of_zero_le w0
  obtain ⟨d, q, e, d1, q0, q1⟩ := l20Dance_l0 hs n w (⟨#[]⟩ : ByteArray) (p + 1) k (by omega) (by omega) (by show 0 + 3 * w ≤ 1000000; omega) (by omega)
  have : (⟨#[]⟩ : ByteArray).size = 0 := rfl
  exact ⟨d, q, e, by omega, by omega, by omega⟩

-- bytes
theorem bt_drop {s : ByteArray} {i : Nat} (h : i < s.size) : ∃ c : UInt8, s.data.toList.drop i = c :: s.data.toList.drop (i + 1) ∧ bt s (i : Int) = ((c.toNat : Nat) : Int) := by
  have hl : i < s.data.toList.length := by simpa using h
  refine ⟨s.data.toList[i], List.drop_eq_getElem_cons hl, ?_⟩
  unfold bt
  rw [dif_pos (by simpa using h)]
  simp
  rfl
theorem drop_end {s : ByteArray} {i : Nat} (h : s.size ≤ i) : s.data.toList.drop i = [] := List.drop_of_length_le (by simpa using h)
theorem toList_length (s : ByteArray) : s.data.toList.length = s.size := by simp
theorem u8_eq {c : UInt8} {n : Nat} (hn : n < 256) : ((c.toNat : Nat) : Int) = (n : Int) ↔ c = UInt8.ofNat n := by
  constructor
  · intro h
    apply UInt8.toNat_inj.1
    rw [UInt8.toNat_ofNat']
    omega
  · intro h
    subst h
    rw [UInt8.toNat_ofNat']
    omega

-- dancemath
def MoveP (c : UInt8) : Prop := c = 84 ∨ c = 116 ∨ c = 82
instance (c : UInt8) : Decidable (MoveP c) := by unfold MoveP; infer_instance
def AllM (l : List UInt8) : Prop := ∀ c ∈ l, MoveP c
instance (l : List UInt8) : Decidable (AllM l) := by unfold AllM; infer_instance
theorem allM_nil : AllM [] := by intro c h; simp at h
theorem allM_cons (c : UInt8) (l : List UInt8) : AllM (c :: l) ↔ MoveP c ∧ AllM l := by unfold AllM; simp
/-- A dance: of at most 40 moves. -/
def DanceL (l : List UInt8) : Prop := l.length ≤ 40 ∧ AllM l
instance (l : List UInt8) : Decidable (DanceL l) := by unfold DanceL; infer_instance
def DanceP (s : ByteArray) : Prop := DanceL s.data.toList
instance (s : ByteArray) : Decidable (DanceP s) := by unfold DanceP; infer_instance

-- digmath
/-- A digit. -/
def DigP (c : UInt8) : Prop := 48 ≤ c.toNat ∧ c.toNat ≤ 57
instance (c : UInt8) : Decidable (DigP c) := by unfold DigP; infer_instance
theorem dig_of {n : Nat} (h : n < 10) : DigP (UInt8.ofNat (48 + n)) ∧ (UInt8.ofNat (48 + n)).toNat = 48 + n := by
  have : (UInt8.ofNat (48 + n)).toNat = 48 + n := by rw [UInt8.toNat_ofNat']; omega
  exact ⟨by unfold DigP; omega, this⟩
theorem dd_small {u : Nat} (h : u < 10) : Go.Lib.decDigits u = [UInt8.ofNat (48 + u)] := by rw [Go.Lib.decDigits, dif_pos h]
theorem dd_big {u : Nat} (h : ¬ u < 10) : Go.Lib.decDigits u = Go.Lib.decDigits (u / 10) ++ [UInt8.ofNat (48 + u % 10)] := by rw [Go.Lib.decDigits, dif_neg h]
theorem dd_all (n : Nat) : ∀ u, u < n → ∀ c ∈ Go.Lib.decDigits u, DigP c := by
  induction n with
  | zero => intro u hu; omega
  | succ n ih =>
    intro u hu c hc
    by_cases h : u < 10
    · rw [dd_small h] at hc
      simp only [List.mem_singleton] at hc
      subst hc; exact (dig_of h).1
    · rw [dd_big h] at hc
      rcases List.mem_append.1 hc with h1 | h1
      · exact ih (u / 10) (by omega) c h1
      · simp only [List.mem_singleton] at h1
        subst h1; exact (dig_of (Nat.mod_lt _ (by omega))).1
theorem dd_digits (u : Nat) : ∀ c ∈ Go.Lib.decDigits u, DigP c := dd_all (u + 1) u (by omega)
theorem dd_length (n : Nat) : ∀ u, u < 10 ^ (n + 1) → (Go.Lib.decDigits u).length ≤ n + 1 := by
  induction n with
  | zero => intro u hu; rw [dd_small (by omega)]; simp
  | succ n ih =>
    intro u hu
    by_cases h : u < 10
    · rw [dd_small h]; simp
    · rw [dd_big h]
      have := ih (u / 10) (by rw [Nat.pow_succ] at hu; omega)
      simp; omega
theorem dd_pos (u : Nat) : 1 ≤ (Go.Lib.decDigits u).length := by
  by_cases h : u < 10
  · rw [dd_small h]; simp
  · rw [dd_big h]; simp
/-- The value of digits, from a value on. -/
def digF (a : Nat) (l : List UInt8) : Nat := l.foldl (fun a c => 10 * a + (c.toNat - 48)) a
theorem digF_append (a : Nat) (l m : List UInt8) : digF a (l ++ m) = digF (digF a l) m := by unfold digF; rw [List.foldl_append]
theorem dd_value (n : Nat) : ∀ u, u < n → digF 0 (Go.Lib.decDigits u) = u := by
  induction n with
  | zero => intro u hu; omega
  | succ n ih =>
    intro u hu
    by_cases h : u < 10
    · rw [dd_small h]; show 10 * 0 + ((UInt8.ofNat (48 + u)).toNat - 48) = u; rw [(dig_of h).2]; omega
    · rw [dd_big h, digF_append, ih (u / 10) (by omega)]
      show 10 * (u / 10) + ((UInt8.ofNat (48 + u % 10)).toNat - 48) = u
      rw [(dig_of (Nat.mod_lt _ (by omega))).2]; omega
theorem dd_val (u : Nat) : digF 0 (Go.Lib.decDigits u) = u := dd_value (u + 1) u (by omega)
theorem dd_head (n : Nat) : ∀ u, u < n → 1 ≤ u → ∃ c r, Go.Lib.decDigits u = c :: r ∧ c.toNat ≠ 48 := by
  induction n with
  | zero => intro u hu; omega
  | succ n ih =>
    intro u hu h1
    by_cases h : u < 10
    · rw [dd_small h]; exact ⟨_, [], rfl, by rw [(dig_of h).2]; omega⟩
    · obtain ⟨c, r, e, hc⟩ := ih (u / 10) (by omega) (by omega)
      rw [dd_big h, e]; exact ⟨c, _, rfl, hc⟩
theorem dd_first (u : Nat) : ∃ c r, Go.Lib.decDigits u = c :: r ∧ DigP c ∧ (1 ≤ u → c.toNat ≠ 48) ∧ (u < 10 → r = []) := by
  by_cases h : u < 10
  · rw [dd_small h]; exact ⟨_, [], rfl, (dig_of h).1, fun h1 => by rw [(dig_of h).2]; omega, fun _ => rfl⟩
  · obtain ⟨c, r, e, hc⟩ := dd_head (u + 1) u (by omega) (by omega)
    exact ⟨c, r, e, dd_digits u c (by rw [e]; simp), fun _ => hc, fun x => absurd x h⟩
/-- Digits read, from a value on; false at another byte. -/
def digL : Int → List UInt8 → Int × Bool
  | a, [] => (a, true)
  | a, c :: r => if DigP c then digL (10 * a + ((c.toNat : Int) - 48)) r else (0, false)
theorem digL_all (l : List UInt8) (h : ∀ c ∈ l, DigP c) : ∀ a : Nat, digL (a : Int) l = (((digF a l : Nat) : Int), true) := by
  induction l with
  | nil => intro a; rfl
  | cons c r ih =>
    intro a
    have hc := h c (by simp)
    simp only [digL]
    rw [if_pos hc]
    have hc' := hc
    unfold DigP at hc'
    rw [show 10 * (a : Int) + ((c.toNat : Int) - 48) = ((10 * a + (c.toNat - 48) : Nat) : Int) by omega, ih (fun c hc => h c (by simp [hc]))]
    rfl
/-- What the reference reads as a number: without a sign. -/
def digs0 (l : List UInt8) : Int × Bool := if (1 ≤ l.length ∧ l.length ≤ 7) ∧ ¬ (1 < l.length ∧ l.head? = some 48) then digL 0 l else (0, false)
/-- What the reference reads as a number. -/
def digsv : List UInt8 → Int × Bool
  | [] => digs0 []
  | [c] => digs0 [c]
  | c :: d :: r => if c = 45 then (-(digsv (d :: r)).1, (digsv (d :: r)).2 && decide ((digsv (d :: r)).1 > 0)) else digs0 (c :: d :: r)
theorem digs0_dd {u : Nat} (h : u < 10000000) : digs0 (Go.Lib.decDigits u) = ((u : Int), true) := by
  unfold digs0
  have h1 := dd_pos u
  have h2 := dd_length 6 u (by omega)
  obtain ⟨c, r, e, hc, hz, hr⟩ := dd_first u
  have no : ¬ (1 < (Go.Lib.decDigits u).length ∧ (Go.Lib.decDigits u).head? = some 48) := by
    rintro ⟨hl, hh⟩
    rw [e] at hl hh
    simp only [List.head?_cons, Option.some.injEq] at hh
    by_cases hu : u < 10
    · rw [hr hu] at hl; simp at hl
    · exact hz (by omega) (by rw [hh]; rfl)
  rw [if_pos ⟨⟨h1, by omega⟩, no⟩]
  have := digL_all _ (dd_digits u) 0
  rw [dd_val] at this
  exact this
theorem digsv_plain {l : List UInt8} (h : ∀ c ∈ l, DigP c) : digsv l = digs0 l := by
  match l, h with
  | [], _ => rfl
  | [c], _ => rfl
  | c :: d :: r, h =>
    simp only [digsv]
    rw [if_neg]
    intro x
    have := (h c (by simp)).1
    rw [x] at this
    exact absurd this (by decide)
theorem digsv_itoa {n : Int} (h : n.natAbs < 10000000) : digsv (Go.Lib.itoa n) = (n, true) := by
  unfold Go.Lib.itoa
  by_cases hn : n < 0
  · rw [if_pos hn]
    obtain ⟨c, r, e, _⟩ := dd_first n.natAbs
    have h1 := digsv_plain (dd_digits n.natAbs)
    rw [digs0_dd h] at h1
    rw [e] at h1 ⊢
    simp only [digsv]
    rw [if_pos trivial, h1]
    simp only [Prod.mk.injEq, Bool.true_and, decide_eq_true_eq]
    omega
  · rw [if_neg hn, digsv_plain (dd_digits _), digs0_dd (by omega)]
    simp only [Prod.mk.injEq, and_true]
    omega
/-- No byte of a numeral but digits and a sign. -/
theorem itoa_mem {n : Int} {c : UInt8} (h : c ∈ Go.Lib.itoa n) : c = 45 ∨ DigP c := by
  unfold Go.Lib.itoa at h
  split at h
  · rcases List.mem_cons.1 h with h1 | h1
    · exact .inl h1
    · exact .inr (dd_digits _ c h1)
  · exact .inr (dd_digits _ c h)
theorem itoa_length {n : Int} (h : n.natAbs < 10000000) : (Go.Lib.itoa n).length ≤ 8 := by
  unfold Go.Lib.itoa
  have h2 := dd_length 6 n.natAbs (by omega)
  split
  · simp; omega
  · rw [show n.toNat = n.natAbs by omega]; omega

-- frac
/-- A fraction in lowest terms, as FractionOk tells it. -/
def Frac (a b : Int) : Prop := (-1000000 ≤ a ∧ a ≤ 1000000) ∧ (0 ≤ b ∧ b ≤ 1000000) ∧ Int.gcd a b = 1 ∧ (b = 0 → a = 1)
instance (a b : Int) : Decidable (Frac a b) := by unfold Frac; infer_instance

-- small
def Small (a b m : Int) : Prop := Frac a b ∧ (-m ≤ a ∧ a ≤ m) ∧ b ≤ m
instance (a b m : Int) : Decidable (Small a b m) := by unfold Small; infer_instance

-- nummath
theorem mul_bd {a b : Int} {m n : Nat} (h : a.natAbs ≤ m) (h' : b.natAbs ≤ n) : (a * b).natAbs ≤ m * n := by
  rw [Int.natAbs_mul]; exact Nat.mul_le_mul h h'
/-- NumberOf of two fractions. -/
def numv (a b c d : Int) : Int := if Small a b 1000 ∧ Small c d 1000 then (((a * d + c * b).natAbs : Nat) : Int) else -1
theorem num_value {a b c d : Int} (h : Small a b 1000) (h' : Small c d 1000) :
    mx (wrap64 ((wrap64 (a * d)) + (wrap64 (c * b)))) (wrap64 (-(wrap64 ((wrap64 (a * d)) + (wrap64 (c * b)))))) = (((a * d + c * b).natAbs : Nat) : Int) := by
  have h1 := mul_bd (a := a) (b := d) (m := 1000) (n := 1000) (by have := h.2.1; omega) (by have := h'.1.2.1; have := h'.2.2; omega)
  have h2 := mul_bd (a := c) (b := b) (m := 1000) (n := 1000) (by have := h'.2.1; omega) (by have := h.1.2.1; have := h.2.2; omega)
  rw [wrap64_in (n := a * d) (by omega) (by omega), wrap64_in (n := c * b) (by omega) (by omega), wrap64_in (n := a * d + c * b) (by omega) (by omega), mx_abs (by omega) (by omega)]

-- textmath
/-- A text out of a list of bytes. -/
def ba (l : List UInt8) : ByteArray := ⟨⟨l⟩⟩
theorem ba_list (l : List UInt8) : (ba l).data.toList = l := rfl
theorem ba_toList (l : List UInt8) : (ba l).toList = l := by rw [ByteArray.toList_eq]; rfl
theorem ba_of (s : ByteArray) : ba s.data.toList = s := rfl
theorem ba_size (l : List UInt8) : (ba l).size = l.length := rfl
theorem ba_append (l m : List UInt8) : ba l ++ ba m = ba (l ++ m) := by
  apply ByteArray.ext
  rw [ByteArray.data_append]
  simp [ba]
theorem ba_extract (s : ByteArray) (a e : Nat) : s.extract a e = ba ((s.data.toList.drop a).take (e - a)) := by
  apply ByteArray.ext
  apply Array.toList_inj.1
  simp [ba, List.drop_take]
/-- A fraction's text. -/
def fracT (a b : Int) : List UInt8 := if b = 1 then Go.Lib.itoa a else Go.Lib.itoa a ++ 47 :: Go.Lib.itoa b
/-- The pieces between a byte. -/
def splitL (c : UInt8) : List UInt8 → List UInt8 → List (List UInt8)
  | cur, [] => [cur]
  | cur, x :: r => if x = c then cur :: splitL c [] r else splitL c (cur ++ [x]) r
theorem splitL_none {c : UInt8} : ∀ (l cur : List UInt8), (∀ x ∈ l, x ≠ c) → splitL c cur l = [cur ++ l]
  | [], cur, _ => by simp [splitL]
  | x :: r, cur, h => by
    simp only [splitL]
    rw [if_neg (h x (by simp)), splitL_none r (cur ++ [x]) (fun y hy => h y (by simp [hy]))]
    simp
theorem splitL_one {c : UInt8} : ∀ (l cur m : List UInt8), (∀ x ∈ l, x ≠ c) → splitL c cur (l ++ c :: m) = (cur ++ l) :: splitL c [] m
  | [], cur, m, _ => by simp [splitL]
  | x :: r, cur, m, h => by
    simp only [List.cons_append, splitL]
    rw [if_neg (h x (by simp)), splitL_one r (cur ++ [x]) m (fun y hy => h y (by simp [hy]))]
    simp
theorem splitL_ne (c : UInt8) (cur l : List UInt8) : splitL c cur l ≠ [] := by
  cases l with
  | nil => simp [splitL]
  | cons x r => simp only [splitL]; split <;> simp [splitL_ne]
theorem splitL_cons (c : UInt8) : ∀ (l cur : List UInt8), ∃ x r, splitL c cur l = x :: r
  | [], cur => ⟨_, _, rfl⟩
  | y :: r, cur => by
    simp only [splitL]
    split
    · exact ⟨_, _, rfl⟩
    · exact splitL_cons c r _
theorem itoa_no47 (n : Int) : ∀ x ∈ Go.Lib.itoa n, x ≠ 47 := by
  intro x hx h
  rcases itoa_mem hx with h1 | h1
  · rw [h] at h1; exact absurd h1 (by decide)
  · rw [h] at h1; exact absurd h1 (by decide)
/-- What the reference reads out of the pieces. -/
def readW : List (List UInt8) → Int × Int × Bool
  | [x] => ((digsv x).1, 1, (digsv x).2)
  | [x, y] => ((digsv x).1, (digsv y).1, (digsv x).2 && (digsv y).2)
  | _ => (0, 0, false)
/-- What ReadFraction answers. -/
def readL (l : List UInt8) : Int × Int × Bool :=
  if (readW (splitL 47 [] l)).2.2 = true ∧ Frac (readW (splitL 47 [] l)).1 (readW (splitL 47 [] l)).2.1 ∧ fracT (readW (splitL 47 [] l)).1 (readW (splitL 47 [] l)).2.1 = l then
    ((readW (splitL 47 [] l)).1, (readW (splitL 47 [] l)).2.1, true) else (0, 0, false)
theorem frac_bd {a b : Int} (h : Frac a b) : a.natAbs < 10000000 ∧ b.natAbs < 10000000 := by
  have h1 := h.1
  have h2 := h.2.1
  omega
theorem readW_fracT {a b : Int} (h : Frac a b) : readW (splitL 47 [] (fracT a b)) = (a, b, true) := by
  have hb := frac_bd h
  unfold fracT
  split
  · next hb1 =>
    rw [splitL_none _ _ (itoa_no47 a), List.nil_append]
    simp only [readW]
    rw [digsv_itoa hb.1, hb1]
  · rw [splitL_one _ _ _ (itoa_no47 a), splitL_none _ _ (itoa_no47 b)]
    simp only [List.nil_append, readW]
    rw [digsv_itoa hb.1, digsv_itoa hb.2]; rfl
theorem readL_fracT {a b : Int} (h : Frac a b) : readL (fracT a b) = (a, b, true) := by
  unfold readL
  rw [readW_fracT h, if_pos ⟨rfl, h, rfl⟩]
/-- ReadFraction tells the one fraction whose text it is. -/
theorem readL_iff (l : List UInt8) : (∃ a b, Frac a b ∧ fracT a b = l ∧ readL l = (a, b, true)) ∨ ((∀ a b, Frac a b → fracT a b ≠ l) ∧ readL l = (0, 0, false)) := by
  by_cases h : (readW (splitL 47 [] l)).2.2 = true ∧ Frac (readW (splitL 47 [] l)).1 (readW (splitL 47 [] l)).2.1 ∧ fracT (readW (splitL 47 [] l)).1 (readW (splitL 47 [] l)).2.1 = l
  · left
    exact ⟨_, _, h.2.1, h.2.2, by unfold readL; rw [if_pos h]⟩
  · right
    refine ⟨?_, by unfold readL; rw [if_neg h]⟩
    intro a b hf he
    subst he
    rw [readW_fracT hf] at h
    exact h ⟨rfl, hf, rfl⟩
theorem fracT_length {a b : Int} (h : Frac a b) : (fracT a b).length ≤ 17 := by
  have hb := frac_bd h
  have h1 := itoa_length hb.1
  have h2 := itoa_length hb.2
  unfold fracT
  split
  · omega
  · simp; omega

-- mirdbase
/-- A move, and a dance, in the mirror. -/
def mirB (c : UInt8) : UInt8 := if c = 84 then 116 else if c = 116 then 84 else 82
def mirL (l : List UInt8) : List UInt8 := l.map mirB
/-- What MirrorDance answers. -/
def mirDv (l : List UInt8) : List UInt8 := if DanceL l then mirL l else []
theorem mirB_move (c : UInt8) : MoveP (mirB c) := by
  unfold mirB MoveP
  split
  · simp
  · split <;> simp
theorem mirB_mirB {c : UInt8} (h : MoveP c) : mirB (mirB c) = c := by
  unfold MoveP at h
  rcases h with rfl | rfl | rfl <;> decide
theorem mirL_dance {l : List UInt8} (h : DanceL l) : DanceL (mirL l) := by
  refine ⟨by unfold mirL; rw [List.length_map]; exact h.1, ?_⟩
  intro c hc
  obtain ⟨x, _, rfl⟩ := List.mem_map.1 hc
  exact mirB_move x
theorem mirL_mirL {l : List UInt8} (h : AllM l) : mirL (mirL l) = l := by
  unfold mirL
  rw [List.map_map]
  conv => rhs; rw [← List.map_id l]
  apply List.map_congr_left
  intro c hc
  exact mirB_mirB (h c hc)
theorem mirDv_mirDv {l : List UInt8} (h : DanceL l) : mirDv (mirDv l) = l := by
  unfold mirDv
  rw [if_pos h, if_pos (mirL_dance h), mirL_mirL h.2]

-- trimmath
theorem all_of_dropWhile {α : Type} (p : α → Bool) : ∀ l : List α, (∀ x ∈ l.dropWhile p, p x = true) → ∀ x ∈ l, p x = true
  | [], _ => fun x hx => by simp at hx
  | a :: l, h => by
    intro x hx
    by_cases ha : p a = true
    · rw [List.dropWhile_cons_of_pos ha] at h
      rcases List.mem_cons.1 hx with rfl | hx
      · exact ha
      · exact all_of_dropWhile p l h x hx
    · rw [List.dropWhile_cons_of_neg ha] at h
      exact h x hx
theorem dropWhile_nil_of_all {α : Type} (p : α → Bool) : ∀ l : List α, (∀ x ∈ l, p x = true) → l.dropWhile p = []
  | [], _ => rfl
  | a :: l, h => by
    rw [List.dropWhile_cons_of_pos (h a (by simp))]
    exact dropWhile_nil_of_all p l fun x hx => h x (by simp [hx])
theorem all_of_dropWhile_nil {α : Type} (p : α → Bool) : ∀ l : List α, l.dropWhile p = [] → ∀ x ∈ l, p x = true :=
  fun l h => all_of_dropWhile p l (by rw [h]; simp)
theorem trimS_nil (l cs : List UInt8) : Go.Lib.trimS l cs = [] ↔ ∀ c ∈ l, c ∈ cs := by
  unfold Go.Lib.trimS Go.Lib.trimLeftS Go.Lib.trimRightS
  constructor
  · intro h
    have h1 := all_of_dropWhile_nil _ _ h
    have h2 := all_of_dropWhile (cs.contains ·) l.reverse (fun x hx => h1 x (by simpa using hx))
    intro c hc
    simpa using h2 c (by simpa using hc)
  · intro h
    rw [dropWhile_nil_of_all (cs.contains ·) l.reverse (fun x hx => by simpa using h x (by simpa using hx))]
    rfl
theorem strings_Trim_f {s : ByteArray} {cs : List UInt8} (hs : s.size ≤ 100000000) (hl : cs.length < 4294967281) (ha : cs.all (fun b => decide (b.toNat < 128)) = true) :
    strings_Trim.f s ⟨⟨cs⟩⟩ = some ⟨⟨Go.Lib.trimS s.data.toList cs⟩⟩ := by
  unfold strings_Trim.f
  rw [if_pos ⟨by omega, by simpa [ByteArray.size] using hl, ha⟩]

-- impl_isDance
theorem impl_areMoves_f (s : ByteArray) (hs : s.size ≤ 100000000) : impl_areMoves.f s = some (decide (AllM s.data.toList)) := by
  unfold impl_areMoves.f
  rw [strings_Trim_f hs (by decide) (by decide)]; simp only [Option.bind_some]
  have e : AllM s.data.toList ↔ Go.Lib.trimS s.data.toList [84, 116, 82] = [] := by
    rw [trimS_nil]; unfold AllM MoveP; simp
  by_cases h : AllM s.data.toList
  · rw [decide_eq_true h, e.1 h, ByteArray.toList_eq]; rfl
  · rw [decide_eq_false h]
    have h' : Go.Lib.trimS s.data.toList [84, 116, 82] ≠ [] := fun x => h (e.2 x)
    cases h2 : Go.Lib.trimS s.data.toList [84, 116, 82] with
    | nil => exact absurd h2 h'
    | cons a l => rw [ByteArray.toList_eq]; rfl
theorem impl_isDance_f (s : ByteArray) (hs : s.size ≤ 100000000) : impl_isDance.f s = some (decide (DanceP s)) := by
  unfold impl_isDance.f
  rw [impl_areMoves_f s hs]; simp only [Option.bind_some]
  have e : s.data.toList.length = s.size := rfl
  by_cases h : (s.size : Int) ≤ 40
  · rw [if_pos h]; exact dec_iff ⟨fun x => ⟨by omega, x⟩, fun x => x.2⟩
  · rw [if_neg h]; exact (dec_false (fun x => by have := x.1; omega)).symm

-- impl_MirrorDance
theorem mirT_dance {s : ByteArray} (h : DanceP s) : Rep.mirT s = ba (mirL s.data.toList) := by
  apply ByteArray.ext
  apply Array.toList_inj.1
  unfold Rep.mirT
  rw [strOfNums_data]
  unfold bytesOf
  rw [List.map_map, List.map_map]
  show _ = List.map mirB s.data.toList
  apply List.map_congr_left
  intro c hc
  rcases h.2 c hc with rfl | rfl | rfl <;> rfl
theorem impl_MirrorDance_f (s : ByteArray) (hs : s.size ≤ 100000000) : impl_MirrorDance.f s = some (ba (mirDv s.data.toList)) := by
  unfold impl_MirrorDance.f mirDv
  rw [impl_isDance_f s hs]; simp only [Option.bind_some, decide_eq_true_eq]
  by_cases h : DanceP s
  · have h' : DanceL s.data.toList := h
    rw [if_pos h, if_pos h']
    unfold impl_mirrorDance.f
    rw [if_pos (by omega), mirT_dance h]; rfl
  · have h' : ¬ DanceL s.data.toList := h
    rw [if_neg h, if_neg h']; rfl

-- spec_DanceOk
theorem spec_DanceOk_l0 (s : ByteArray) (hs : s.size ≤ 1000000000) (n : Nat) : ∀ i : Nat, i + n = s.size → ∀ k, n < k → spec_DanceOk.l0 k s (i : Int) = some (decide (s.size ≤ 40 ∧ AllM (s.data.toList.drop i))) := by
  induction n with
  | zero =>
    intro i hi k hk
    obtain ⟨k, rfl⟩ : ∃ m, k = m + 1 := ⟨k - 1, by omega⟩
    simp only [spec_DanceOk.l0]
    rw [if_neg (by omega), drop_end (by omega)]
    exact dec_iff ⟨fun x => ⟨by omega, allM_nil⟩, fun x => by omega⟩
  | succ n ih =>
    intro i hi k hk
    obtain ⟨k, rfl⟩ : ∃ m, k = m + 1 := ⟨k - 1, by omega⟩
    obtain ⟨c, hd, hb⟩ := bt_drop (s := s) (i := i) (by omega)
    simp only [spec_DanceOk.l0]
    rw [if_pos (by omega), if_pos (by omega), hb, hd, wrap64_in (by omega) (by omega), show ((i : Int) + 1) = ((i + 1 : Nat) : Int) by omega, ih (i + 1) (by omega) k (by omega)]
    have e1 : (((c.toNat : Nat) : Int) = 84) ↔ c = 84 := u8_eq (n := 84) (by omega)
    have e2 : (((c.toNat : Nat) : Int) = 116) ↔ c = 116 := u8_eq (n := 116) (by omega)
    have e3 : (((c.toNat : Nat) : Int) = 82) ↔ c = 82 := u8_eq (n := 82) (by omega)
    have yes : MoveP c → some (decide (s.size ≤ 40 ∧ AllM (s.data.toList.drop (i + 1)))) = some (decide (s.size ≤ 40 ∧ AllM (c :: s.data.toList.drop (i + 1)))) := by
      intro h; exact dec_iff ⟨fun x => ⟨x.1, (allM_cons _ _).2 ⟨h, x.2⟩⟩, fun x => ⟨x.1, ((allM_cons _ _).1 x.2).2⟩⟩
    by_cases h1 : c = 84
    · rw [if_pos (e1.2 h1)]; exact yes (.inl h1)
    · rw [if_neg (fun x => h1 (e1.1 x))]
      by_cases h2 : c = 116
      · rw [if_pos (e2.2 h2)]; exact yes (.inr (.inl h2))
      · rw [if_neg (fun x => h2 (e2.1 x))]
        by_cases h3 : c = 82
        · rw [if_pos (e3.2 h3)]; exact yes (.inr (.inr h3))
        · rw [if_neg (fun x => h3 (e3.1 x))]
          exact (dec_false (fun x => by rcases ((allM_cons _ _).1 x.2).1 with y | y | y <;> contradiction)).symm
theorem spec_DanceOk_f (s : ByteArray) {k : Nat} (hs : s.size ≤ 100000000) (hk : 100000001 ≤ k) : spec_DanceOk.f k s = some (decide (DanceP s)) := by
  unfold spec_DanceOk.f
  have := spec_DanceOk_l0 s (by omega) s.size 0 (by omega) k (by omega)
  rw [show ((0 : Nat) : Int) = 0 from rfl] at this
  rw [this]
  exact dec_iff (by unfold DanceP DanceL; simp)

-- spec_MirrorDance
theorem spec_MirrorDance_l0 (s : ByteArray) (hd : DanceP s) (n : Nat) : ∀ (i : Nat) (a : List UInt8), i + n = s.size → a.length = i → ∀ k, 100000002 + 2 * n < k →
    spec_MirrorDance.l0 k s (ba a) (i : Int) = some (ba (a ++ mirL (s.data.toList.drop i))) := by
  have hs : s.size ≤ 40 := hd.1
  induction n with
  | zero =>
    intro i a hi ha k hk
    obtain ⟨k, rfl⟩ : ∃ m, k = m + 2 := ⟨k - 2, by omega⟩
    simp only [spec_MirrorDance.l0, spec_MirrorDance.j1]
    rw [if_neg (by omega), if_neg (by decide), drop_end (by omega)]
    simp [mirL]
  | succ n ih =>
    intro i a hi ha k hk
    obtain ⟨k, rfl⟩ : ∃ m, k = m + 2 := ⟨k - 2, by omega⟩
    obtain ⟨c, hc, hb⟩ := bt_drop (s := s) (i := i) (by omega)
    have e1 : (((c.toNat : Nat) : Int) = 84) ↔ c = 84 := u8_eq (n := 84) (by omega)
    have e2 : (((c.toNat : Nat) : Int) = 116) ↔ c = 116 := u8_eq (n := 116) (by omega)
    have hm : MoveP c := hd.2 c (List.mem_of_mem_drop (i := i) (by rw [hc]; simp))
    have hz : (ba a).size + 1 ≤ 9223372036854775807 := by rw [ba_size]; omega
    have go : ∀ x : UInt8, mirB c = x → spec_MirrorDance.l0 k s (ba a ++ ba [x]) (wrap64 ((i : Int) + 1)) = some (ba (a ++ mirL (s.data.toList.drop i))) := by
      intro x hx
      rw [ba_append, wrap64_in (by omega) (by omega), show ((i : Int) + 1) = ((i + 1 : Nat) : Int) by omega, ih (i + 1) (a ++ [x]) (by omega) (by simp [ha]) k (by omega), hc]
      simp [mirL, hx]
    simp only [spec_MirrorDance.l0]
    rw [if_pos (by omega), spec_DanceOk_f s (by omega) (by omega)]
    simp only [Option.bind_some, spec_MirrorDance.j1]
    rw [if_pos (decide_eq_true hd), if_pos (by omega), if_pos (by omega), hb]
    by_cases h1 : c = 84
    · rw [if_pos (e1.2 h1), if_pos hz]; exact go 116 (by rw [h1]; rfl)
    · rw [if_neg (fun x => h1 (e1.1 x))]
      by_cases h2 : c = 116
      · rw [if_pos (e2.2 h2), if_pos hz]; exact go 84 (by rw [h2]; rfl)
      · rw [if_neg (fun x => h2 (e2.1 x)), if_pos hz]; exact go 82 (by unfold mirB; rw [if_neg h1, if_neg h2])
theorem spec_MirrorDance_f (s : ByteArray) {k : Nat} (hs : s.size ≤ 100000000) (hk : 100001000 ≤ k) : spec_MirrorDance.f k s = some (ba (mirDv s.data.toList)) := by
  unfold spec_MirrorDance.f mirDv
  by_cases h : DanceP s
  · have h' : DanceL s.data.toList := h
    have h40 : s.size ≤ 40 := h.1
    have := spec_MirrorDance_l0 s h s.size 0 [] (by omega) rfl k (by omega)
    rw [if_pos h']
    show spec_MirrorDance.l0 k s (ba []) 0 = _
    simpa using this
  · have h' : ¬ DanceL s.data.toList := h
    rw [if_neg h']
    obtain ⟨k, rfl⟩ : ∃ m, k = m + 2 := ⟨k - 2, by omega⟩
    simp only [spec_MirrorDance.l0]
    rw [spec_DanceOk_f s hs (by omega)]
    simp only [Option.bind_some, spec_MirrorDance.j1, decide_eq_false h]
    by_cases h0 : 0 < (s.size : Int)
    · rw [if_pos h0]; rfl
    · rw [if_neg h0]; rfl

-- lowmath
/-- Two numbers in lowest terms. -/
def lowv (a b : Int) : Int × Int := if b < 0 ∨ (b = 0 ∧ a < 0) then (Int.tdiv a (-(Int.gcd a b : Int)), Int.tdiv b (-(Int.gcd a b : Int))) else (Int.tdiv a (Int.gcd a b : Int), Int.tdiv b (Int.gcd a b : Int))
theorem gcd_ne {a b : Int} (h : ¬ (a = 0 ∧ b = 0)) : Int.gcd a b ≠ 0 := by
  intro x; rw [Int.gcd_eq_zero_iff] at x; exact h x
theorem tdiv_wrap {a g : Int} (h : a.natAbs ≤ 9223372036854775807) : wrap64 (Int.tdiv a g) = Int.tdiv a g := by
  have := Nat.div_le_self a.natAbs g.natAbs
  have e : (Int.tdiv a g).natAbs = a.natAbs / g.natAbs := Int.natAbs_tdiv a g
  rw [← e] at this
  exact wrap64_in (by omega) (by omega)
theorem gcd_le_abs {a b : Int} (h : ¬ (a = 0 ∧ b = 0)) : (Int.gcd a b) ≤ a.natAbs + b.natAbs := by
  by_cases ha : a = 0
  · subst ha; rw [Int.gcd_zero_left]; omega
  · have := Int.gcd_le_natAbs_left (b := b) ha; omega

-- lowestof
/-- What LowestOf answers. -/
def LowOk (a b : Int) : Prop := (-1000000 ≤ a ∧ a ≤ 1000000) ∧ (-1000000 ≤ b ∧ b ≤ 1000000) ∧ ¬ (a = 0 ∧ b = 0)
instance (a b : Int) : Decidable (LowOk a b) := by unfold LowOk; infer_instance
def lowofv (a b : Int) : Int × Int × Bool := if LowOk a b then ((lowv a b).1, (lowv a b).2, true) else (0, 0, false)

-- mirmath
theorem gcd_neg_left (a b : Int) : Int.gcd (-a) b = Int.gcd a b := by simp
theorem lowv_coprime {a b : Int} (h : Int.gcd a b = 1) : lowv a b = if b < 0 ∨ (b = 0 ∧ a < 0) then (-a, -b) else (a, b) := by
  unfold lowv; rw [h]; split <;> simp
/-- The fraction with the other sign. -/
def mirv (a b : Int) : Int × Int := if b > 0 then (-a, b) else (a, b)
theorem mir_frac {a b : Int} (h : Frac a b) : Frac (mirv a b).1 (mirv a b).2 := by
  unfold mirv; split
  · refine ⟨by have := h.1; simp; omega, h.2.1, by simpa using h.2.2.1, fun x => by omega⟩
  · exact h
theorem mir_low {a b : Int} (h : Frac a b) : lowofv (-a) b = ((mirv a b).1, (mirv a b).2, true) := by
  have h1 := h.1
  have h2 := h.2.1
  have hg := h.2.2.1
  have hz := h.2.2.2
  unfold lowofv
  rw [if_pos ⟨by omega, by omega, by omega⟩, lowv_coprime (by rw [gcd_neg_left]; exact hg)]
  unfold mirv
  by_cases hb : b > 0
  · rw [if_neg (by omega), if_pos hb]
  · have : b = 0 := by omega
    have := hz this
    rw [if_pos (by omega), if_neg hb]
    subst this; subst b; rfl

-- overmath
/-- A fraction turned over, with the other sign. -/
def overv (a b : Int) : Int × Int := if a ≤ 0 then (b, -a) else (-b, a)
theorem frac_zero {b : Int} (h : Frac 0 b) : b = 1 := by
  have h2 := h.2.1
  have h3 := h.2.2.1
  rw [Int.gcd_zero_left] at h3
  omega
theorem over_frac {a b : Int} (h : Frac a b) : Frac (overv a b).1 (overv a b).2 := by
  have h1 := h.1
  have h2 := h.2.1
  have h3 := h.2.2.1
  have h4 := h.2.2.2
  unfold overv
  split
  · refine ⟨by simp only; omega, by simp only; omega, by simp only; rw [Int.gcd_comm]; simpa using h3, ?_⟩
    simp only
    intro x
    obtain rfl : a = 0 := by omega
    exact frac_zero h
  · refine ⟨by simp only; omega, by simp only; omega, by simp only; rw [Int.gcd_comm]; simpa using h3, ?_⟩
    simp only
    intro x
    omega
theorem over_low {a b : Int} (h : Frac a b) : lowv (-b) a = overv a b := by
  have h2 := h.2.1
  have h3 := h.2.2.1
  have h4 := h.2.2.2
  rw [lowv_coprime (by rw [gcd_neg_left, Int.gcd_comm]; exact h3)]
  unfold overv
  by_cases h0 : a = 0
  · subst h0
    have := frac_zero h
    subst this
    decide
  · by_cases hn : a ≤ 0
    · rw [if_pos (by omega), if_pos hn]; simp
    · rw [if_neg (by omega), if_neg hn]
theorem over_lowof {a b : Int} (h : Frac a b) : lowofv (-b) a = ((overv a b).1, (overv a b).2, true) := by
  have h1 := h.1
  have h2 := h.2.1
  have h4 := h.2.2.2
  unfold lowofv
  rw [if_pos ⟨by omega, by omega, by omega⟩, over_low h]
theorem over_over {a b : Int} (h : Frac a b) : overv (overv a b).1 (overv a b).2 = (a, b) := by
  have h2 := h.2.1
  have h4 := h.2.2.2
  unfold overv
  by_cases hn : a ≤ 0
  · rw [if_pos hn]; simp only
    by_cases hb : b ≤ 0
    · exfalso; have := h4 (by omega); omega
    · rw [if_neg hb]; simp
  · rw [if_neg hn]; simp only; rw [if_pos (by omega)]; simp

-- plusmath
def plusv (a b n : Int) : Int × Int × Bool := if Frac (a + n * b) b then (a + n * b, b, true) else (0, 0, false)
theorem plus_wrap {a b n : Int} (h : Frac a b) (hn : -1000000 ≤ n ∧ n ≤ 1000000) : wrap64 (a + wrap64 (n * b)) = a + n * b := by
  have h1 := mul_bd (a := n) (b := b) (m := 1000000) (n := 1000000) (by omega) (by have := h.2.1; omega)
  have h2 := h.1
  rw [wrap64_in (n := n * b) (by omega) (by omega), wrap64_in (by omega) (by omega)]

-- dancedmath
/-- A fraction after a move, and after moves, if each one on the way is one. -/
def dmove (f : Int × Int) (m : UInt8) : Option (Int × Int) :=
  if m = 84 then (if Frac (f.1 + f.2) f.2 then some (f.1 + f.2, f.2) else none) else if m = 116 then (if Frac (f.1 - f.2) f.2 then some (f.1 - f.2, f.2) else none) else some (overv f.1 f.2)
def dafter : List UInt8 → Int × Int → Option (Int × Int)
  | [], f => some f
  | m :: l, f => (dmove f m).bind (dafter l)
theorem dmove_frac {f g : Int × Int} {m : UInt8} (hf : Frac f.1 f.2) (h : dmove f m = some g) : Frac g.1 g.2 := by
  unfold dmove at h
  split at h
  · split at h
    · next hh => cases h; exact hh
    · cases h
  · split at h
    · split at h
      · next hh => cases h; exact hh
      · cases h
    · cases h; exact over_frac hf
theorem dafter_frac : ∀ {l : List UInt8} {f g : Int × Int}, Frac f.1 f.2 → dafter l f = some g → Frac g.1 g.2
  | [], f, g, hf, h => by cases h; exact hf
  | m :: l, f, g, hf, h => by
    simp only [dafter] at h
    cases hm : dmove f m with
    | none => rw [hm] at h; cases h
    | some x => rw [hm] at h; exact dafter_frac (dmove_frac hf hm) h
def dansw : Option (Int × Int) → Int × Int × Bool
  | some g => (g.1, g.2, true)
  | none => (0, 0, false)
/-- What DancedOf answers. -/
def dancedofv (s : ByteArray) : Int × Int × Bool := if DanceP s then dansw (dafter s.data.toList (0, 1)) else (0, 0, false)
/-- A pair of whole numbers after moves, with no limit and no sign turned. -/
def dim (u : Int × Int) (m : UInt8) : Int × Int := if m = 84 then (u.1 + u.2, u.2) else if m = 116 then (u.1 - u.2, u.2) else (u.2, -u.1)
def dint (l : List UInt8) (u : Int × Int) : Int × Int := l.foldl dim u
theorem dim_mul (s : Int) (u : Int × Int) (m : UInt8) : dim (s * u.1, s * u.2) m = (s * (dim u m).1, s * (dim u m).2) := by
  unfold dim
  split
  · simp only [Int.mul_add]
  · split
    · simp only [Int.mul_sub]
    · simp only [Int.mul_neg]
theorem dint_mul (s : Int) : ∀ (l : List UInt8) (u : Int × Int), dint l (s * u.1, s * u.2) = (s * (dint l u).1, s * (dint l u).2)
  | [], _ => rfl
  | m :: l, u => by
    show dint l (dim (s * u.1, s * u.2) m) = (s * (dint l (dim u m)).1, s * (dint l (dim u m)).2)
    rw [dim_mul, dint_mul s l (dim u m)]
theorem dafter_dint : ∀ (l : List UInt8) (f g : Int × Int), dafter l f = some g → ∀ e : Int, (e = 1 ∨ e = -1) → ∃ e' : Int, (e' = 1 ∨ e' = -1) ∧ dint l (e * f.1, e * f.2) = (e' * g.1, e' * g.2)
  | [], f, g, h, e, he => by cases h; exact ⟨e, he, rfl⟩
  | m :: l, f, g, h, e, he => by
    simp only [dafter] at h
    show ∃ e' : Int, (e' = 1 ∨ e' = -1) ∧ dint l (dim (e * f.1, e * f.2) m) = (e' * g.1, e' * g.2)
    rw [dim_mul]
    unfold dmove at h
    unfold dim
    split at h
    · next h1 =>
      rw [if_pos h1]
      split at h
      · exact dafter_dint l _ g h e he
      · cases h
    · next h1 =>
      rw [if_neg h1]
      split at h
      · next h2 =>
        rw [if_pos h2]
        split at h
        · exact dafter_dint l _ g h e he
        · cases h
      · next h2 =>
        rw [if_neg h2]
        simp only [Option.bind_some] at h
        unfold overv at h
        split at h
        · exact dafter_dint l _ g h e he
        · have := dafter_dint l _ g h (-e) (by omega)
          simp only [Int.neg_mul, Int.mul_neg, Int.neg_neg] at this ⊢
          exact this
/-- What a dance makes of the pair 0, 1, and of its fraction. -/
theorem danced_int {l : List UInt8} {g : Int × Int} (h : dafter l (0, 1) = some g) : ∃ e : Int, (e = 1 ∨ e = -1) ∧ dint l (0, 1) = (e * g.1, e * g.2) := by
  obtain ⟨e, he, h2⟩ := dafter_dint l (0, 1) g h 1 (.inl rfl)
  exact ⟨e, he, h2⟩

-- mirdmath
theorem mirv_mirv (a b : Int) : mirv (mirv a b).1 (mirv a b).2 = (a, b) := by
  unfold mirv
  by_cases h : b > 0
  · rw [if_pos h]; simp only; rw [if_pos h]; simp
  · rw [if_neg h]; simp only; rw [if_neg h]
theorem mirv_frac_iff (a b : Int) : Frac (mirv a b).1 (mirv a b).2 ↔ Frac a b := by
  constructor
  · intro h
    have := mir_frac h
    rw [mirv_mirv] at this
    exact this
  · exact mir_frac
theorem mirv_over {a b : Int} (h : Frac a b) : overv (mirv a b).1 (mirv a b).2 = mirv (overv a b).1 (overv a b).2 := by
  have h2 := h.2.1
  have h4 := h.2.2.2
  unfold overv mirv
  by_cases hb : b > 0
  · rw [if_pos hb]; simp only
    by_cases ha : a ≤ 0
    · rw [if_pos ha]; simp only
      by_cases h0 : a = 0
      · subst h0
        rw [if_pos (by omega), if_neg (by omega)]; rfl
      · rw [if_neg (by omega), if_pos (by omega)]
    · rw [if_neg ha]; simp only
      rw [if_pos (by omega), if_pos (by omega)]; simp
  · have hb0 : b = 0 := by omega
    have ha := h4 hb0
    subst hb0; subst ha
    decide
theorem dmove_mir {f : Int × Int} {m : UInt8} (hf : Frac f.1 f.2) (hm : MoveP m) : dmove (mirv f.1 f.2) (mirB m) = (dmove f m).map fun g => mirv g.1 g.2 := by
  have h2 := hf.2.1
  have h4 := hf.2.2.2
  have hz : f.2 ≤ 0 → f = (1, 0) := by
    intro h
    have e : f.2 = 0 := by omega
    obtain ⟨x, y⟩ := f
    simp only at e h4
    rw [e, h4 e]
  unfold MoveP at hm
  rcases hm with rfl | rfl | rfl
  · show dmove (mirv f.1 f.2) 116 = _
    unfold dmove
    rw [if_neg (by decide), if_pos rfl, if_pos rfl]
    by_cases hb : f.2 > 0
    · have e : mirv f.1 f.2 = (-f.1, f.2) := by unfold mirv; rw [if_pos hb]
      have e2 : mirv (f.1 + f.2) f.2 = (-f.1 - f.2, f.2) := by unfold mirv; rw [if_pos hb]; congr 1; omega
      have hi := mirv_frac_iff (f.1 + f.2) f.2
      rw [e2] at hi
      rw [e]; simp only
      by_cases hF : Frac (f.1 + f.2) f.2
      · rw [if_pos hF, if_pos (hi.2 hF)]; simp only [Option.map_some, e2]
      · rw [if_neg hF, if_neg (fun x => hF (hi.1 x))]; rfl
    · rw [hz (by omega)]; decide
  · show dmove (mirv f.1 f.2) 84 = _
    unfold dmove
    rw [if_pos (rfl : (84 : UInt8) = 84), if_neg (show ¬ (116 : UInt8) = 84 by decide), if_pos (rfl : (116 : UInt8) = 116)]
    by_cases hb : f.2 > 0
    · have e : mirv f.1 f.2 = (-f.1, f.2) := by unfold mirv; rw [if_pos hb]
      have e2 : mirv (f.1 - f.2) f.2 = (-f.1 + f.2, f.2) := by unfold mirv; rw [if_pos hb]; congr 1; omega
      have hi := mirv_frac_iff (f.1 - f.2) f.2
      rw [e2] at hi
      rw [e]; simp only
      by_cases hF : Frac (f.1 - f.2) f.2
      · rw [if_pos hF, if_pos (hi.2 hF)]; simp only [Option.map_some, e2]
      · rw [if_neg hF, if_neg (fun x => hF (hi.1 x))]; rfl
    · rw [hz (by omega)]; decide
  · show dmove (mirv f.1 f.2) 82 = _
    unfold dmove
    rw [if_neg (by decide), if_neg (by decide), if_neg (by decide), if_neg (by decide), mirv_over hf]; rfl
theorem dafter_mir : ∀ {l : List UInt8} {f : Int × Int}, Frac f.1 f.2 → AllM l → dafter (mirL l) (mirv f.1 f.2) = (dafter l f).map fun g => mirv g.1 g.2
  | [], f, _, _ => rfl
  | m :: l, f, hf, hl => by
    have hm : MoveP m := hl m (by simp)
    have hl' : AllM l := fun c hc => hl c (by simp [hc])
    show dafter (mirB m :: mirL l) _ = _
    simp only [dafter]
    rw [dmove_mir hf hm]
    cases hd : dmove f m with
    | none => rfl
    | some g =>
      simp only [Option.map_some, Option.bind_some]
      exact dafter_mir (dmove_frac hf hd) hl'

-- impl_isPart
theorem impl_isPart_f (a : Int) : impl_isPart.f a = some (decide (-1000000 ≤ a ∧ a ≤ 1000000)) := by
  unfold impl_isPart.f
  by_cases h : -1000000 ≤ a
  · rw [if_pos h]; exact dec_iff ⟨fun x => ⟨h, x⟩, fun x => x.2⟩
  · rw [if_neg h]; exact (dec_false (fun x => h x.1)).symm

-- impl_gcd
theorem impl_gcd_l0 (n : Nat) : ∀ (a b : Int), b.natAbs ≤ n → a.natAbs ≤ 9223372036854775807 → b.natAbs ≤ 9223372036854775807 → ∀ k, n < k → impl_gcd.l0 k a b = some (Int.gcd a b : Int) := by
  induction n with
  | zero =>
    intro a b hb ha _ k hk
    obtain ⟨k, rfl⟩ : ∃ m, k = m + 1 := ⟨k - 1, by omega⟩
    obtain rfl : b = 0 := by omega
    simp only [impl_gcd.l0]
    rw [if_pos trivial, mx_abs (by omega) (by omega), Int.gcd_zero_right]
  | succ n ih =>
    intro a b hb ha hb' k hk
    obtain ⟨k, rfl⟩ : ∃ m, k = m + 1 := ⟨k - 1, by omega⟩
    simp only [impl_gcd.l0]
    by_cases h : b = 0
    · subst h; rw [if_pos rfl, mx_abs (by omega) (by omega), Int.gcd_zero_right]
    · have := natAbs_tmod_lt a h
      rw [if_neg h, ih b (Int.tmod a b) (by omega) hb' (by omega) k (by omega), gcd_tmod]
theorem impl_gcd_f {a b : Int} {k : Nat} (ha : a.natAbs ≤ 9223372036854775807) (hb : b.natAbs ≤ 9223372036854775807) (hk : b.natAbs < k) : impl_gcd.f k a b = some (Int.gcd a b : Int) :=
  impl_gcd_l0 b.natAbs a b (Nat.le_refl _) ha hb k hk

-- impl_isFraction
theorem impl_isFraction_f (a b : Int) {k : Nat} (hk : 1000001 ≤ k) : impl_isFraction.f k a b = some (decide (Frac a b)) := by
  unfold impl_isFraction.f
  rw [impl_isPart_f]; simp only [Option.bind_some, decide_eq_true_eq]
  by_cases h1 : -1000000 ≤ a ∧ a ≤ 1000000
  · rw [if_pos h1]
    by_cases h2 : b < 0
    · rw [if_pos h2]; exact (dec_false (fun x => by have := x.2.1; omega)).symm
    · rw [if_neg h2]
      by_cases h2' : b > 1000000
      · rw [if_pos h2']; exact (dec_false (fun x => by have := x.2.1; omega)).symm
      · rw [if_neg h2', impl_gcd_f (by omega) (by omega) (by omega)]; simp only [Option.bind_some]
        have hb : (((Int.gcd a b : Nat) : Int) == 1) = decide (Int.gcd a b = 1) := by
          rw [Bool.eq_iff_iff]; simp; omega
        rw [hb]
        by_cases h4 : b = 0
        · rw [if_pos h4]
          by_cases h5 : a = 1
          · rw [if_pos h5]; exact dec_iff ⟨fun h => ⟨h1, by omega, h, fun _ => h5⟩, fun h => h.2.2.1⟩
          · rw [if_neg h5]; exact (dec_false (fun x => h5 (x.2.2.2 h4))).symm
        · rw [if_neg h4]; exact dec_iff ⟨fun h => ⟨h1, by omega, h, fun h' => absurd h' h4⟩, fun h => h.2.2.1⟩
  · rw [if_neg h1]; exact (dec_false (fun x => h1 x.1)).symm

-- impl_plus
theorem impl_plus_f {a b n : Int} {k : Nat} (hk : 1000001 ≤ k) (h : Frac a b) (hn : -1000000 ≤ n ∧ n ≤ 1000000) : impl_plus.f k a b n = some (plusv a b n) := by
  unfold impl_plus.f
  rw [plus_wrap h hn, impl_isFraction_f _ _ hk]; simp only [Option.bind_some, decide_eq_true_eq]
  unfold plusv; split <;> rfl

-- impl_lowest
theorem impl_lowest_f {a b : Int} {k : Nat} (h : ¬ (a = 0 ∧ b = 0)) (ha : a.natAbs ≤ 1000000) (hb : b.natAbs ≤ 1000000) (hk : 1000001 ≤ k) : impl_lowest.f k a b = some (lowv a b) := by
  unfold impl_lowest.f
  rw [impl_gcd_f (by omega) (by omega) (by omega)]; simp only [Option.bind_some]
  have hg := gcd_ne h
  have hl := gcd_le_abs h
  rw [wrap64_in (n := -((Int.gcd a b : Nat) : Int)) (by omega) (by omega)]
  unfold lowv
  by_cases h1 : b < 0
  · rw [if_pos h1, if_neg (by omega), if_pos (.inl h1), tdiv_wrap (by omega), tdiv_wrap (by omega)]
  · rw [if_neg h1]
    by_cases h2 : b = 0
    · rw [if_pos h2]
      by_cases h3 : a < 0
      · rw [if_pos h3, if_neg (by omega), if_pos (.inr ⟨h2, h3⟩), tdiv_wrap (by omega), tdiv_wrap (by omega)]
      · rw [if_neg h3, if_neg (by omega), if_neg (by omega), tdiv_wrap (by omega), tdiv_wrap (by omega)]
    · rw [if_neg h2, if_neg (by omega), if_neg (by omega), tdiv_wrap (by omega), tdiv_wrap (by omega)]

-- impl_danced
theorem plus_one {a b : Int} : plusv a b 1 = dansw (if Frac (a + b) b then some (a + b, b) else none) := by
  unfold plusv; rw [Int.one_mul]; split <;> rfl
theorem plus_less {a b : Int} : plusv a b (-1) = dansw (if Frac (a - b) b then some (a - b, b) else none) := by
  unfold plusv; rw [show a + -1 * b = a - b by omega]; split <;> rfl
theorem impl_danced_l0 (s : ByteArray) (hs : s.size ≤ 40) (n : Nat) : ∀ (i : Nat) (f : Int × Int), i + n = s.size → Frac f.1 f.2 → ∀ k, n + 1000002 ≤ k →
    impl_danced.l0 k s (s.size : Int) (i : Int) f.1 f.2 = some (dansw (dafter (s.data.toList.drop i) f)) := by
  induction n with
  | zero =>
    intro i f hi hf k hk
    obtain ⟨k, rfl⟩ : ∃ m, k = m + 1 := ⟨k - 1, by omega⟩
    simp only [impl_danced.l0]
    rw [if_neg (by omega), drop_end (by omega)]; rfl
  | succ n ih =>
    intro i f hi hf k hk
    obtain ⟨k, rfl⟩ : ∃ m, k = m + 1 := ⟨k - 1, by omega⟩
    obtain ⟨m, hd, hb⟩ := bt_drop (s := s) (i := i) (by omega)
    have e1 : (((m.toNat : Nat) : Int) = 84) ↔ m = 84 := u8_eq (n := 84) (by omega)
    have e2 : (((m.toNat : Nat) : Int) = 116) ↔ m = 116 := u8_eq (n := 116) (by omega)
    obtain ⟨a, b⟩ := f
    have IH := fun g hg => ih (i + 1) g (by omega) hg k (by omega)
    simp only at hf
    simp only [impl_danced.l0]
    rw [if_pos (by omega), if_pos (by omega), if_pos (by omega), hb, hd, wrap64_in (n := (i : Int) + 1) (by omega) (by omega), show ((i : Int) + 1) = ((i + 1 : Nat) : Int) by omega]
    simp only [dafter]
    unfold dmove
    simp only
    by_cases h1 : m = 84
    · rw [if_pos (e1.2 h1), if_pos h1, impl_plus_f (by omega) hf (by omega), plus_one]; simp only [Option.bind_some]
      by_cases hp : Frac (a + b) b
      · rw [if_pos hp]; simp only [dansw, Option.bind_some]
        exact IH (a + b, b) hp
      · rw [if_neg hp]; rfl
    · rw [if_neg (fun x => h1 (e1.1 x)), if_neg h1]
      by_cases h2 : m = 116
      · rw [if_pos (e2.2 h2), if_pos h2, impl_plus_f (by omega) hf (by omega), plus_less]; simp only [Option.bind_some]
        by_cases hp : Frac (a - b) b
        · rw [if_pos hp]; simp only [dansw, Option.bind_some]
          exact IH (a - b, b) hp
        · rw [if_neg hp]; rfl
      · have g1 := hf.1
        have g2 := hf.2.1
        have g4 := hf.2.2.2
        rw [if_neg (fun x => h2 (e2.1 x)), if_neg h2, wrap64_in (n := -b) (by omega) (by omega), impl_lowest_f (by omega) (by omega) (by omega) (by omega), over_low hf]; simp only [Option.bind_some]
        exact IH (overv a b) (over_frac hf)
theorem impl_danced_f (s : ByteArray) (hs : s.size ≤ 40) {a b : Int} (hf : Frac a b) {k : Nat} (hk : 1000100 ≤ k) : impl_danced.f k a b s = some (dansw (dafter s.data.toList (a, b))) := by
  unfold impl_danced.f
  have := impl_danced_l0 s hs s.size 0 (a, b) (by omega) hf k (by omega)
  rw [List.drop_zero] at this
  exact this

-- impl_DancedOf
theorem impl_DancedOf_f (s : ByteArray) {k : Nat} (hs : s.size ≤ 100000000) (hk : 1000100 ≤ k) : impl_DancedOf.f k s = some (dancedofv s) := by
  unfold impl_DancedOf.f dancedofv
  rw [impl_isDance_f s hs]; simp only [Option.bind_some, decide_eq_true_eq]
  by_cases h : DanceP s
  · rw [if_pos h, if_pos h, impl_danced_f s h.1 (by decide) hk]; rfl
  · rw [if_neg h, if_neg h]

-- impl_mirrored
theorem impl_mirrored_f {a b : Int} (h : Frac a b) : impl_mirrored.f a b = some (mirv a b) := by
  unfold impl_mirrored.f mirv
  have h1 := h.1
  split
  · rw [wrap64_in (by omega) (by omega)]
  · rfl

-- impl_MirrorOf
theorem impl_MirrorOf_f (a b : Int) {k : Nat} (hk : 1000001 ≤ k) : impl_MirrorOf.f k a b = some (if Frac a b then mirv a b else (0, 0)) := by
  unfold impl_MirrorOf.f
  simp only [impl_isFraction_f _ _ hk, Option.bind_some, decide_eq_true_eq]
  by_cases h : Frac a b
  · rw [if_pos h, if_pos h, impl_mirrored_f h]; rfl
  · rw [if_neg h, if_neg h]

-- alive
theorem alive_f {k : Nat} (hk : 1000001 ≤ k) : laws_alive.f k = some true := by
  unfold laws_alive.f impl_FractionOk.f
  simp only [impl_isFraction_f _ _ hk, Option.bind_some]
  rw [if_pos (by decide)]
  congr 1

theorem DrawMirrorDance_f {l : List Int} {k : Nat} (h : ∀ x ∈ l, (Lit.int .u8 x).wf = true) (hk : 2000000 ≤ k) : ∃ s, spec_DrawMirrorDance.f k l = some s ∧ s.size ≤ 200 := by
  unfold spec_DrawMirrorDance.f
  obtain ⟨s, hs, hr⟩ := open_f h
  rw [hs]; simp only [Option.bind_some]
  obtain ⟨d, q, hf, hd, q0, q1⟩ := l20Dance_f (k := k) (p := 0) 20 9 hr (by omega) (by omega) (by omega) (by omega) (by omega)
  rw [hf]; simp only [Option.bind_some]
  exact ⟨d, rfl, hd⟩
theorem mirDv_length (l : List UInt8) : (mirDv l).length ≤ l.length := by
  unfold mirDv
  split
  · simp [mirL]
  · simp
theorem FnMirrorDance : laws_FnMirrorDance.Pure := by
  intro l _ _ hw
  refine ⟨100003000, ?_⟩
  unfold laws_FnMirrorDance.f
  refine ite_to (fun _ => rfl) (fun _ => ?_)
  obtain ⟨s, hd, hs⟩ := DrawMirrorDance_f hw (show 2000000 ≤ 100003000 by omega)
  rw [hd]; simp only [Option.bind_some]
  have hu : (ba (mirDv s.data.toList)).size ≤ 200 := Nat.le_trans (mirDv_length _) hs
  rw [impl_MirrorDance_f s (by omega)]; simp only [Option.bind_some]
  rw [spec_MirrorDance_f s (by omega) (by omega)]; simp only [Option.bind_some]
  rw [if_pos trivial, spec_DanceOk_f s (by omega) (by omega)]; simp only [Option.bind_some, decide_eq_true_eq]
  by_cases h : DanceP s
  · have h' : DanceL s.data.toList := h
    have hm : mirDv s.data.toList = mirL s.data.toList := by unfold mirDv; rw [if_pos h']
    have hp : DanceP (ba (mirDv s.data.toList)) := by
      show DanceL (mirDv s.data.toList)
      rw [hm]; exact mirL_dance h'
    rw [if_pos h, impl_DancedOf_f s (by omega) (by omega), impl_DancedOf_f (ba (mirDv s.data.toList)) (by omega) (by omega)]; simp only [Option.bind_some]
    have hb : impl_MirrorDance.f (ba (mirDv s.data.toList)) = some s := by
      rw [impl_MirrorDance_f _ (by omega), ba_list, mirDv_mirDv h']; rfl
    have hmd : dancedofv (ba (mirDv s.data.toList)) = dansw ((dafter s.data.toList (0, 1)).map fun g => mirv g.1 g.2) := by
      unfold dancedofv
      rw [if_pos hp]
      show dansw (dafter (mirDv s.data.toList) (0, 1)) = _
      rw [hm, ← dafter_mir (f := (0, 1)) (by decide) h'.2]; rfl
    rw [hmd, hb]
    unfold dancedofv
    rw [if_pos h]
    cases hg : dafter s.data.toList (0, 1) with
    | none =>
      simp only [Option.map_none, dansw, Option.bind_some]
      rw [if_neg (by decide), if_pos trivial]; rfl
    | some g =>
      have hF := dafter_frac (f := (0, 1)) (by decide) hg
      simp only [Option.map_some, dansw, Option.bind_some]
      rw [if_pos trivial, if_pos trivial, impl_MirrorOf_f _ _ (by omega), if_pos hF]; simp
  · have h' : ¬ DanceL s.data.toList := h
    rw [if_neg h, alive_f (by omega)]
    have e : (ba (mirDv s.data.toList)).toList = ([] : List UInt8) := by rw [ba_toList]; unfold mirDv; rw [if_neg h']
    rw [if_pos e]; rfl

end Go.Proofs.YtgbnlaalfebaeaaGreatDoor.Pure
