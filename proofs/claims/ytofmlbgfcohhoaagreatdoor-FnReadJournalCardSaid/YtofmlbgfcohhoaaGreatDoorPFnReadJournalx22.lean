import Derived.Test.YtofmlbgfcohhoaaGreatDoorPFnReadJournalx0
import Derived.Test.YtofmlbgfcohhoaaGreatDoorPFnReadJournalx16
set_option maxHeartbeats 8000000
set_option maxRecDepth 100000
namespace Go.Proofs.YtofmlbgfcohhoaaGreatDoor.PFnReadJournal
open Go.RowKit Go.Proofs.YtofmlbgfcohhoaaGreatDoorW.PrintWords Go.Proofs.YtofmlbgfcohhoaaGreatDoorW.PrintLast Go.Proofs.YtofmlbgfcohhoaaGreatDoorW.PrintMore Go.Proofs.YtofmlbgfcohhoaaGreatDoor.Lib Go.Proofs.Tryz
attribute [local go_sem] max2_int min2_int max_two min_two max_three min_three max_four min_four
set_option linter.unusedVariables false
set_option linter.unusedSimpArgs false

section
attribute [local go_sem high] eqA38
mutual
def F11.j0 : Nat → Bool → Bool → Int → ByteArray → Option (ByteArray)
 | 0, _, _, _, _ => none
 | k + 1, x4, x0, x1, x2 => if x0 = true then (if 6 + x2.size ≤ 9223372036854775807 then (some ((⟨#[100, 97, 110, 99, 101, 32]⟩ : ByteArray) ++ x2)) else (none)) else (if x1 = 1 then (F11.j1 k x4 x1 x2) else (F11.j1 k false x1 x2))
def F11.j1 : Nat → Bool → Int → ByteArray → Option (ByteArray)
 | 0, _, _, _ => none
 | k + 1, x0, x1, x2 => if x0 = true then (if 5 + x2.size ≤ 9223372036854775807 then (some ((⟨#[116, 97, 107, 101, 32]⟩ : ByteArray) ++ x2)) else (none)) else (if (x1 == 2 && (x2.toList == ([] : List UInt8))) = true then (some (⟨#[109, 105, 114, 114, 111, 114]⟩ : ByteArray)) else (if (x1 == 3 && (x2.toList == ([] : List UInt8))) = true then (some (⟨#[117, 110, 116, 105, 101]⟩ : ByteArray)) else (if (x1 == 4 && (x2.toList == ([] : List UInt8))) = true then (some (⟨#[98, 97, 99, 107]⟩ : ByteArray)) else (some (⟨#[]⟩ : ByteArray)))))
end
def F11.f (k : Nat) (a0_0 : Int) (a0_1 : ByteArray) : Option (ByteArray) := (F21.f k a0_1).bind fun bt0 => (if a0_0 = 0 then ((F73.f a0_1).bind fun t0 => (F11.j0 k bt0.2.2 t0 a0_0 a0_1)) else (F11.j0 k bt0.2.2 false a0_0 a0_1))
abbrev F11.M (k : Nat) : Prop := (∀ y0 y1 y2 y3, LeO (F11.j0 k y0 y1 y2 y3) (F11.j0 (k + 1) y0 y1 y2 y3)) ∧ (∀ y0 y1 y2, LeO (F11.j1 k y0 y1 y2) (F11.j1 (k + 1) y0 y1 y2))
theorem F11.mt : ∀ k, F11.M k → F11.M (k + 1) ∧ ∀ a0 a1, LeO (F11.f k a0 a1) (F11.f (k + 1) a0 a1) := by
  rintro k ⟨ih0, ih1⟩
  refine ⟨⟨?_, ?_⟩, ?_⟩ <;> intros <;> (first | unfold F11.j0 | unfold F11.j1 | unfold F11.f) <;> repeat' (with_reducible first | exact ih0 _ _ _ _ | exact ih1 _ _ _ | exact F21.m _ _ | exact LeO.refl _ | exact LeO.none _ | refine LeO.ite ?_ ?_ | refine LeO.bind ?_ fun _ => ?_)
theorem F11.ml : ∀ k, F11.M k
 | 0 => ⟨fun _ _ _ _ r h => by simp [F11.j0] at h, fun _ _ _ r h => by simp [F11.j1] at h⟩
 | k + 1 => (F11.mt k (F11.ml k)).1
theorem F11.m a0 a1 k : LeO (F11.f k a0 a1) (F11.f (k + 1) a0 a1) := (F11.mt k (F11.ml k)).2 a0 a1
theorem F11.c (k : Nat) (a0_0 : Int) (a0_1 : ByteArray) (r : ByteArray) (w : World) (hG : Glob w) (H : F11.f k a0_0 a0_1 = some r) :
  Calls prog 88 #[.agg #[.int .i64 a0_0, .string a0_1]] w fun e w' => e = .returned (.string r) ∧ Below w.heap.size w w' := by
 have hu38 := underlying38
 have hu31 := underlying31
 have HB := sqh w
 unfold F11.f at H
 obtain ⟨⟨t581, t0, t1⟩, A2, H⟩ := sqD H
 try dsimp only at H
 have HC3 := sqa H
 clear H
 go_enter func88, ntmps88
 go_upto_region 2 with (first | ((with_reducible refine sqd 1 rfl ?_); refine sqBx w (sqB HB) (cs := #[.int .i64 a0_0, .string a0_1]) (t := 38) ?_; intro g0 hg w4 B0 E0 HB hb; clear hb hg; have := sqY2 B0) | ((with_reducible refine sqc 126 rfl ?_); refine sqC (some 8) func126 #[.string a0_1] ?_; (with_reducible refine (F21.c k a0_1 t581 t0 t1 _ ?sideG A2.1).mono ?_); (case sideG => exact Z59 E0); refine sqV fun w6 hb => ?_; replace B0 := sqT B0 hb; replace HB := sqS (sqB1 HB E0) hb) | ((with_reducible refine sqd 3 rfl ?_); refine sqBx w (sqB1 HB E0) (cs := #[.int .i64 0, .int .i64 0]) (t := 31) ?_; intro g1 hg w7 B2 E1 HB hb; obtain ⟨N0, N1⟩ := sqM hg B0; replace B0 := sqT B0 hb; clear hb hg; have := sqn2 N1 N0; have := sqY2 B2))
 (try simp only [Act.put, List.setIfInBounds_toArray, List.set_cons_zero, List.set_cons_succ])
 go_cut [11] (fun v0 wc => ∃ (kq : Nat) (x0 : Bool), v0 = .bool x0 ∧ Aside0 (F11.j0 kq t1 x0 a0_0 a0_1 = some r) ∧ Aside0 (kq ≤ k) ∧ Aside0 (wc.heap[g0]? = some (.cells #[.int .i64 a0_0, .string a0_1] 38 (0, 0))) ∧ Aside0 (wc.heap[g1]? = some (.cells #[.int .i64 t581, .int .i64 t0] 31 (0, 0))) ∧ Aside0 (Below w.heap.size w wc))
 case first =>
  have H := HC3.1
  clear HC3
  by_cases c10 : a0_0 = 0
  ·rw [if_pos c10] at H
   have c0 := sqe1 c10
   have c1 := sqn0 c10
   clear c10
   (first | rw [c0] | (simp only [i64_w, i32_w]; rw [c0]) | skip)
   obtain ⟨t2, A0, H⟩ := sqD H
   have H' := sqa H
   clear H
   have := sqn2 N0 N1
   have := sqY2 B0
   go_wp2_with (first | (go_at_call 71; (with_reducible refine (F73.c a0_1 t2 _ A0.1).mono ?_); rintro e w0 ⟨rfl, hb⟩; replace B0 := sqH N0 B0 hb; replace B2 := sqa (blk_below (g := g1) (o := .cells #[.int .i64 t581, .int .i64 t0] 31 (0, 0)) (Z86 B2) hb); replace HB := sqS (sqB2 HB E0 E1) hb))
   go_meet
   case rel => exact ⟨_, (t2), Z2, H', ⟨Z3⟩, ⟨sqK B0⟩, ⟨sqK B2⟩, ⟨sqB2 HB E0 E1⟩⟩
  rw [if_neg c10] at H
  have c0 := sqe0 c10
  have c1 := sqn1 c10
  (first | rw [c0] | (simp only [i64_w, i32_w]; rw [c0]) | skip)
  have H' := sqa H
  clear H
  have := sqn2 N0 N1
  have := sqY2 B0
  go_wp2
  go_meet
  case rel => exact ⟨_, (false), Z2, H', ⟨Z3⟩, ⟨Z9 N0 B0⟩, ⟨Z86 B2⟩, ⟨sqB2 HB E0 E1⟩⟩
 case rest =>
  clear HC3
  obtain ⟨kq, x0, rfl, HA, HJ2, B0, B2, HB⟩ := hcut
  cases kq with
  | zero => exact absurd HA.out (by simp [F11.j0])
  | succ kj2 =>
   have H := HA.out
   clear HA
   simp only [F11.j0] at H
   by_cases c2 : x0 = true
   ·subst c2
    rw [if_pos rfl] at H
    obtain ⟨c3, H⟩ := sqI H
    have c4 := eq_true c3
    have c5 : decide (6 + a0_1.size ≤ 9223372036854775807) = true := decide_eq_true c3
    try have c6 : (9223372036854775807 < 6 + a0_1.size) = False := eq_false (Nat.not_lt.2 c3)
    obtain rfl := sqo H
    have := sqn2 N0 N1
    have := sqY2 B0
    go_wp2
    go_ret
    exact ⟨Z14, sqB2 HB E0 E1⟩
   obtain rfl := sqb c2
   rw [if_neg sqF] at H
   have HC0 := sqa H
   clear H
   go_upto_region 4 with (fail)
   go_cut [23] (fun v1 wc => ∃ (kq : Nat) (x1 : Bool), v1 = .bool x1 ∧ Aside0 (F11.j1 kq x1 a0_0 a0_1 = some r) ∧ Aside0 (kq ≤ kj2) ∧ Aside0 (wc.heap[g0]? = some (.cells #[.int .i64 a0_0, .string a0_1] 38 (0, 0))) ∧ Aside0 (wc.heap[g1]? = some (.cells #[.int .i64 t581, .int .i64 t0] 31 (0, 0))) ∧ Aside0 (Below w.heap.size w wc))
   case first =>
    have H := HC0.1
    clear HC0
    by_cases c7 : a0_0 = 1
    ·rw [if_pos c7] at H
     have c8 := sqe1 c7
     have c9 := sqn0 c7
     clear c7
     (first | rw [c8] | (simp only [i64_w, i32_w]; rw [c8]) | skip)
     have H' := sqa H
     clear H
     have := sqn2 N0 N1
     have := sqY2 B0
     go_wp2
     go_meet
     case rel => exact ⟨_, (t1), Z2, H', ⟨Z55⟩, ⟨sqK B0⟩, ⟨sqK B2⟩, ⟨sqB2 HB E0 E1⟩⟩
    rw [if_neg c7] at H
    have c8 := sqe0 c7
    have c9 := sqn1 c7
    (first | rw [c8] | (simp only [i64_w, i32_w]; rw [c8]) | skip)
    have H' := sqa H
    clear H
    have := sqn2 N0 N1
    have := sqY2 B0
    go_wp2
    go_meet
    case rel => exact ⟨_, (false), Z2, H', ⟨Z55⟩, ⟨sqK B0⟩, ⟨sqK B2⟩, ⟨sqB2 HB E0 E1⟩⟩
   case rest =>
    clear HC0
    obtain ⟨kq, x1, rfl, HA, HJ0, B0, B2, HB⟩ := hcut
    cases kq with
    | zero => exact absurd HA.out (by simp [F11.j1])
    | succ kj0 =>
     have H := HA.out
     clear HA
     simp only [F11.j1] at H
     by_cases c27 : x1 = true
     ·subst c27
      rw [if_pos rfl] at H
      obtain ⟨c28, H⟩ := sqI H
      have c13 := eq_true c28
      have c14 : decide (5 + a0_1.size ≤ 9223372036854775807) = true := decide_eq_true c28
      try have c15 : (9223372036854775807 < 5 + a0_1.size) = False := eq_false (Nat.not_lt.2 c28)
      obtain rfl := sqo H
      have := sqn2 N0 N1
      have := sqY2 B0
      go_wp2
      go_ret
      exact ⟨Z14, sqB2 HB E0 E1⟩
     obtain rfl := sqb c27
     rw [if_neg sqF] at H
     by_cases c31 : (a0_0 == 2 && (a0_1.toList == ([] : List UInt8))) = true
     ·rw [if_pos c31] at H
      have c19 : (a0_0 == 2 && (a0_1.toList == ([] : List UInt8))) = true := c31
      try have c20 : (a0_0 == 2 && a0_1.toList.isEmpty) = true := by (have h_ := c19; (repeat rw [sqy] at h_); exact h_)
      (try (have c21 : decide (a0_0 = 2 && (a0_1.toList == ([] : List UInt8))) = true := by simpa using c31))
      (try (have c23 : (a0_0 == 2 && (a0_1.toList == ([] : List UInt8))) = true := by simpa using c31))
      clear c31
      obtain rfl := sqo H
      have := sqn2 N0 N1
      have := sqY2 B0
      go_wp2
      go_ret
      exact ⟨Z14, sqB2 HB E0 E1⟩
     rw [if_neg c31] at H
     have c19 : (a0_0 == 2 && (a0_1.toList == ([] : List UInt8))) = false := by simpa using c31
     try have c20 : (a0_0 == 2 && a0_1.toList.isEmpty) = false := by (have h_ := c19; (repeat rw [sqy] at h_); exact h_)
     (try (have c21 : decide (a0_0 = 2 && (a0_1.toList == ([] : List UInt8))) = false := by simpa using c31))
     (try (have c23 : (a0_0 == 2 && (a0_1.toList == ([] : List UInt8))) = false := by simpa using c31))
     (try (have c24 : ¬ (a0_0 = 2 && (a0_1.toList == ([] : List UInt8))) := by simpa using c31))
     clear c31
     by_cases c34 : (a0_0 == 3 && (a0_1.toList == ([] : List UInt8))) = true
     ·rw [if_pos c34] at H
      have c26 : (a0_0 == 3 && (a0_1.toList == ([] : List UInt8))) = true := c34
      try have c29 : (a0_0 == 3 && a0_1.toList.isEmpty) = true := by (have h_ := c26; (repeat rw [sqy] at h_); exact h_)
      (try (have c30 : decide (a0_0 = 3 && (a0_1.toList == ([] : List UInt8))) = true := by simpa using c34))
      (try (have c32 : (a0_0 == 3 && (a0_1.toList == ([] : List UInt8))) = true := by simpa using c34))
      clear c34
      obtain rfl := sqo H
      have := sqn2 N0 N1
      have := sqY2 B0
      go_wp2
      go_ret
      exact ⟨Z14, sqB2 HB E0 E1⟩
     rw [if_neg c34] at H
     have c26 : (a0_0 == 3 && (a0_1.toList == ([] : List UInt8))) = false := by simpa using c34
     try have c29 : (a0_0 == 3 && a0_1.toList.isEmpty) = false := by (have h_ := c26; (repeat rw [sqy] at h_); exact h_)
     (try (have c30 : decide (a0_0 = 3 && (a0_1.toList == ([] : List UInt8))) = false := by simpa using c34))
     (try (have c32 : (a0_0 == 3 && (a0_1.toList == ([] : List UInt8))) = false := by simpa using c34))
     (try (have c33 : ¬ (a0_0 = 3 && (a0_1.toList == ([] : List UInt8))) := by simpa using c34))
     clear c34
     by_cases c37 : (a0_0 == 4 && (a0_1.toList == ([] : List UInt8))) = true
     ·rw [if_pos c37] at H
      have c35 : (a0_0 == 4 && (a0_1.toList == ([] : List UInt8))) = true := c37
      try have c36 : (a0_0 == 4 && a0_1.toList.isEmpty) = true := by (have h_ := c35; (repeat rw [sqy] at h_); exact h_)
      (try (have c38 : decide (a0_0 = 4 && (a0_1.toList == ([] : List UInt8))) = true := by simpa using c37))
      (try (have c39 : (a0_0 == 4 && (a0_1.toList == ([] : List UInt8))) = true := by simpa using c37))
      clear c37
      obtain rfl := sqo H
      have := sqn2 N0 N1
      have := sqY2 B0
      go_wp2
      go_ret
      exact ⟨Z14, sqB2 HB E0 E1⟩
     rw [if_neg c37] at H
     have c35 : (a0_0 == 4 && (a0_1.toList == ([] : List UInt8))) = false := by simpa using c37
     try have c36 : (a0_0 == 4 && a0_1.toList.isEmpty) = false := by (have h_ := c35; (repeat rw [sqy] at h_); exact h_)
     (try (have c38 : decide (a0_0 = 4 && (a0_1.toList == ([] : List UInt8))) = false := by simpa using c37))
     (try (have c39 : (a0_0 == 4 && (a0_1.toList == ([] : List UInt8))) = false := by simpa using c37))
     (try (have c40 : ¬ (a0_0 = 4 && (a0_1.toList == ([] : List UInt8))) := by simpa using c37))
     clear c37
     obtain rfl := sqo H
     have := sqn2 N0 N1
     have := sqY2 B0
     go_wp2
     go_ret
     exact ⟨Z14, sqB2 HB E0 E1⟩

def F43.l0 : Nat → List ByteArray → ByteArray → Int → Int → Option (Int)
 | 0, _, _, _, _ => none
 | k + 1, x0, x1, x7, x8 => if x8 < x7 then (if 0 ≤ x8 then (if x8 < (x0.length : Int) then (if x1.toList = (rdOf ByteArray.empty x0 x8).toList then (some x8) else (F43.l0 k x0 x1 x7 (wrap64 (x8 + 1)))) else (none)) else (none)) else (some (-1))
def F43.f (k : Nat) (l0 : List ByteArray) (a1 : ByteArray) : Option (Int) := F43.l0 k l0 a1 (l0.length : Int) 0
abbrev F43.M (k : Nat) : Prop := (∀ y0 y1 y2 y3, LeO (F43.l0 k y0 y1 y2 y3) (F43.l0 (k + 1) y0 y1 y2 y3))
theorem F43.mt : ∀ k, F43.M k → F43.M (k + 1) ∧ ∀ a0 a1, LeO (F43.f k a0 a1) (F43.f (k + 1) a0 a1) := by
  rintro k ih0
  refine ⟨?_, ?_⟩ <;> (try unfold F43.M) <;> intros <;> (first | unfold F43.l0 | unfold F43.f) <;> repeat' (with_reducible first | exact ih0 _ _ _ _ | exact LeO.refl _ | exact LeO.none _ | refine LeO.ite ?_ ?_ | refine LeO.bind ?_ fun _ => ?_)
theorem F43.ml : ∀ k, F43.M k
 | 0 => fun _ _ _ _ r h => by simp [F43.l0] at h
 | k + 1 => (F43.mt k (F43.ml k)).1
theorem F43.m a0 a1 k : LeO (F43.f k a0 a1) (F43.f (k + 1) a0 a1) := (F43.mt k (F43.ml k)).2 a0 a1
theorem F43.c (k : Nat) (A0 : Option Addr) (c0 : Nat) (l0 : List ByteArray) (a1 : ByteArray) (r : Int) (w : World) (hr0 : Kd.C Kd.string w A0 l0.length l0) (hc0 : l0.length ≤ c0) (H : F43.f k l0 a1 = some r) :
  Calls prog 124 #[.slice A0 l0.length c0, .string a1] w fun e w' => e = .returned (.int .i64 r) ∧ Drawn0 w w' := by
 have HR0 := sqa hr0
 have HC0 := sqa hc0
 clear hr0 hc0
 unfold F43.f at H
 have H' := sqa H
 clear H
 go_enter func124, ntmps124
 go_wp2
 go_loopg [8] k (fun kq v8 w' => ∃ (x8_1 : Int), v8 = .int .i64 x8_1 ∧ Aside0 (F43.l0 kq l0 a1 (l0.length : Int) x8_1 = some r) ∧ Aside0 (kq ≤ k) ∧ Drawn0 w w')
 case atStart => exact ⟨(0), Z2, H', ⟨Nat.le_refl _⟩, Z87⟩
 case round =>
  clear H'
  obtain ⟨x8_1, rfl, HA, HK1, ⟨m1, rfl⟩⟩ := hrel
  cases gk with
  | zero => exact absurd HA.out (by simp [F43.l0])
  | succ k1 =>
   have H := HA.out
   clear HA
   simp only [F43.l0] at H
   by_cases c3 : x8_1 < (l0.length : Int)
   ·rw [if_pos c3] at H
    have c3b0 : decide (x8_1 < (l0.length : Int)) = true := decide_eq_true c3
    clear c3
    obtain ⟨c4, H⟩ := sqI H
    have c4b0 : decide (0 ≤ x8_1) = true := decide_eq_true c4
    clear c4
    obtain ⟨c5, H⟩ := sqI H
    have c5b0 : decide (x8_1 < (l0.length : Int)) = true := decide_eq_true c5
    clear c5
    by_cases c6 : a1.toList = (rdOf ByteArray.empty l0 x8_1).toList
    ·rw [if_pos c6] at H
     have c6b0 : (a1.toList == (rdOf ByteArray.empty l0 x8_1).toList) = true := sqe1 c6
     have c6b1 : (a1.toList != (rdOf ByteArray.empty l0 x8_1).toList) = false := sqn0 c6
     clear c6
     obtain rfl := sqo H
     have p0 : 0 ≤ (x8_1 : Int) := of_decide_eq_true Z7
     have q0 : x8_1 < (l0.length : Int) := of_decide_eq_true Z7
     obtain ⟨ad0, e0, hx0⟩ := Kd.at_string HR0.1 x8_1 p0 q0
     cases e0
     replace p0 := eq_true p0
     replace q0 := eq_true q0
     go_wp2
     go_ret
     exact ⟨Z2, Z87⟩
    rw [if_neg c6] at H
    have c6b0 : (a1.toList == (rdOf ByteArray.empty l0 x8_1).toList) = false := sqe0 c6
    have c6b1 : (a1.toList != (rdOf ByteArray.empty l0 x8_1).toList) = true := sqn1 c6
    have H' := sqa H
    clear H
    have p0 : 0 ≤ (x8_1 : Int) := of_decide_eq_true Z7
    have q0 : x8_1 < (l0.length : Int) := of_decide_eq_true Z7
    obtain ⟨ad0, e0, hx0⟩ := Kd.at_string HR0.1 x8_1 p0 q0
    cases e0
    replace p0 := eq_true p0
    replace q0 := eq_true q0
    go_wp2
    go_roundg k1
    case measure => have := HK1.out; omega
    case rel => exact ⟨(wrap64 (x8_1 + 1)), Z2, H', ⟨Z15 HK1⟩, Z87⟩
   rw [if_neg c3] at H
   have c3b0 : decide (x8_1 < (l0.length : Int)) = false := decide_eq_false c3
   clear c3
   obtain rfl := sqo H
   go_wp2
   go_ret
   exact ⟨Z2, Z87⟩

def F55.f (k : Nat) (a0 : ByteArray) : Option (Int × ByteArray × Bool) := (strings_Cut.f a0 (⟨#[32]⟩ : ByteArray)).bind fun bt0 => ((F43.f k (([(⟨#[100, 97, 110, 99, 101]⟩ : ByteArray), (⟨#[116, 97, 107, 101]⟩ : ByteArray), (⟨#[109, 105, 114, 114, 111, 114]⟩ : ByteArray), (⟨#[117, 110, 116, 105, 101]⟩ : ByteArray), (⟨#[98, 97, 99, 107]⟩ : ByteArray)] : List ByteArray)) bt0.1).bind fun t594 => (if a0.toList = ([] : List UInt8) then (some (0, (⟨#[]⟩ : ByteArray), false)) else ((F11.f k t594 bt0.2.1).bind fun t0 => (if t0.toList = a0.toList then (some (t594, bt0.2.1, true)) else (some (0, (⟨#[]⟩ : ByteArray), false))))))
theorem F55.m : ∀ a0 k, LeO (F55.f k a0) (F55.f (k + 1) a0) := by
 intro a0 k
 unfold F55.f
 repeat' (with_reducible first | exact F11.m _ _ _ | exact F43.m _ _ _ | exact LeO.refl _ | exact LeO.none _ | refine LeO.ite ?_ ?_ | refine LeO.bind ?_ fun _ => ?_)
theorem F55.c (k : Nat) (a0 : ByteArray) (r1 : Int) (r2 : ByteArray) (r3 : Bool) (w : World) (hG : Glob w) (H : F55.f k a0 = some (r1, r2, r3)) :
  Calls prog 85 #[.string a0] w fun e w' => e = .returned (.tuple #[.agg #[.int .i64 r1, .string r2], .bool r3]) ∧ Below w.heap.size w w' := by
 have hu38 := underlying38
 have HB := sqh w
 unfold F55.f at H
 obtain ⟨⟨t0, t1, t2⟩, A2, H⟩ := sqD H
 try dsimp only at H
 obtain ⟨y0, hy0⟩ : ∃ y_ : List ByteArray, y_ = (([(⟨#[100, 97, 110, 99, 101]⟩ : ByteArray), (⟨#[116, 97, 107, 101]⟩ : ByteArray), (⟨#[109, 105, 114, 114, 111, 114]⟩ : ByteArray), (⟨#[117, 110, 116, 105, 101]⟩ : ByteArray), (⟨#[98, 97, 99, 107]⟩ : ByteArray)] : List ByteArray)) := ⟨_, rfl⟩
 replace H : ((F43.f k y0 t0).bind fun t594 => (if a0.toList = ([] : List UInt8) then (some (0, (⟨#[]⟩ : ByteArray), false)) else ((F11.f k t594 t1).bind fun t3 => (if t3.toList = a0.toList then (some (t594, t1, true)) else (some (0, (⟨#[]⟩ : ByteArray), false)))))) = some (r1, r2, r3) := sqW hy0 H
 have Ny0 := sqa hy0
 clear hy0
 obtain ⟨t594, A3, H⟩ := sqD H
 by_cases c4 : a0.toList = ([] : List UInt8)
 ·rw [if_pos c4] at H
  have c4b0 : (a0.toList == ([] : List UInt8)) = true := sqe1 c4
  try have c4b8 : a0.toList.isEmpty = true := by (have h_ := c4b0; (repeat rw [sqy] at h_); exact h_)
  have c4b1 : (a0.toList != ([] : List UInt8)) = false := sqn0 c4
  clear c4
  obtain ⟨rfl, rfl, rfl⟩ := sqO3 H
  go_enter func85, ntmps85
  go_wp2_with (first | ((with_reducible refine sqd 2 rfl ?_); refine sqBx w (sqB HB) (cs := #[.int .i64 0, .string (⟨#[]⟩ : ByteArray)]) (t := 38) ?_; intro g0 hg w5 B0 E0 HB hb; clear hb hg) | ((with_reducible refine sqc 84 rfl ?_); refine sqC (some 10) func84 #[.string a0, .string (⟨#[32]⟩ : ByteArray)] ?_; (with_reducible refine (strings_Cut.calls a0 (⟨#[32]⟩ : ByteArray) t0 t1 t2 _ ?sideG A2.1).mono ?_); (case sideG => exact Z59 E0); refine sqV fun w6 hb => ?_; replace B0 := sqT B0 hb; replace HB := sqS (sqB1 HB E0) hb) | ((with_reducible refine sqd 14 rfl ?_); refine Kd.R_lit Kd.string _ 9 ?hg (N := 14) ?hd (xs := ([(⟨#[100, 97, 110, 99, 101]⟩ : ByteArray), (⟨#[116, 97, 107, 101]⟩ : ByteArray), (⟨#[109, 105, 114, 114, 111, 114]⟩ : ByteArray), (⟨#[117, 110, 116, 105, 101]⟩ : ByteArray), (⟨#[98, 97, 99, 107]⟩ : ByteArray)] : List ByteArray)) (inner := [.string (⟨#[100, 97, 110, 99, 101]⟩ : ByteArray), .string (⟨#[116, 97, 107, 101]⟩ : ByteArray), .string (⟨#[109, 105, 114, 114, 111, 114]⟩ : ByteArray), .string (⟨#[117, 110, 116, 105, 101]⟩ : ByteArray), .string (⟨#[98, 97, 99, 107]⟩ : ByteArray)]) (ok := fun _ => True) (okp := fun _ => True) ?hr ?hp (fun _ hk => hk) trivial (Below.refl _ _) (Nat.le_refl _) (by simp) ?_; (case hd => rfl); (case hg => rfl); (case hr => exact Z8); (case hp => exact Z88); intro v0 w7 ho8 hb hg_ hnew_; clear hg_ hnew_; (first | rw [← Ny0.out] at ho8 | (simp only [Int.reduceToNat] at ho8; rw [← Ny0.out] at ho8)); have O0 := sqL ho8 (sqB1 HB E0); replace B0 := sqT B0 hb; replace HB := sqS (sqB1 HB E0) hb; clear hb ho8; obtain ⟨Ao9, co9, eo9⟩ := Kd.R_slice O0.1; subst eo9) | ((with_reducible refine sqc 124 rfl ?_); refine sqC (some 16) func124 #[.slice Ao9 y0.length co9, .string t0] ?_; (with_reducible refine (F43.c k _ _ y0 t0 t594 _ ?side1 ?side2 A3.1).mono ?_); (case side1 => exact Z47 O0); (case side2 => exact Z48 O0); rintro e w' ⟨rfl, ⟨nd, rfl⟩⟩; refine ⟨_, rfl, ?_⟩; (try (rw [drewN_self w7]; generalize hq_ : World.drewN w7 _ = w7; have n0_ : Aside0 (Kd.R Kd.string 9 w7 w.heap.size (fun _ => True) (.slice Ao9 y0.length co9) y0) := ⟨Z89 O0⟩; have n1_ : Aside0 (w7.heap[g0]? = some (.cells #[.int .i64 0, .string (⟨#[]⟩ : ByteArray)] 38 (0, 0))) := ⟨Z61 B0⟩; have n2_ : Aside0 (Below w.heap.size w w7) := ⟨Z90 E0⟩; clear O0 B0 HB hq_; have O0 := n0_; have B0 := n1_; have HB := n2_; clear n0_ n1_ n2_))) | ((with_reducible refine sqd 7 rfl ?_); refine sqBx w (sqB1 HB E0) (cs := #[.int .i64 0, .string (⟨#[]⟩ : ByteArray)]) (t := 38) ?_; intro g1 hg w0 B2 E1 HB hb; replace O0 := sqU O0 hb; obtain ⟨N0, N1⟩ := sqM hg B0; replace B0 := sqT B0 hb; clear hb hg; have := sqn2 N1 N0; have := sqY2 B2; have := sqY2 B0))
  refine sqE g0 38 #[.int .i64 0, .string (⟨#[]⟩ : ByteArray)] (by refine sqPut (cs := #[.int .i64 0, .string (⟨#[]⟩ : ByteArray)]) ?_ 1; refine sqPut (cs := #[.int .i64 0, .string (⟨#[]⟩ : ByteArray)]) ?_ 0; refine sqFar ?_ N0; refine sqFar ?_ N0; exact sqK B0) underlying38 ?_
  exact ⟨Z14, sqB2 HB E0 E1⟩
 rw [if_neg c4] at H
 have c4b0 : (a0.toList == ([] : List UInt8)) = false := sqe0 c4
 try have c4b8 : a0.toList.isEmpty = false := by (have h_ := c4b0; (repeat rw [sqy] at h_); exact h_)
 have c4b1 : (a0.toList != ([] : List UInt8)) = true := sqn1 c4
 obtain ⟨t3, A0, H⟩ := sqD H
 by_cases c0 : t3.toList = a0.toList
 ·rw [if_pos c0] at H
  have c1 := sqe1 c0
  have c2 := sqn0 c0
  clear c0
  obtain ⟨rfl, rfl, rfl⟩ := sqO3 H
  go_enter func85, ntmps85
  go_wp2_with (first | ((with_reducible refine sqd 2 rfl ?_); refine sqBx w (sqB HB) (cs := #[.int .i64 0, .string (⟨#[]⟩ : ByteArray)]) (t := 38) ?_; intro g0 hg w1 B0 E0 HB hb; clear hb hg) | ((with_reducible refine sqc 84 rfl ?_); refine sqC (some 10) func84 #[.string a0, .string (⟨#[32]⟩ : ByteArray)] ?_; (with_reducible refine (strings_Cut.calls a0 (⟨#[32]⟩ : ByteArray) t0 t1 t2 _ ?sideG A2.1).mono ?_); (case sideG => exact Z59 E0); refine sqV fun w2 hb => ?_; replace B0 := sqT B0 hb; replace HB := sqS (sqB1 HB E0) hb) | ((with_reducible refine sqd 14 rfl ?_); refine Kd.R_lit Kd.string _ 9 ?hg (N := 14) ?hd (xs := ([(⟨#[100, 97, 110, 99, 101]⟩ : ByteArray), (⟨#[116, 97, 107, 101]⟩ : ByteArray), (⟨#[109, 105, 114, 114, 111, 114]⟩ : ByteArray), (⟨#[117, 110, 116, 105, 101]⟩ : ByteArray), (⟨#[98, 97, 99, 107]⟩ : ByteArray)] : List ByteArray)) (inner := [.string (⟨#[100, 97, 110, 99, 101]⟩ : ByteArray), .string (⟨#[116, 97, 107, 101]⟩ : ByteArray), .string (⟨#[109, 105, 114, 114, 111, 114]⟩ : ByteArray), .string (⟨#[117, 110, 116, 105, 101]⟩ : ByteArray), .string (⟨#[98, 97, 99, 107]⟩ : ByteArray)]) (ok := fun _ => True) (okp := fun _ => True) ?hr ?hp (fun _ hk => hk) trivial (Below.refl _ _) (Nat.le_refl _) (by simp) ?_; (case hd => rfl); (case hg => rfl); (case hr => exact Z8); (case hp => exact Z88); intro v0 w3 ho0 hb hg_ hnew_; clear hg_ hnew_; (first | rw [← Ny0.out] at ho0 | (simp only [Int.reduceToNat] at ho0; rw [← Ny0.out] at ho0)); have O0 := sqL ho0 (sqB1 HB E0); replace B0 := sqT B0 hb; replace HB := sqS (sqB1 HB E0) hb; clear hb ho0; obtain ⟨Ao0, co0, eo0⟩ := Kd.R_slice O0.1; subst eo0) | ((with_reducible refine sqc 124 rfl ?_); refine sqC (some 16) func124 #[.slice Ao0 y0.length co0, .string t0] ?_; (with_reducible refine (F43.c k _ _ y0 t0 t594 _ ?side1 ?side2 A3.1).mono ?_); (case side1 => exact Z47 O0); (case side2 => exact Z48 O0); rintro e w' ⟨rfl, ⟨nd, rfl⟩⟩; refine ⟨_, rfl, ?_⟩; (try (rw [drewN_self w3]; generalize hq_ : World.drewN w3 _ = w3; have n0_ : Aside0 (Kd.R Kd.string 9 w3 w.heap.size (fun _ => True) (.slice Ao0 y0.length co0) y0) := ⟨Z89 O0⟩; have n1_ : Aside0 (w3.heap[g0]? = some (.cells #[.int .i64 0, .string (⟨#[]⟩ : ByteArray)] 38 (0, 0))) := ⟨Z61 B0⟩; have n2_ : Aside0 (Below w.heap.size w w3) := ⟨Z90 E0⟩; clear O0 B0 HB hq_; have O0 := n0_; have B0 := n1_; have HB := n2_; clear n0_ n1_ n2_))) | ((with_reducible refine sqd 7 rfl ?_); refine sqBx w (sqB1 HB E0) (cs := #[.int .i64 0, .string (⟨#[]⟩ : ByteArray)]) (t := 38) ?_; intro g1 hg w4 B2 E1 HB hb; replace O0 := sqU O0 hb; obtain ⟨N0, N1⟩ := sqM hg B0; replace B0 := sqT B0 hb; clear hb hg; have := sqn2 N1 N0; have := sqY2 B2) | (go_at_call 88; (with_reducible refine (F11.c k t594 t1 t3 _ ?sideG A0.1).mono ?_); (case sideG => exact Z56 E0 E1); rintro e w8 ⟨rfl, hb⟩; replace O0 := sqa (Kd.R_below (Z91 O0 B2) hb); replace B0 := sqH N0 B0 hb; replace B2 := sqa (blk_below (g := g1) (o := .cells #[.int .i64 t594, .string t1] 38 (0, 0)) (Z92 B2) hb); replace HB := sqS (sqB2 HB E0 E1) hb; have := sqY2 B2; have := sqY2 B0))
  refine sqE g0 38 #[.int .i64 t594, .string t1] (Z92 B0) underlying38 ?_
  exact ⟨Z14, sqB2 HB E0 E1⟩
 rw [if_neg c0] at H
 have c1 := sqe0 c0
 have c2 := sqn1 c0
 obtain ⟨rfl, rfl, rfl⟩ := sqO3 H
 go_enter func85, ntmps85
 go_wp2_with (first | ((with_reducible refine sqd 2 rfl ?_); refine sqBx w (sqB HB) (cs := #[.int .i64 0, .string (⟨#[]⟩ : ByteArray)]) (t := 38) ?_; intro g0 hg w9 B0 E0 HB hb; clear hb hg) | ((with_reducible refine sqc 84 rfl ?_); refine sqC (some 10) func84 #[.string a0, .string (⟨#[32]⟩ : ByteArray)] ?_; (with_reducible refine (strings_Cut.calls a0 (⟨#[32]⟩ : ByteArray) t0 t1 t2 _ ?sideG A2.1).mono ?_); (case sideG => exact Z59 E0); refine sqV fun w28 hb => ?_; replace B0 := sqT B0 hb; replace HB := sqS (sqB1 HB E0) hb) | ((with_reducible refine sqd 14 rfl ?_); refine Kd.R_lit Kd.string _ 9 ?hg (N := 14) ?hd (xs := ([(⟨#[100, 97, 110, 99, 101]⟩ : ByteArray), (⟨#[116, 97, 107, 101]⟩ : ByteArray), (⟨#[109, 105, 114, 114, 111, 114]⟩ : ByteArray), (⟨#[117, 110, 116, 105, 101]⟩ : ByteArray), (⟨#[98, 97, 99, 107]⟩ : ByteArray)] : List ByteArray)) (inner := [.string (⟨#[100, 97, 110, 99, 101]⟩ : ByteArray), .string (⟨#[116, 97, 107, 101]⟩ : ByteArray), .string (⟨#[109, 105, 114, 114, 111, 114]⟩ : ByteArray), .string (⟨#[117, 110, 116, 105, 101]⟩ : ByteArray), .string (⟨#[98, 97, 99, 107]⟩ : ByteArray)]) (ok := fun _ => True) (okp := fun _ => True) ?hr ?hp (fun _ hk => hk) trivial (Below.refl _ _) (Nat.le_refl _) (by simp) ?_; (case hd => rfl); (case hg => rfl); (case hr => exact Z8); (case hp => exact Z88); intro v0 w29 ho1 hb hg_ hnew_; clear hg_ hnew_; (first | rw [← Ny0.out] at ho1 | (simp only [Int.reduceToNat] at ho1; rw [← Ny0.out] at ho1)); have O0 := sqL ho1 (sqB1 HB E0); replace B0 := sqT B0 hb; replace HB := sqS (sqB1 HB E0) hb; clear hb ho1; obtain ⟨Ao1, co1, eo1⟩ := Kd.R_slice O0.1; subst eo1) | ((with_reducible refine sqc 124 rfl ?_); refine sqC (some 16) func124 #[.slice Ao1 y0.length co1, .string t0] ?_; (with_reducible refine (F43.c k _ _ y0 t0 t594 _ ?side1 ?side2 A3.1).mono ?_); (case side1 => exact Z47 O0); (case side2 => exact Z48 O0); rintro e w' ⟨rfl, ⟨nd, rfl⟩⟩; refine ⟨_, rfl, ?_⟩; (try (rw [drewN_self w29]; generalize hq_ : World.drewN w29 _ = w29; have n0_ : Aside0 (Kd.R Kd.string 9 w29 w.heap.size (fun _ => True) (.slice Ao1 y0.length co1) y0) := ⟨Z89 O0⟩; have n1_ : Aside0 (w29.heap[g0]? = some (.cells #[.int .i64 0, .string (⟨#[]⟩ : ByteArray)] 38 (0, 0))) := ⟨Z61 B0⟩; have n2_ : Aside0 (Below w.heap.size w w29) := ⟨Z90 E0⟩; clear O0 B0 HB hq_; have O0 := n0_; have B0 := n1_; have HB := n2_; clear n0_ n1_ n2_))) | ((with_reducible refine sqd 7 rfl ?_); refine sqBx w (sqB1 HB E0) (cs := #[.int .i64 0, .string (⟨#[]⟩ : ByteArray)]) (t := 38) ?_; intro g1 hg w32 B2 E1 HB hb; replace O0 := sqU O0 hb; obtain ⟨N0, N1⟩ := sqM hg B0; replace B0 := sqT B0 hb; clear hb hg; have := sqn2 N1 N0; have := sqY2 B2) | (go_at_call 88; (with_reducible refine (F11.c k t594 t1 t3 _ ?sideG A0.1).mono ?_); (case sideG => exact Z56 E0 E1); rintro e w35 ⟨rfl, hb⟩; replace O0 := sqa (Kd.R_below (Z91 O0 B2) hb); replace B0 := sqH N0 B0 hb; replace B2 := sqa (blk_below (g := g1) (o := .cells #[.int .i64 t594, .string t1] 38 (0, 0)) (Z92 B2) hb); replace HB := sqS (sqB2 HB E0 E1) hb; have := sqY2 B0))
 refine sqE g0 38 #[.int .i64 0, .string (⟨#[]⟩ : ByteArray)] (by refine sqPut (cs := #[.int .i64 0, .string (⟨#[]⟩ : ByteArray)]) ?_ 1; refine sqPut (cs := #[.int .i64 0, .string (⟨#[]⟩ : ByteArray)]) ?_ 0; exact sqK B0) underlying38 ?_
 exact ⟨Z14, sqB2 HB E0 E1⟩

def F25.l0 : Nat → ByteArray → List (S38) → Int → Option ((List (S38)) × Int)
 | 0, _, _, _ => none
 | k + 1, x0, x4, x5 => if 0 ≤ x5 then (if x5 ≤ (x0.size : Int) then ((strings_Cut.f (x0.extract (x5 : Int).toNat x0.size) (⟨#[10]⟩ : ByteArray)).bind fun bt0 => ((F55.f k bt0.1).bind fun bt1 => (if bt0.2.2 = true then (if bt1.2.2 = true then (if x4.length < 5864062014805 then (F25.l0 k x0 (x4 ++ [(⟨bt1.1, bt1.2.1⟩ : S38)]) (wrap64 (x5 + (wrap64 ((bt0.1.size : Int) + 1))))) else (none)) else (some (x4, x5))) else (some (x4, x5))))) else (none)) else (none)
def F25.f (k : Nat) (a0 : ByteArray) : Option ((List (S38)) × Int) := F25.l0 k a0 (([] : List (S38))) 0
abbrev F25.M (k : Nat) : Prop := (∀ y0 y1 y2, LeO (F25.l0 k y0 y1 y2) (F25.l0 (k + 1) y0 y1 y2))
theorem F25.mt : ∀ k, F25.M k → F25.M (k + 1) ∧ ∀ a0, LeO (F25.f k a0) (F25.f (k + 1) a0) := by
  rintro k ih0
  refine ⟨?_, ?_⟩ <;> (try unfold F25.M) <;> intros <;> (first | unfold F25.l0 | unfold F25.f) <;> repeat' (with_reducible first | exact ih0 _ _ _ | exact F55.m _ _ | exact LeO.refl _ | exact LeO.none _ | refine LeO.ite ?_ ?_ | refine LeO.bind ?_ fun _ => ?_)
theorem F25.ml : ∀ k, F25.M k
 | 0 => fun _ _ _ r h => by simp [F25.l0] at h
 | k + 1 => (F25.mt k (F25.ml k)).1
theorem F25.m a0 k : LeO (F25.f k a0) (F25.f (k + 1) a0) := (F25.mt k (F25.ml k)).2 a0
theorem F25.c (k : Nat) (a0 : ByteArray) (r1 : List (S38)) (r2 : Int) (w : World) (hG : Glob w) (H : F25.f k a0 = some (r1, r2)) :
  Calls prog 37 #[.string a0] w fun e w' => ∃ v0_ : Value, e = .returned (.tuple #[v0_, .int .i64 r2]) ∧ Kd.R k38 38 w' w.heap.size (fun _ => True) v0_ r1 ∧ Below w.heap.size w w' := by
 have hu38 := underlying38
 have HB := sqh w
 unfold F25.f at H
 obtain ⟨y0, hy0⟩ : ∃ y_ : List (S38), y_ = (([] : List (S38))) := ⟨_, rfl⟩
 replace H : (F25.l0 k a0 y0 0) = some (r1, r2) := sqW hy0 H
 have Ny0 := sqa hy0
 clear hy0
 have H' := sqa H
 clear H
 go_enter func37, ntmps37
 go_wp2_with (first | ((with_reducible refine sqd 11 rfl ?_); refine Kd.R_lit k38 _ 38 ?hg (N := 11) ?hd (xs := ([] : List (S38))) (inner := []) (ok := fun _ => True) (okp := fun _ => True) ?hr ?hp (fun _ hk => hk) trivial (Below.refl _ _) (Nat.le_refl _) (by simp) ?_; (case hd => rfl); (case hg => rfl); (case hr => exact Z8); (case hp => exact Z23); intro v0 w2 ho3 hb hg_ hnew_; clear hg_ hnew_; (first | rw [← Ny0.out] at ho3 | (simp only [Int.reduceToNat] at ho3; rw [← Ny0.out] at ho3)); have O0 := sqL ho3 (sqB HB); replace HB := sqS (sqB HB) hb; clear hb ho3))
 go_loopg [4, 5] k (fun kq v4 v5 w' => ∃ (x4_1 : List (S38)) (x5_1 : Int), v5 = .int .i64 x5_1 ∧ Aside0 (F25.l0 kq a0 x4_1 x5_1 = some (r1, r2)) ∧ Aside0 (kq ≤ k) ∧ Aside0 (Kd.R k38 38 w' w.heap.size (fun _ => True) v4 x4_1) ∧ Aside0 (Below w.heap.size w w'))
 case atStart => exact ⟨(y0), (0), Z2, H', ⟨Nat.le_refl _⟩, ⟨sqR O0⟩, ⟨sqB HB⟩⟩
 case round =>
  clear H'
  obtain ⟨x4_1, x5_1, rfl, HA, HK1, O1, HB⟩ := hrel
  cases gk with
  | zero => exact absurd HA.out (by simp [F25.l0])
  | succ k1 =>
   have H := HA.out
   clear HA
   simp only [F25.l0] at H
   obtain ⟨c4, H⟩ := sqI H
   have c4b0 := eq_true c4
   have c4b1 : decide (0 ≤ x5_1) = true := decide_eq_true c4
   clear c4
   obtain ⟨c5, H⟩ := sqI H
   have c5b0 := eq_true c5
   have c5b1 : decide (x5_1 ≤ (a0.size : Int)) = true := decide_eq_true c5
   clear c5
   obtain ⟨⟨t0, t1, t2⟩, A6, H⟩ := sqD H
   try dsimp only at H
   obtain ⟨⟨t603, t604, t3⟩, A7, H⟩ := sqD H
   try dsimp only at H
   by_cases c8 : t2 = true
   ·subst c8
    rw [if_pos rfl] at H
    by_cases c9 : t3 = true
    ·subst c9
     rw [if_pos rfl] at H
     obtain ⟨c10, H⟩ := sqI H
     have LMc0 := sqa c10
     clear c10
     obtain ⟨y1, hy1⟩ : ∃ y_ : List (S38), y_ = (x4_1 ++ [(⟨t603, t604⟩ : S38)]) := ⟨_, rfl⟩
     replace H : (F25.l0 k1 a0 y1 (wrap64 (x5_1 + (wrap64 ((t0.size : Int) + 1))))) = some (r1, r2) := sqW hy1 H
     have Ny1 := sqa hy1
     clear hy1
     have H' := sqa H
     clear H
     go_wp2_with (first | ((with_reducible refine sqc 84 rfl ?_); refine sqC (some 16) func84 #[.string (a0.extract (x5_1 : Int).toNat a0.size), .string (⟨#[10]⟩ : ByteArray)] ?_; (with_reducible refine (strings_Cut.calls (a0.extract (x5_1 : Int).toNat a0.size) (⟨#[10]⟩ : ByteArray) t0 t1 true _ ?sideG A6.1).mono ?_); (case sideG => exact Z93); refine sqV fun w1 hb => ?_; replace O1 := sqU O1 hb; replace HB := sqS (sqB HB) hb) | ((with_reducible refine sqc 85 rfl ?_); refine sqC (some 22) func85 #[.string t0] ?_; (with_reducible refine (F55.c k1 t0 t603 t604 true _ ?sideG A7.1).mono ?_); (case sideG => exact Z93); refine sqV fun w3 hb => ?_; replace O1 := sqU O1 hb; replace HB := sqS (sqB HB) hb) | ((with_reducible refine sqd 9 rfl ?_); refine sqBx w (sqB HB) (cs := #[.int .i64 0, .string (⟨#[]⟩ : ByteArray)]) (t := 38) ?_; intro gb606 hg w4 B0 E0 HB hb; replace O1 := sqa (Kd.R_below (Kd.R_elderB (sqR O1) gb606 (Nat.le_of_eq hg.symm)) hb); clear hb hg; have := sqY2 B0) | ((with_reducible refine gate_builtin (b := .append) (xs := #[.tmp 33, .tmp 35]) rfl ?_); at_builtin; refine Kd.R_append k38 (w0 := w) w.heap.size rfl (.tmp 33) (.tmp 35) 52 38 (.agg #[(.int .i64 0), (.string ⟨#[]⟩)]) 24 rfl underlying52 info38 rfl (by decide) (by omega) u4 x4_1 (⟨t603, t604⟩ : S38) [.int .i64 t603, .string t604] (fun k_ => k_ ≠ gb606) (fun _ => False) rfl Z8 ?aP (fun _ hk => hk.elim) ?aF ?aO ?aB ?aS ?aL ?_; (case aP => exact k38_mkM _ _ _ (⟨t603, t604⟩ : S38)); (case aB => exact (sqB1 HB E0)); (case aF => exact (fun k_ hk => Kd.freshB (g := gb606) (o := .cells #[.int .i64 t603, .string t604] 38 (0, 0)) (Z94 B0) k_ hk)); (case aO => exact (by (with_reducible repeat (first | apply Kd.R_alloc | apply Kd.R_drewN | apply Kd.R_drew)); exact Kd.R_mono (Kd.R_far (p := ⟨gb606, 1, none⟩) (Kd.R_far (p := ⟨gb606, 0, none⟩) (Kd.R_mono O1.1 (fun k_ hk => (⟨hk, hk.2⟩ : _ ∧ k_ ≠ gb606))) (fun _ hk => hk.2) (.int .i64 t603)) (fun _ hk => hk.2) (.string t604)) (fun _ hk => hk.1.2))); (case aS => exact (below_size (sqB1 HB E0))); (case aL => exact Z15 LMc0); intro v1 w5 ho hb hg hat; rw [← Ny1.out] at ho; replace B0 := sqa (blk_grown (g := gb606) (o := .cells #[.int .i64 t603, .string t604] 38 (0, 0)) (Z94 B0) hg (Kd.R_away O1.1 (fun _ hk => hk.2))); replace HB := sqa (hb); have O2 := sqa (ho); clear O1; clear ho hb hg hat))
     go_roundg k1
     case measure => have := HK1.out; omega
     case rel => exact ⟨(y1), (wrap64 (x5_1 + (wrap64 ((t0.size : Int) + 1)))), Z2, H', ⟨Z15 HK1⟩, ⟨Z83 O2⟩, ⟨sqB1 HB E0⟩⟩
    obtain rfl := sqb c9
    rw [if_neg sqF] at H
    obtain ⟨rfl, rfl⟩ := sqO2 H
    go_wp2_with (first | ((with_reducible refine sqc 84 rfl ?_); refine sqC (some 16) func84 #[.string (a0.extract (x5_1 : Int).toNat a0.size), .string (⟨#[10]⟩ : ByteArray)] ?_; (with_reducible refine (strings_Cut.calls (a0.extract (x5_1 : Int).toNat a0.size) (⟨#[10]⟩ : ByteArray) t0 t1 true _ ?sideG A6.1).mono ?_); (case sideG => exact Z93); refine sqV fun w6 hb => ?_; replace O1 := sqU O1 hb; replace HB := sqS (sqB HB) hb) | ((with_reducible refine sqc 85 rfl ?_); refine sqC (some 22) func85 #[.string t0] ?_; (with_reducible refine (F55.c k1 t0 t603 t604 false _ ?sideG A7.1).mono ?_); (case sideG => exact Z93); refine sqV fun w7 hb => ?_; replace O1 := sqU O1 hb; replace HB := sqS (sqB HB) hb) | ((with_reducible refine sqd 9 rfl ?_); refine sqBx w (sqB HB) (cs := #[.int .i64 0, .string (⟨#[]⟩ : ByteArray)]) (t := 38) ?_; intro gb606 hg w8 B0 E0 HB hb; replace O1 := sqa (Kd.R_below (Kd.R_elderB (sqR O1) gb606 (Nat.le_of_eq hg.symm)) hb); clear hb hg; have := sqY2 B0))
    go_ret2
    exact ⟨_, Z14, Z95 O1, sqB1 HB E0⟩
   obtain rfl := sqb c8
   rw [if_neg sqF] at H
   obtain ⟨rfl, rfl⟩ := sqO2 H
   go_wp2_with (first | ((with_reducible refine sqc 84 rfl ?_); refine sqC (some 16) func84 #[.string (a0.extract (x5_1 : Int).toNat a0.size), .string (⟨#[10]⟩ : ByteArray)] ?_; (with_reducible refine (strings_Cut.calls (a0.extract (x5_1 : Int).toNat a0.size) (⟨#[10]⟩ : ByteArray) t0 t1 false _ ?sideG A6.1).mono ?_); (case sideG => exact Z93); refine sqV fun w9 hb => ?_; replace O1 := sqU O1 hb; replace HB := sqS (sqB HB) hb) | ((with_reducible refine sqc 85 rfl ?_); refine sqC (some 22) func85 #[.string t0] ?_; (with_reducible refine (F55.c k1 t0 t603 t604 t3 _ ?sideG A7.1).mono ?_); (case sideG => exact Z93); refine sqV fun w21 hb => ?_; replace O1 := sqU O1 hb; replace HB := sqS (sqB HB) hb) | ((with_reducible refine sqd 9 rfl ?_); refine sqBx w (sqB HB) (cs := #[.int .i64 0, .string (⟨#[]⟩ : ByteArray)]) (t := 38) ?_; intro gb606 hg w22 B0 E0 HB hb; replace O1 := sqa (Kd.R_below (Kd.R_elderB (sqR O1) gb606 (Nat.le_of_eq hg.symm)) hb); clear hb hg; have := sqY2 B0))
   go_ret2
   exact ⟨_, Z14, Z95 O1, sqB1 HB E0⟩
end
end Go.Proofs.YtofmlbgfcohhoaaGreatDoor.PFnReadJournal
