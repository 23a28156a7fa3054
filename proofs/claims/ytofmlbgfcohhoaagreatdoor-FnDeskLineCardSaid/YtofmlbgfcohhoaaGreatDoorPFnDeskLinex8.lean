import Derived.Test.YtofmlbgfcohhoaaGreatDoorPFnDeskLinex0
import Derived.Test.YtofmlbgfcohhoaaGreatDoorPFnDeskLinex6
set_option maxHeartbeats 8000000
set_option maxRecDepth 100000
namespace Go.Proofs.YtofmlbgfcohhoaaGreatDoor.PFnDeskLine
open Go.RowKit Go.Proofs.YtofmlbgfcohhoaaGreatDoorW.PrintWords Go.Proofs.YtofmlbgfcohhoaaGreatDoorW.PrintLast Go.Proofs.YtofmlbgfcohhoaaGreatDoorW.PrintMore Go.Proofs.YtofmlbgfcohhoaaGreatDoor.Lib Go.Proofs.Tryz
attribute [local go_sem] max2_int min2_int max_two min_two max_three min_three max_four min_four
set_option linter.unusedVariables false
set_option linter.unusedSimpArgs false

section
attribute [local go_sem high] eqA38
/-! ### impl_deedText: function 88 -/
mutual
def impl_deedText.j0 : Nat → Bool → Bool → Int → ByteArray → Option (ByteArray)
 | 0, _, _, _, _ => none
 | k + 1, x4, x0, x1, x2 => if x0 = true then (if 6 + x2.size ≤ 9223372036854775807 then (some ((⟨#[100, 97, 110, 99, 101, 32]⟩ : ByteArray) ++ x2)) else (none)) else (if x1 = 1 then (impl_deedText.j1 k x4 x1 x2) else (impl_deedText.j1 k false x1 x2))
def impl_deedText.j1 : Nat → Bool → Int → ByteArray → Option (ByteArray)
 | 0, _, _, _ => none
 | k + 1, x0, x1, x2 => if x0 = true then (if 5 + x2.size ≤ 9223372036854775807 then (some ((⟨#[116, 97, 107, 101, 32]⟩ : ByteArray) ++ x2)) else (none)) else (if (x1 == 2 && (x2.toList == ([] : List UInt8))) = true then (some (⟨#[109, 105, 114, 114, 111, 114]⟩ : ByteArray)) else (if (x1 == 3 && (x2.toList == ([] : List UInt8))) = true then (some (⟨#[117, 110, 116, 105, 101]⟩ : ByteArray)) else (if (x1 == 4 && (x2.toList == ([] : List UInt8))) = true then (some (⟨#[98, 97, 99, 107]⟩ : ByteArray)) else (some (⟨#[]⟩ : ByteArray)))))
end
def impl_deedText.f (k : Nat) (a0_0 : Int) (a0_1 : ByteArray) : Option (ByteArray) := (impl_ReadFraction.f k a0_1).bind fun bt0 => (if a0_0 = 0 then ((impl_isDance.f a0_1).bind fun t0 => (impl_deedText.j0 k bt0.2.2 t0 a0_0 a0_1)) else (impl_deedText.j0 k bt0.2.2 false a0_0 a0_1))
abbrev impl_deedText.M (k : Nat) : Prop := (∀ y0 y1 y2 y3, LeO (impl_deedText.j0 k y0 y1 y2 y3) (impl_deedText.j0 (k + 1) y0 y1 y2 y3)) ∧ (∀ y0 y1 y2, LeO (impl_deedText.j1 k y0 y1 y2) (impl_deedText.j1 (k + 1) y0 y1 y2))
theorem impl_deedText.mono_t : ∀ k, impl_deedText.M k → impl_deedText.M (k + 1) ∧ ∀ a0 a1, LeO (impl_deedText.f k a0 a1) (impl_deedText.f (k + 1) a0 a1) := by
  rintro k ⟨ih0, ih1⟩
  refine ⟨⟨?_, ?_⟩, ?_⟩ <;> intros <;> (first | unfold impl_deedText.j0 | unfold impl_deedText.j1 | unfold impl_deedText.f) <;> repeat' (with_reducible first | exact ih0 _ _ _ _ | exact ih1 _ _ _ | exact impl_ReadFraction.mono _ _ | exact LeO.refl _ | exact LeO.none _ | refine LeO.ite ?_ ?_ | refine LeO.bind ?_ fun _ => ?_)
theorem impl_deedText.mono_l : ∀ k, impl_deedText.M k
 | 0 => ⟨fun _ _ _ _ r h => by simp [impl_deedText.j0] at h, fun _ _ _ r h => by simp [impl_deedText.j1] at h⟩
 | k + 1 => (impl_deedText.mono_t k (impl_deedText.mono_l k)).1
theorem impl_deedText.mono a0 a1 k : LeO (impl_deedText.f k a0 a1) (impl_deedText.f (k + 1) a0 a1) := (impl_deedText.mono_t k (impl_deedText.mono_l k)).2 a0 a1
theorem impl_deedText.calls (k : Nat) (a0_0 : Int) (a0_1 : ByteArray) (r : ByteArray) (w : World) (hG : Glob w) (H : impl_deedText.f k a0_0 a0_1 = some r) :
  Calls prog 88 #[.agg #[.int .i64 a0_0, .string a0_1]] w fun e w' => e = .returned (.string r) ∧ Below w.heap.size w w' := by
 have hu38 := underlying38
 have hu31 := underlying31
 have HB := sqh w
 unfold impl_deedText.f at H
 obtain ⟨⟨t238, t0, t1⟩, A2, H⟩ := sqD H
 try dsimp only at H
 have HC3 := sqa H
 clear H
 go_enter func88, ntmps88
 go_upto_region 2 with (first | ((with_reducible refine sqd 1 rfl ?_); refine sqBx w (sqB HB) (cs := #[.int .i64 a0_0, .string a0_1]) (t := 38) ?_; intro g0 hg w4 B0 E0 HB hb; clear hb hg; obtain ⟨_, _, _, _⟩ := sqY2 B0) | ((with_reducible refine sqc 126 rfl ?_); refine sqC (some 8) func126 #[.string a0_1] ?_; (with_reducible refine (impl_ReadFraction.calls k a0_1 t238 t0 t1 _ ?sideG A2.1).mono ?_); (case sideG => exact Z6 E0); refine sqV fun w6 hb => ?_; replace B0 := sqT B0 hb; replace HB := sqS (sqB1 HB E0) hb) | ((with_reducible refine sqd 3 rfl ?_); refine sqBx w (sqB1 HB E0) (cs := #[.int .i64 0, .int .i64 0]) (t := 31) ?_; intro g1 hg w7 B2 E1 HB hb; obtain ⟨N0, N1⟩ := sqM hg B0; replace B0 := sqT B0 hb; clear hb hg; have := N1.1; have := N0.1; obtain ⟨_, _, _, _⟩ := sqY2 B2))
 (try simp only [Act.put, List.setIfInBounds_toArray, List.set_cons_zero, List.set_cons_succ])
 go_cut [11] (fun v0 wc => ∃ (kq : Nat) (x0 : Bool), v0 = .bool x0 ∧ Aside0 (impl_deedText.j0 kq t1 x0 a0_0 a0_1 = some r) ∧ Aside0 (kq ≤ k) ∧ Aside0 (wc.heap[g0]? = some (.cells #[.int .i64 a0_0, .string a0_1] 38 (0, 0))) ∧ Aside0 (wc.heap[g1]? = some (.cells #[.int .i64 t238, .int .i64 t0] 31 (0, 0))) ∧ Aside0 (Below w.heap.size w wc))
 case first =>
  have H := HC3.1
  clear HC3
  by_cases c10 : a0_0 = 0
  ·rw [if_pos c10] at H
   have c0 := sqe1 c10
   have c1 := sqn0 c10
   clear c10
   (first | rw [c0] | (simp only [i64_w, i32_w]; rw [c0]) | skip)
   obtain ⟨t2, A0, H⟩ := sqD H
   have H' := sqa H
   clear H
   have := N0.1
   have := N1.1
   obtain ⟨_, _, _, _⟩ := sqY2 B0
   go_wp2_with (first | (go_at_call 71; (with_reducible refine (impl_isDance.calls a0_1 t2 _ A0.1).mono ?_); rintro e w0 ⟨rfl, hb⟩; replace B0 := sqH N0 B0 hb; replace B2 := sqa (blk_below (g := g1) (o := .cells #[.int .i64 t238, .int .i64 t0] 31 (0, 0)) (Z101 B2) hb); replace HB := sqS (sqB2 HB E0 E1) hb))
   go_meet
   case rel => exact ⟨_, (t2), Z1, H', ⟨Z11⟩, ⟨sqK B0⟩, ⟨sqK B2⟩, ⟨sqB2 HB E0 E1⟩⟩
  rw [if_neg c10] at H
  have c0 := sqe0 c10
  have c1 := sqn1 c10
  (first | rw [c0] | (simp only [i64_w, i32_w]; rw [c0]) | skip)
  have H' := sqa H
  clear H
  have := N0.1
  have := N1.1
  obtain ⟨_, _, _, _⟩ := sqY2 B0
  go_wp2
  go_meet
  case rel => exact ⟨_, (false), Z1, H', ⟨Z11⟩, ⟨Z9 N0 B0⟩, ⟨Z101 B2⟩, ⟨sqB2 HB E0 E1⟩⟩
 case rest =>
  clear HC3
  obtain ⟨kq, x0, rfl, HA, HJ2, B0, B2, HB⟩ := hcut
  cases kq with
  | zero => exact absurd HA.out (by simp [impl_deedText.j0])
  | succ kj2 =>
   have H := HA.out
   clear HA
   simp only [impl_deedText.j0] at H
   by_cases c2 : x0 = true
   ·subst c2
    rw [if_pos rfl] at H
    obtain ⟨c3, H⟩ := sqI H
    have c4 := eq_true c3
    have c5 : decide (6 + a0_1.size ≤ 9223372036854775807) = true := decide_eq_true c3
    try have c6 : (9223372036854775807 < 6 + a0_1.size) = False := eq_false (Nat.not_lt.2 c3)
    obtain rfl := sqo H
    have := N0.1
    have := N1.1
    obtain ⟨_, _, _, _⟩ := sqY2 B0
    go_wp2
    go_ret
    exact ⟨Z5, sqB2 HB E0 E1⟩
   obtain rfl := sqb c2
   rw [if_neg sqF] at H
   have HC0 := sqa H
   clear H
   go_upto_region 4 with (fail)
   go_cut [23] (fun v1 wc => ∃ (kq : Nat) (x1 : Bool), v1 = .bool x1 ∧ Aside0 (impl_deedText.j1 kq x1 a0_0 a0_1 = some r) ∧ Aside0 (kq ≤ kj2) ∧ Aside0 (wc.heap[g0]? = some (.cells #[.int .i64 a0_0, .string a0_1] 38 (0, 0))) ∧ Aside0 (wc.heap[g1]? = some (.cells #[.int .i64 t238, .int .i64 t0] 31 (0, 0))) ∧ Aside0 (Below w.heap.size w wc))
   case first =>
    have H := HC0.1
    clear HC0
    by_cases c7 : a0_0 = 1
    ·rw [if_pos c7] at H
     have c8 := sqe1 c7
     have c9 := sqn0 c7
     clear c7
     (first | rw [c8] | (simp only [i64_w, i32_w]; rw [c8]) | skip)
     have H' := sqa H
     clear H
     have := N0.1
     have := N1.1
     obtain ⟨_, _, _, _⟩ := sqY2 B0
     go_wp2
     go_meet
     case rel => exact ⟨_, (t1), Z1, H', ⟨Z47⟩, ⟨sqK B0⟩, ⟨sqK B2⟩, ⟨sqB2 HB E0 E1⟩⟩
    rw [if_neg c7] at H
    have c8 := sqe0 c7
    have c9 := sqn1 c7
    (first | rw [c8] | (simp only [i64_w, i32_w]; rw [c8]) | skip)
    have H' := sqa H
    clear H
    have := N0.1
    have := N1.1
    obtain ⟨_, _, _, _⟩ := sqY2 B0
    go_wp2
    go_meet
    case rel => exact ⟨_, (false), Z1, H', ⟨Z47⟩, ⟨sqK B0⟩, ⟨sqK B2⟩, ⟨sqB2 HB E0 E1⟩⟩
   case rest =>
    clear HC0
    obtain ⟨kq, x1, rfl, HA, HJ0, B0, B2, HB⟩ := hcut
    cases kq with
    | zero => exact absurd HA.out (by simp [impl_deedText.j1])
    | succ kj0 =>
     have H := HA.out
     clear HA
     simp only [impl_deedText.j1] at H
     by_cases c27 : x1 = true
     ·subst c27
      rw [if_pos rfl] at H
      obtain ⟨c28, H⟩ := sqI H
      have c13 := eq_true c28
      have c14 : decide (5 + a0_1.size ≤ 9223372036854775807) = true := decide_eq_true c28
      try have c15 : (9223372036854775807 < 5 + a0_1.size) = False := eq_false (Nat.not_lt.2 c28)
      obtain rfl := sqo H
      have := N0.1
      have := N1.1
      obtain ⟨_, _, _, _⟩ := sqY2 B0
      go_wp2
      go_ret
      exact ⟨Z5, sqB2 HB E0 E1⟩
     obtain rfl := sqb c27
     rw [if_neg sqF] at H
     by_cases c31 : (a0_0 == 2 && (a0_1.toList == ([] : List UInt8))) = true
     ·rw [if_pos c31] at H
      have c19 : (a0_0 == 2 && (a0_1.toList == ([] : List UInt8))) = true := c31
      try have c20 : (a0_0 == 2 && a0_1.toList.isEmpty) = true := by (have h_ := c19; (repeat rw [sqy] at h_); exact h_)
      (try (have c21 : decide (a0_0 = 2 && (a0_1.toList == ([] : List UInt8))) = true := by simpa using c31))
      (try (have c23 : (a0_0 == 2 && (a0_1.toList == ([] : List UInt8))) = true := by simpa using c31))
      clear c31
      obtain rfl := sqo H
      have := N0.1
      have := N1.1
      obtain ⟨_, _, _, _⟩ := sqY2 B0
      go_wp2
      go_ret
      exact ⟨Z5, sqB2 HB E0 E1⟩
     rw [if_neg c31] at H
     have c19 : (a0_0 == 2 && (a0_1.toList == ([] : List UInt8))) = false := by simpa using c31
     try have c20 : (a0_0 == 2 && a0_1.toList.isEmpty) = false := by (have h_ := c19; (repeat rw [sqy] at h_); exact h_)
     (try (have c21 : decide (a0_0 = 2 && (a0_1.toList == ([] : List UInt8))) = false := by simpa using c31))
     (try (have c23 : (a0_0 == 2 && (a0_1.toList == ([] : List UInt8))) = false := by simpa using c31))
     (try (have c24 : ¬ (a0_0 = 2 && (a0_1.toList == ([] : List UInt8))) := by simpa using c31))
     clear c31
     by_cases c34 : (a0_0 == 3 && (a0_1.toList == ([] : List UInt8))) = true
     ·rw [if_pos c34] at H
      have c26 : (a0_0 == 3 && (a0_1.toList == ([] : List UInt8))) = true := c34
      try have c29 : (a0_0 == 3 && a0_1.toList.isEmpty) = true := by (have h_ := c26; (repeat rw [sqy] at h_); exact h_)
      (try (have c30 : decide (a0_0 = 3 && (a0_1.toList == ([] : List UInt8))) = true := by simpa using c34))
      (try (have c32 : (a0_0 == 3 && (a0_1.toList == ([] : List UInt8))) = true := by simpa using c34))
      clear c34
      obtain rfl := sqo H
      have := N0.1
      have := N1.1
      obtain ⟨_, _, _, _⟩ := sqY2 B0
      go_wp2
      go_ret
      exact ⟨Z5, sqB2 HB E0 E1⟩
     rw [if_neg c34] at H
     have c26 : (a0_0 == 3 && (a0_1.toList == ([] : List UInt8))) = false := by simpa using c34
     try have c29 : (a0_0 == 3 && a0_1.toList.isEmpty) = false := by (have h_ := c26; (repeat rw [sqy] at h_); exact h_)
     (try (have c30 : decide (a0_0 = 3 && (a0_1.toList == ([] : List UInt8))) = false := by simpa using c34))
     (try (have c32 : (a0_0 == 3 && (a0_1.toList == ([] : List UInt8))) = false := by simpa using c34))
     (try (have c33 : ¬ (a0_0 = 3 && (a0_1.toList == ([] : List UInt8))) := by simpa using c34))
     clear c34
     by_cases c37 : (a0_0 == 4 && (a0_1.toList == ([] : List UInt8))) = true
     ·rw [if_pos c37] at H
      have c35 : (a0_0 == 4 && (a0_1.toList == ([] : List UInt8))) = true := c37
      try have c36 : (a0_0 == 4 && a0_1.toList.isEmpty) = true := by (have h_ := c35; (repeat rw [sqy] at h_); exact h_)
      (try (have c38 : decide (a0_0 = 4 && (a0_1.toList == ([] : List UInt8))) = true := by simpa using c37))
      (try (have c39 : (a0_0 == 4 && (a0_1.toList == ([] : List UInt8))) = true := by simpa using c37))
      clear c37
      obtain rfl := sqo H
      have := N0.1
      have := N1.1
      obtain ⟨_, _, _, _⟩ := sqY2 B0
      go_wp2
      go_ret
      exact ⟨Z5, sqB2 HB E0 E1⟩
     rw [if_neg c37] at H
     have c35 : (a0_0 == 4 && (a0_1.toList == ([] : List UInt8))) = false := by simpa using c37
     try have c36 : (a0_0 == 4 && a0_1.toList.isEmpty) = false := by (have h_ := c35; (repeat rw [sqy] at h_); exact h_)
     (try (have c38 : decide (a0_0 = 4 && (a0_1.toList == ([] : List UInt8))) = false := by simpa using c37))
     (try (have c39 : (a0_0 == 4 && (a0_1.toList == ([] : List UInt8))) = false := by simpa using c37))
     (try (have c40 : ¬ (a0_0 = 4 && (a0_1.toList == ([] : List UInt8))) := by simpa using c37))
     clear c37
     obtain rfl := sqo H
     have := N0.1
     have := N1.1
     obtain ⟨_, _, _, _⟩ := sqY2 B0
     go_wp2
     go_ret
     exact ⟨Z5, sqB2 HB E0 E1⟩

/-! ### slices_Index_string_string: function 124 -/
def slices_Index_string_string.l0 : Nat → List ByteArray → ByteArray → Int → Int → Option (Int)
 | 0, _, _, _, _ => none
 | k + 1, x0, x1, x7, x8 => if x8 < x7 then (if 0 ≤ x8 then (if x8 < (x0.length : Int) then (if x1.toList = (rdOf ByteArray.empty x0 x8).toList then (some x8) else (slices_Index_string_string.l0 k x0 x1 x7 (wrap64 (x8 + 1)))) else (none)) else (none)) else (some (-1))
def slices_Index_string_string.f (k : Nat) (l0 : List ByteArray) (a1 : ByteArray) : Option (Int) := slices_Index_string_string.l0 k l0 a1 (l0.length : Int) 0
abbrev slices_Index_string_string.M (k : Nat) : Prop := (∀ y0 y1 y2 y3, LeO (slices_Index_string_string.l0 k y0 y1 y2 y3) (slices_Index_string_string.l0 (k + 1) y0 y1 y2 y3))
theorem slices_Index_string_string.mono_t : ∀ k, slices_Index_string_string.M k → slices_Index_string_string.M (k + 1) ∧ ∀ a0 a1, LeO (slices_Index_string_string.f k a0 a1) (slices_Index_string_string.f (k + 1) a0 a1) := by
  rintro k ih0
  refine ⟨?_, ?_⟩ <;> (try unfold slices_Index_string_string.M) <;> intros <;> (first | unfold slices_Index_string_string.l0 | unfold slices_Index_string_string.f) <;> repeat' (with_reducible first | exact ih0 _ _ _ _ | exact LeO.refl _ | exact LeO.none _ | refine LeO.ite ?_ ?_ | refine LeO.bind ?_ fun _ => ?_)
theorem slices_Index_string_string.mono_l : ∀ k, slices_Index_string_string.M k
 | 0 => fun _ _ _ _ r h => by simp [slices_Index_string_string.l0] at h
 | k + 1 => (slices_Index_string_string.mono_t k (slices_Index_string_string.mono_l k)).1
theorem slices_Index_string_string.mono a0 a1 k : LeO (slices_Index_string_string.f k a0 a1) (slices_Index_string_string.f (k + 1) a0 a1) := (slices_Index_string_string.mono_t k (slices_Index_string_string.mono_l k)).2 a0 a1
theorem slices_Index_string_string.calls (k : Nat) (A0 : Option Addr) (c0 : Nat) (l0 : List ByteArray) (a1 : ByteArray) (r : Int) (w : World) (hr0 : Kd.C Kd.string w A0 l0.length l0) (hc0 : l0.length ≤ c0) (H : slices_Index_string_string.f k l0 a1 = some r) :
  Calls prog 124 #[.slice A0 l0.length c0, .string a1] w fun e w' => e = .returned (.int .i64 r) ∧ Drawn0 w w' := by
 have HR0 := sqa hr0
 have HC0 := sqa hc0
 clear hr0 hc0
 unfold slices_Index_string_string.f at H
 have H' := sqa H
 clear H
 go_enter func124, ntmps124
 go_wp2
 go_loopg [8] k (fun kq v8 w' => ∃ (x8_1 : Int), v8 = .int .i64 x8_1 ∧ Aside0 (slices_Index_string_string.l0 kq l0 a1 (l0.length : Int) x8_1 = some r) ∧ Aside0 (kq ≤ k) ∧ Drawn0 w w')
 case atStart => exact ⟨(0), Z1, H', ⟨Nat.le_refl _⟩, Z15⟩
 case round =>
  clear H'
  obtain ⟨x8_1, rfl, HA, HK1, ⟨m1, rfl⟩⟩ := hrel
  cases gk with
  | zero => exact absurd HA.out (by simp [slices_Index_string_string.l0])
  | succ k1 =>
   have H := HA.out
   clear HA
   simp only [slices_Index_string_string.l0] at H
   by_cases c3 : x8_1 < (l0.length : Int)
   ·rw [if_pos c3] at H
    have c3b0 : decide (x8_1 < (l0.length : Int)) = true := decide_eq_true c3
    clear c3
    obtain ⟨c4, H⟩ := sqI H
    have c4b0 : decide (0 ≤ x8_1) = true := decide_eq_true c4
    clear c4
    obtain ⟨c5, H⟩ := sqI H
    have c5b0 : decide (x8_1 < (l0.length : Int)) = true := decide_eq_true c5
    clear c5
    by_cases c6 : a1.toList = (rdOf ByteArray.empty l0 x8_1).toList
    ·rw [if_pos c6] at H
     have c6b0 : (a1.toList == (rdOf ByteArray.empty l0 x8_1).toList) = true := sqe1 c6
     have c6b1 : (a1.toList != (rdOf ByteArray.empty l0 x8_1).toList) = false := sqn0 c6
     clear c6
     obtain rfl := sqo H
     have p0 : 0 ≤ (x8_1 : Int) := of_decide_eq_true Z16
     have q0 : x8_1 < (l0.length : Int) := of_decide_eq_true Z16
     obtain ⟨ad0, e0, hx0⟩ := Kd.at_string HR0.1 x8_1 p0 q0
     cases e0
     replace p0 := eq_true p0
     replace q0 := eq_true q0
     go_wp2
     go_ret
     exact ⟨Z1, Z15⟩
    rw [if_neg c6] at H
    have c6b0 : (a1.toList == (rdOf ByteArray.empty l0 x8_1).toList) = false := sqe0 c6
    have c6b1 : (a1.toList != (rdOf ByteArray.empty l0 x8_1).toList) = true := sqn1 c6
    have H' := sqa H
    clear H
    have p0 : 0 ≤ (x8_1 : Int) := of_decide_eq_true Z16
    have q0 : x8_1 < (l0.length : Int) := of_decide_eq_true Z16
    obtain ⟨ad0, e0, hx0⟩ := Kd.at_string HR0.1 x8_1 p0 q0
    cases e0
    replace p0 := eq_true p0
    replace q0 := eq_true q0
    go_wp2
    go_roundg k1
    case measure => have := HK1.out; omega
    case rel => exact ⟨(wrap64 (x8_1 + 1)), Z1, H', ⟨Z2 HK1⟩, Z15⟩
   rw [if_neg c3] at H
   have c3b0 : decide (x8_1 < (l0.length : Int)) = false := decide_eq_false c3
   clear c3
   obtain rfl := sqo H
   go_wp2
   go_ret
   exact ⟨Z1, Z15⟩

/-! ### impl_readDeed: function 85 -/
def impl_readDeed.f (k : Nat) (a0 : ByteArray) : Option (Int × ByteArray × Bool) := (strings_Cut.f a0 (⟨#[32]⟩ : ByteArray)).bind fun bt0 => ((slices_Index_string_string.f k (([(⟨#[100, 97, 110, 99, 101]⟩ : ByteArray), (⟨#[116, 97, 107, 101]⟩ : ByteArray), (⟨#[109, 105, 114, 114, 111, 114]⟩ : ByteArray), (⟨#[117, 110, 116, 105, 101]⟩ : ByteArray), (⟨#[98, 97, 99, 107]⟩ : ByteArray)] : List ByteArray)) bt0.1).bind fun t251 => (if a0.toList = ([] : List UInt8) then (some (0, (⟨#[]⟩ : ByteArray), false)) else ((impl_deedText.f k t251 bt0.2.1).bind fun t0 => (if t0.toList = a0.toList then (some (t251, bt0.2.1, true)) else (some (0, (⟨#[]⟩ : ByteArray), false))))))
theorem impl_readDeed.mono : ∀ a0 k, LeO (impl_readDeed.f k a0) (impl_readDeed.f (k + 1) a0) := by
 intro a0 k
 unfold impl_readDeed.f
 repeat' (with_reducible first | exact impl_deedText.mono _ _ _ | exact slices_Index_string_string.mono _ _ _ | exact LeO.refl _ | exact LeO.none _ | refine LeO.ite ?_ ?_ | refine LeO.bind ?_ fun _ => ?_)
theorem impl_readDeed.calls (k : Nat) (a0 : ByteArray) (r1 : Int) (r2 : ByteArray) (r3 : Bool) (w : World) (hG : Glob w) (H : impl_readDeed.f k a0 = some (r1, r2, r3)) :
  Calls prog 85 #[.string a0] w fun e w' => e = .returned (.tuple #[.agg #[.int .i64 r1, .string r2], .bool r3]) ∧ Below w.heap.size w w' := by
 have hu38 := underlying38
 have HB := sqh w
 unfold impl_readDeed.f at H
 obtain ⟨⟨t0, t1, t2⟩, A2, H⟩ := sqD H
 try dsimp only at H
 obtain ⟨y0, hy0⟩ : ∃ y_ : List ByteArray, y_ = (([(⟨#[100, 97, 110, 99, 101]⟩ : ByteArray), (⟨#[116, 97, 107, 101]⟩ : ByteArray), (⟨#[109, 105, 114, 114, 111, 114]⟩ : ByteArray), (⟨#[117, 110, 116, 105, 101]⟩ : ByteArray), (⟨#[98, 97, 99, 107]⟩ : ByteArray)] : List ByteArray)) := ⟨_, rfl⟩
 replace H : ((slices_Index_string_string.f k y0 t0).bind fun t251 => (if a0.toList = ([] : List UInt8) then (some (0, (⟨#[]⟩ : ByteArray), false)) else ((impl_deedText.f k t251 t1).bind fun t3 => (if t3.toList = a0.toList then (some (t251, t1, true)) else (some (0, (⟨#[]⟩ : ByteArray), false)))))) = some (r1, r2, r3) := sqW hy0 H
 have Ny0 := sqa hy0
 clear hy0
 obtain ⟨t251, A3, H⟩ := sqD H
 by_cases c4 : a0.toList = ([] : List UInt8)
 ·rw [if_pos c4] at H
  have c4b0 : (a0.toList == ([] : List UInt8)) = true := sqe1 c4
  try have c4b8 : a0.toList.isEmpty = true := by (have h_ := c4b0; (repeat rw [sqy] at h_); exact h_)
  have c4b1 : (a0.toList != ([] : List UInt8)) = false := sqn0 c4
  clear c4
  obtain ⟨rfl, rfl, rfl⟩ := sqO3 H
  go_enter func85, ntmps85
  go_wp2_with (first | ((with_reducible refine sqd 2 rfl ?_); refine sqBx w (sqB HB) (cs := #[.int .i64 0, .string (⟨#[]⟩ : ByteArray)]) (t := 38) ?_; intro g0 hg w5 B0 E0 HB hb; clear hb hg) | ((with_reducible refine sqc 84 rfl ?_); refine sqC (some 10) func84 #[.string a0, .string (⟨#[32]⟩ : ByteArray)] ?_; (with_reducible refine (strings_Cut.calls a0 (⟨#[32]⟩ : ByteArray) t0 t1 t2 _ ?sideG A2.1).mono ?_); (case sideG => exact Z6 E0); refine sqV fun w6 hb => ?_; replace B0 := sqT B0 hb; replace HB := sqS (sqB1 HB E0) hb) | ((with_reducible refine sqd 14 rfl ?_); refine Kd.R_lit Kd.string _ 9 ?hg (N := 14) ?hd (xs := ([(⟨#[100, 97, 110, 99, 101]⟩ : ByteArray), (⟨#[116, 97, 107, 101]⟩ : ByteArray), (⟨#[109, 105, 114, 114, 111, 114]⟩ : ByteArray), (⟨#[117, 110, 116, 105, 101]⟩ : ByteArray), (⟨#[98, 97, 99, 107]⟩ : ByteArray)] : List ByteArray)) (inner := [.string (⟨#[100, 97, 110, 99, 101]⟩ : ByteArray), .string (⟨#[116, 97, 107, 101]⟩ : ByteArray), .string (⟨#[109, 105, 114, 114, 111, 114]⟩ : ByteArray), .string (⟨#[117, 110, 116, 105, 101]⟩ : ByteArray), .string (⟨#[98, 97, 99, 107]⟩ : ByteArray)]) (ok := fun _ => True) (okp := fun _ => True) ?hr ?hp (fun _ hk => hk) trivial (Below.refl _ _) (Nat.le_refl _) (by simp) ?_; (case hd => rfl); (case hg => rfl); (case hr => exact Z17); (case hp => exact Z102); intro v0 w7 ho8 hb hg_ hnew_; clear hg_ hnew_; (first | rw [← Ny0.out] at ho8 | (simp only [Int.reduceToNat] at ho8; rw [← Ny0.out] at ho8)); have O0 := sqL ho8 (sqB1 HB E0); replace B0 := sqT B0 hb; replace HB := sqS (sqB1 HB E0) hb; clear hb ho8; obtain ⟨Ao9, co9, eo9⟩ := Kd.R_slice O0.1; subst eo9) | ((with_reducible refine sqc 124 rfl ?_); refine sqC (some 16) func124 #[.slice Ao9 y0.length co9, .string t0] ?_; (with_reducible refine (slices_Index_string_string.calls k _ _ y0 t0 t251 _ ?side1 ?side2 A3.1).mono ?_); (case side1 => exact Z7 O0); (case side2 => exact Z8 O0); rintro e w' ⟨rfl, ⟨nd, rfl⟩⟩; refine ⟨_, rfl, ?_⟩; (try (rw [drewN_self w7]; generalize hq_ : World.drewN w7 _ = w7; have n0_ : Aside0 (Kd.R Kd.string 9 w7 w.heap.size (fun _ => True) (.slice Ao9 y0.length co9) y0) := ⟨Z27 O0⟩; have n1_ : Aside0 (w7.heap[g0]? = some (.cells #[.int .i64 0, .string (⟨#[]⟩ : ByteArray)] 38 (0, 0))) := ⟨Z28 B0⟩; have n2_ : Aside0 (Below w.heap.size w w7) := ⟨Z29 E0⟩; clear O0 B0 HB hq_; have O0 := n0_; have B0 := n1_; have HB := n2_; clear n0_ n1_ n2_))) | ((with_reducible refine sqd 7 rfl ?_); refine sqBx w (sqB1 HB E0) (cs := #[.int .i64 0, .string (⟨#[]⟩ : ByteArray)]) (t := 38) ?_; intro g1 hg w0 B2 E1 HB hb; replace O0 := sqU O0 hb; obtain ⟨N0, N1⟩ := sqM hg B0; replace B0 := sqT B0 hb; clear hb hg; have := N1.1; have := N0.1; obtain ⟨_, _, _, _⟩ := sqY2 B2; obtain ⟨_, _, _, _⟩ := sqY2 B0))
  refine sqE g0 38 #[.int .i64 0, .string (⟨#[]⟩ : ByteArray)] (by refine sqPut (cs := #[.int .i64 0, .string (⟨#[]⟩ : ByteArray)]) ?_ 1; refine sqPut (cs := #[.int .i64 0, .string (⟨#[]⟩ : ByteArray)]) ?_ 0; refine sqFar ?_ N0; refine sqFar ?_ N0; exact sqK B0) underlying38 ?_
  exact ⟨Z5, sqB2 HB E0 E1⟩
 rw [if_neg c4] at H
 have c4b0 : (a0.toList == ([] : List UInt8)) = false := sqe0 c4
 try have c4b8 : a0.toList.isEmpty = false := by (have h_ := c4b0; (repeat rw [sqy] at h_); exact h_)
 have c4b1 : (a0.toList != ([] : List UInt8)) = true := sqn1 c4
 obtain ⟨t3, A0, H⟩ := sqD H
 by_cases c0 : t3.toList = a0.toList
 ·rw [if_pos c0] at H
  have c1 := sqe1 c0
  have c2 := sqn0 c0
  clear c0
  obtain ⟨rfl, rfl, rfl⟩ := sqO3 H
  go_enter func85, ntmps85
  go_wp2_with (first | ((with_reducible refine sqd 2 rfl ?_); refine sqBx w (sqB HB) (cs := #[.int .i64 0, .string (⟨#[]⟩ : ByteArray)]) (t := 38) ?_; intro g0 hg w1 B0 E0 HB hb; clear hb hg) | ((with_reducible refine sqc 84 rfl ?_); refine sqC (some 10) func84 #[.string a0, .string (⟨#[32]⟩ : ByteArray)] ?_; (with_reducible refine (strings_Cut.calls a0 (⟨#[32]⟩ : ByteArray) t0 t1 t2 _ ?sideG A2.1).mono ?_); (case sideG => exact Z6 E0); refine sqV fun w2 hb => ?_; replace B0 := sqT B0 hb; replace HB := sqS (sqB1 HB E0) hb) | ((with_reducible refine sqd 14 rfl ?_); refine Kd.R_lit Kd.string _ 9 ?hg (N := 14) ?hd (xs := ([(⟨#[100, 97, 110, 99, 101]⟩ : ByteArray), (⟨#[116, 97, 107, 101]⟩ : ByteArray), (⟨#[109, 105, 114, 114, 111, 114]⟩ : ByteArray), (⟨#[117, 110, 116, 105, 101]⟩ : ByteArray), (⟨#[98, 97, 99, 107]⟩ : ByteArray)] : List ByteArray)) (inner := [.string (⟨#[100, 97, 110, 99, 101]⟩ : ByteArray), .string (⟨#[116, 97, 107, 101]⟩ : ByteArray), .string (⟨#[109, 105, 114, 114, 111, 114]⟩ : ByteArray), .string (⟨#[117, 110, 116, 105, 101]⟩ : ByteArray), .string (⟨#[98, 97, 99, 107]⟩ : ByteArray)]) (ok := fun _ => True) (okp := fun _ => True) ?hr ?hp (fun _ hk => hk) trivial (Below.refl _ _) (Nat.le_refl _) (by simp) ?_; (case hd => rfl); (case hg => rfl); (case hr => exact Z17); (case hp => exact Z102); intro v0 w3 ho0 hb hg_ hnew_; clear hg_ hnew_; (first | rw [← Ny0.out] at ho0 | (simp only [Int.reduceToNat] at ho0; rw [← Ny0.out] at ho0)); have O0 := sqL ho0 (sqB1 HB E0); replace B0 := sqT B0 hb; replace HB := sqS (sqB1 HB E0) hb; clear hb ho0; obtain ⟨Ao0, co0, eo0⟩ := Kd.R_slice O0.1; subst eo0) | ((with_reducible refine sqc 124 rfl ?_); refine sqC (some 16) func124 #[.slice Ao0 y0.length co0, .string t0] ?_; (with_reducible refine (slices_Index_string_string.calls k _ _ y0 t0 t251 _ ?side1 ?side2 A3.1).mono ?_); (case side1 => exact Z7 O0); (case side2 => exact Z8 O0); rintro e w' ⟨rfl, ⟨nd, rfl⟩⟩; refine ⟨_, rfl, ?_⟩; (try (rw [drewN_self w3]; generalize hq_ : World.drewN w3 _ = w3; have n0_ : Aside0 (Kd.R Kd.string 9 w3 w.heap.size (fun _ => True) (.slice Ao0 y0.length co0) y0) := ⟨Z27 O0⟩; have n1_ : Aside0 (w3.heap[g0]? = some (.cells #[.int .i64 0, .string (⟨#[]⟩ : ByteArray)] 38 (0, 0))) := ⟨Z28 B0⟩; have n2_ : Aside0 (Below w.heap.size w w3) := ⟨Z29 E0⟩; clear O0 B0 HB hq_; have O0 := n0_; have B0 := n1_; have HB := n2_; clear n0_ n1_ n2_))) | ((with_reducible refine sqd 7 rfl ?_); refine sqBx w (sqB1 HB E0) (cs := #[.int .i64 0, .string (⟨#[]⟩ : ByteArray)]) (t := 38) ?_; intro g1 hg w4 B2 E1 HB hb; replace O0 := sqU O0 hb; obtain ⟨N0, N1⟩ := sqM hg B0; replace B0 := sqT B0 hb; clear hb hg; have := N1.1; have := N0.1; obtain ⟨_, _, _, _⟩ := sqY2 B2) | (go_at_call 88; (with_reducible refine (impl_deedText.calls k t251 t1 t3 _ ?sideG A0.1).mono ?_); (case sideG => exact Z10 E0 E1); rintro e w8 ⟨rfl, hb⟩; replace O0 := sqa (Kd.R_below (Z103 O0 B2) hb); replace B0 := sqH N0 B0 hb; replace B2 := sqa (blk_below (g := g1) (o := .cells #[.int .i64 t251, .string t1] 38 (0, 0)) (Z104 B2) hb); replace HB := sqS (sqB2 HB E0 E1) hb; obtain ⟨_, _, _, _⟩ := sqY2 B2; obtain ⟨_, _, _, _⟩ := sqY2 B0))
  refine sqE g0 38 #[.int .i64 t251, .string t1] (Z104 B0) underlying38 ?_
  exact ⟨Z5, sqB2 HB E0 E1⟩
 rw [if_neg c0] at H
 have c1 := sqe0 c0
 have c2 := sqn1 c0
 obtain ⟨rfl, rfl, rfl⟩ := sqO3 H
 go_enter func85, ntmps85
 go_wp2_with (first | ((with_reducible refine sqd 2 rfl ?_); refine sqBx w (sqB HB) (cs := #[.int .i64 0, .string (⟨#[]⟩ : ByteArray)]) (t := 38) ?_; intro g0 hg w9 B0 E0 HB hb; clear hb hg) | ((with_reducible refine sqc 84 rfl ?_); refine sqC (some 10) func84 #[.string a0, .string (⟨#[32]⟩ : ByteArray)] ?_; (with_reducible refine (strings_Cut.calls a0 (⟨#[32]⟩ : ByteArray) t0 t1 t2 _ ?sideG A2.1).mono ?_); (case sideG => exact Z6 E0); refine sqV fun w28 hb => ?_; replace B0 := sqT B0 hb; replace HB := sqS (sqB1 HB E0) hb) | ((with_reducible refine sqd 14 rfl ?_); refine Kd.R_lit Kd.string _ 9 ?hg (N := 14) ?hd (xs := ([(⟨#[100, 97, 110, 99, 101]⟩ : ByteArray), (⟨#[116, 97, 107, 101]⟩ : ByteArray), (⟨#[109, 105, 114, 114, 111, 114]⟩ : ByteArray), (⟨#[117, 110, 116, 105, 101]⟩ : ByteArray), (⟨#[98, 97, 99, 107]⟩ : ByteArray)] : List ByteArray)) (inner := [.string (⟨#[100, 97, 110, 99, 101]⟩ : ByteArray), .string (⟨#[116, 97, 107, 101]⟩ : ByteArray), .string (⟨#[109, 105, 114, 114, 111, 114]⟩ : ByteArray), .string (⟨#[117, 110, 116, 105, 101]⟩ : ByteArray), .string (⟨#[98, 97, 99, 107]⟩ : ByteArray)]) (ok := fun _ => True) (okp := fun _ => True) ?hr ?hp (fun _ hk => hk) trivial (Below.refl _ _) (Nat.le_refl _) (by simp) ?_; (case hd => rfl); (case hg => rfl); (case hr => exact Z17); (case hp => exact Z102); intro v0 w29 ho1 hb hg_ hnew_; clear hg_ hnew_; (first | rw [← Ny0.out] at ho1 | (simp only [Int.reduceToNat] at ho1; rw [← Ny0.out] at ho1)); have O0 := sqL ho1 (sqB1 HB E0); replace B0 := sqT B0 hb; replace HB := sqS (sqB1 HB E0) hb; clear hb ho1; obtain ⟨Ao1, co1, eo1⟩ := Kd.R_slice O0.1; subst eo1) | ((with_reducible refine sqc 124 rfl ?_); refine sqC (some 16) func124 #[.slice Ao1 y0.length co1, .string t0] ?_; (with_reducible refine (slices_Index_string_string.calls k _ _ y0 t0 t251 _ ?side1 ?side2 A3.1).mono ?_); (case side1 => exact Z7 O0); (case side2 => exact Z8 O0); rintro e w' ⟨rfl, ⟨nd, rfl⟩⟩; refine ⟨_, rfl, ?_⟩; (try (rw [drewN_self w29]; generalize hq_ : World.drewN w29 _ = w29; have n0_ : Aside0 (Kd.R Kd.string 9 w29 w.heap.size (fun _ => True) (.slice Ao1 y0.length co1) y0) := ⟨Z27 O0⟩; have n1_ : Aside0 (w29.heap[g0]? = some (.cells #[.int .i64 0, .string (⟨#[]⟩ : ByteArray)] 38 (0, 0))) := ⟨Z28 B0⟩; have n2_ : Aside0 (Below w.heap.size w w29) := ⟨Z29 E0⟩; clear O0 B0 HB hq_; have O0 := n0_; have B0 := n1_; have HB := n2_; clear n0_ n1_ n2_))) | ((with_reducible refine sqd 7 rfl ?_); refine sqBx w (sqB1 HB E0) (cs := #[.int .i64 0, .string (⟨#[]⟩ : ByteArray)]) (t := 38) ?_; intro g1 hg w32 B2 E1 HB hb; replace O0 := sqU O0 hb; obtain ⟨N0, N1⟩ := sqM hg B0; replace B0 := sqT B0 hb; clear hb hg; have := N1.1; have := N0.1; obtain ⟨_, _, _, _⟩ := sqY2 B2) | (go_at_call 88; (with_reducible refine (impl_deedText.calls k t251 t1 t3 _ ?sideG A0.1).mono ?_); (case sideG => exact Z10 E0 E1); rintro e w35 ⟨rfl, hb⟩; replace O0 := sqa (Kd.R_below (Z103 O0 B2) hb); replace B0 := sqH N0 B0 hb; replace B2 := sqa (blk_below (g := g1) (o := .cells #[.int .i64 t251, .string t1] 38 (0, 0)) (Z104 B2) hb); replace HB := sqS (sqB2 HB E0 E1) hb; obtain ⟨_, _, _, _⟩ := sqY2 B0))
 refine sqE g0 38 #[.int .i64 0, .string (⟨#[]⟩ : ByteArray)] (by refine sqPut (cs := #[.int .i64 0, .string (⟨#[]⟩ : ByteArray)]) ?_ 1; refine sqPut (cs := #[.int .i64 0, .string (⟨#[]⟩ : ByteArray)]) ?_ 0; exact sqK B0) underlying38 ?_
 exact ⟨Z5, sqB2 HB E0 E1⟩

/-! ### impl_untied: function 105 -/
def impl_untied.l0 : Nat → ByteArray → Int → Int → Option (ByteArray)
 | 0, _, _, _ => none
 | k + 1, x3, x0, x1 => if x0 = 0 then (some x3) else (if x0 < 0 then (if x3.size + 1 ≤ 9223372036854775807 then (impl_untied.l0 k (x3 ++ (⟨#[84]⟩ : ByteArray)) (wrap64 (x0 + x1)) x1) else (none)) else (if x3.size + 1 ≤ 9223372036854775807 then ((impl_lowest.f k (wrap64 (-x1)) x0).bind fun bt0 => (impl_untied.l0 k (x3 ++ (⟨#[82]⟩ : ByteArray)) bt0.1 bt0.2)) else (none)))
def impl_untied.f (k : Nat) (a0_0 : Int) (a0_1 : Int) : Option (ByteArray) := impl_untied.l0 k (⟨#[]⟩ : ByteArray) a0_0 a0_1
abbrev impl_untied.M (k : Nat) : Prop := (∀ y0 y1 y2, LeO (impl_untied.l0 k y0 y1 y2) (impl_untied.l0 (k + 1) y0 y1 y2))
theorem impl_untied.mono_t : ∀ k, impl_untied.M k → impl_untied.M (k + 1) ∧ ∀ a0 a1, LeO (impl_untied.f k a0 a1) (impl_untied.f (k + 1) a0 a1) := by
  rintro k ih0
  refine ⟨?_, ?_⟩ <;> (try unfold impl_untied.M) <;> intros <;> (first | unfold impl_untied.l0 | unfold impl_untied.f) <;> repeat' (with_reducible first | exact ih0 _ _ _ | exact impl_lowest.mono _ _ _ | exact LeO.refl _ | exact LeO.none _ | refine LeO.ite ?_ ?_ | refine LeO.bind ?_ fun _ => ?_)
theorem impl_untied.mono_l : ∀ k, impl_untied.M k
 | 0 => fun _ _ _ r h => by simp [impl_untied.l0] at h
 | k + 1 => (impl_untied.mono_t k (impl_untied.mono_l k)).1
theorem impl_untied.mono a0 a1 k : LeO (impl_untied.f k a0 a1) (impl_untied.f (k + 1) a0 a1) := (impl_untied.mono_t k (impl_untied.mono_l k)).2 a0 a1
theorem impl_untied.calls (k : Nat) (a0_0 : Int) (a0_1 : Int) (r : ByteArray) (w : World) (H : impl_untied.f k a0_0 a0_1 = some r) :
  Calls prog 105 #[.agg #[.int .i64 a0_0, .int .i64 a0_1]] w fun e w' => e = .returned (.string r) ∧ Below w.heap.size w w' := by
 have hu31 := underlying31
 have HB := sqh w
 unfold impl_untied.f at H
 have H' := sqa H
 clear H
 go_enter func105, ntmps105
 go_wp2_with (first | ((with_reducible refine sqd 1 rfl ?_); refine sqBx w (sqB HB) (cs := #[.int .i64 a0_0, .int .i64 a0_1]) (t := 31) ?_; intro g0 hg w2 B0 E0 HB hb; clear hb hg))
 go_loopg [3] k (fun kq v3 w' => ∃ (x3_1 : ByteArray) (x0 : Int) (x1 : Int), v3 = .string x3_1 ∧ Aside0 (impl_untied.l0 kq x3_1 x0 x1 = some r) ∧ Aside0 (kq ≤ k) ∧ Aside0 (w'.heap[g0]? = some (.cells #[.int .i64 x0, .int .i64 x1] 31 (0, 0))) ∧ Aside0 (Below w.heap.size w w'))
 case atStart => exact ⟨((⟨#[]⟩ : ByteArray)), (a0_0), (a0_1), Z1, H', ⟨Nat.le_refl _⟩, ⟨sqK B0⟩, ⟨sqB1 HB E0⟩⟩
 case round =>
  clear H'
  obtain ⟨x3_1, x0, x1, rfl, HA, HK1, B0, HB⟩ := hrel
  cases gk with
  | zero => exact absurd HA.out (by simp [impl_untied.l0])
  | succ k1 =>
   have H := HA.out
   clear HA
   simp only [impl_untied.l0] at H
   by_cases c3 : x0 = 0
   ·rw [if_pos c3] at H
    have c3b0 : (x0 == 0) = true := sqe1 c3
    have c3b1 : (x0 != 0) = false := sqn0 c3
    clear c3
    obtain rfl := sqo H
    obtain ⟨_, _, _, _⟩ := sqY2 B0
    go_wp2
    go_ret
    exact ⟨Z5, sqB1 HB E0⟩
   rw [if_neg c3] at H
   have c3b0 : (x0 == 0) = false := sqe0 c3
   have c3b1 : (x0 != 0) = true := sqn1 c3
   by_cases c5 : x0 < 0
   ·rw [if_pos c5] at H
    have c5b0 : decide (x0 < 0) = true := decide_eq_true c5
    clear c5
    obtain ⟨c6, H⟩ := sqI H
    have c6b0 := eq_true c6
    have c6b1 : decide (x3_1.size + 1 ≤ 9223372036854775807) = true := decide_eq_true c6
    try have c6b2 : (9223372036854775807 < x3_1.size + 1) = False := eq_false (Nat.not_lt.2 c6)
    have H' := sqa H
    clear H
    obtain ⟨_, _, _, _⟩ := sqY2 B0
    go_wp2
    go_roundg k1
    case measure => have := HK1.out; omega
    case rel => exact ⟨(x3_1 ++ (⟨#[84]⟩ : ByteArray)), (wrap64 (x0 + x1)), (x1), Z1, H', ⟨Z2 HK1⟩, ⟨by refine sqPut (cs := #[.int .i64 x0, .int .i64 x1]) ?_ 0; exact sqK B0⟩, ⟨sqB1 HB E0⟩⟩
   rw [if_neg c5] at H
   have c5b0 : decide (x0 < 0) = false := decide_eq_false c5
   clear c5
   obtain ⟨c8, H⟩ := sqI H
   have c8b0 := eq_true c8
   have c8b1 : decide (x3_1.size + 1 ≤ 9223372036854775807) = true := decide_eq_true c8
   try have c8b2 : (9223372036854775807 < x3_1.size + 1) = False := eq_false (Nat.not_lt.2 c8)
   obtain ⟨⟨t0, t1⟩, A9, H⟩ := sqD H
   try dsimp only at H
   have H' := sqa H
   clear H
   obtain ⟨_, _, _, _⟩ := sqY2 B0
   go_wp2_with (first | ((with_reducible refine sqc 120 rfl ?_); refine sqC (some 25) func120 #[.int .i64 (wrap64 (-x1)), .int .i64 x0] ?_; (with_reducible refine (impl_lowest.calls k1 (wrap64 (-x1)) x0 t0 t1 _ A9.1).mono ?_); refine sqV fun w0 hb => ?_; replace B0 := sqT B0 hb; replace HB := sqS (sqB1 HB E0) hb; obtain ⟨_, _, _, _⟩ := sqY2 B0))
   go_roundg k1
   case measure => have := HK1.out; omega
   case rel => exact ⟨(x3_1 ++ (⟨#[82]⟩ : ByteArray)), (t0), (t1), Z1, H', ⟨Z2 HK1⟩, ⟨by refine sqPut (cs := #[.int .i64 t0, .int .i64 x1]) ?_ 1; refine sqPut (cs := #[.int .i64 x0, .int .i64 x1]) ?_ 0; exact sqK B0⟩, ⟨sqB1 HB E0⟩⟩

/-! ### impl_ceiling: function 180 -/
def impl_ceiling.f (a0_0 : Int) (a0_1 : Int) : Option (Int) := if a0_1 = 0 then (none) else (if (wrap64 ((wrap64 (Int.tdiv a0_0 a0_1)) * a0_1)) < a0_0 then (some (wrap64 ((wrap64 (Int.tdiv a0_0 a0_1)) + 1))) else (some (wrap64 (Int.tdiv a0_0 a0_1))))
theorem impl_ceiling.calls (a0_0 : Int) (a0_1 : Int) (r : Int) (w : World) (H : impl_ceiling.f a0_0 a0_1 = some r) :
  Calls prog 180 #[.agg #[.int .i64 a0_0, .int .i64 a0_1]] w fun e w' => e = .returned (.int .i64 r) ∧ Below w.heap.size w w' := by
 have hu31 := underlying31
 have HB := sqh w
 unfold impl_ceiling.f at H
 by_cases c2 : a0_1 = 0
 ·rw [if_pos c2] at H
  exact absurd H (by simp)
 rw [if_neg c2] at H
 have c2b0 : (a0_1 == 0) = false := sqe0 c2
 have c2b1 : (a0_1 != 0) = true := sqn1 c2
 by_cases c3 : (wrap64 ((wrap64 (Int.tdiv a0_0 a0_1)) * a0_1)) < a0_0
 ·rw [if_pos c3] at H
  have c3b0 : decide ((wrap64 ((wrap64 (Int.tdiv a0_0 a0_1)) * a0_1)) < a0_0) = true := decide_eq_true c3
  clear c3
  obtain rfl := sqo H
  go_enter func180, ntmps180
  go_wp2_with (first | ((with_reducible refine sqd 1 rfl ?_); refine sqBx w (sqB HB) (cs := #[.int .i64 a0_0, .int .i64 a0_1]) (t := 31) ?_; intro g0 hg w4 B0 E0 HB hb; clear hb hg; obtain ⟨_, _, _, _⟩ := sqY2 B0))
  go_ret
  exact ⟨Z5, sqB1 HB E0⟩
 rw [if_neg c3] at H
 have c3b0 : decide ((wrap64 ((wrap64 (Int.tdiv a0_0 a0_1)) * a0_1)) < a0_0) = false := decide_eq_false c3
 clear c3
 obtain rfl := sqo H
 go_enter func180, ntmps180
 go_wp2_with (first | ((with_reducible refine sqd 1 rfl ?_); refine sqBx w (sqB HB) (cs := #[.int .i64 a0_0, .int .i64 a0_1]) (t := 31) ?_; intro g0 hg w6 B0 E0 HB hb; clear hb hg; obtain ⟨_, _, _, _⟩ := sqY2 B0))
 go_ret
 exact ⟨Z5, sqB1 HB E0⟩

/-! ### impl_termsOf: function 165 -/
def impl_termsOf.l0 : Nat → List Int → Int → Int → Option (List Int)
 | 0, _, _, _ => none
 | k + 1, x3, x0, x1 => (impl_ceiling.f x0 x1).bind fun t0 => (if x3.length < 17592186044416 then ((some (x3 ++ [t0] : List Int)).bind fun y0 => (if (wrap64 ((wrap64 (t0 * x1)) - x0)) = 0 then (some y0) else (impl_termsOf.l0 k y0 x1 (wrap64 ((wrap64 (t0 * x1)) - x0))))) else (none))
def impl_termsOf.f (k : Nat) (a0_0 : Int) (a0_1 : Int) : Option (List Int) := impl_termsOf.l0 k (([] : List Int)) a0_0 a0_1
abbrev impl_termsOf.M (k : Nat) : Prop := (∀ y0 y1 y2, LeO (impl_termsOf.l0 k y0 y1 y2) (impl_termsOf.l0 (k + 1) y0 y1 y2))
theorem impl_termsOf.mono_t : ∀ k, impl_termsOf.M k → impl_termsOf.M (k + 1) ∧ ∀ a0 a1, LeO (impl_termsOf.f k a0 a1) (impl_termsOf.f (k + 1) a0 a1) := by
  rintro k ih0
  refine ⟨?_, ?_⟩ <;> (try unfold impl_termsOf.M) <;> intros <;> (first | unfold impl_termsOf.l0 | unfold impl_termsOf.f) <;> repeat' (with_reducible first | exact ih0 _ _ _ | exact LeO.refl _ | exact LeO.none _ | refine LeO.ite ?_ ?_ | refine LeO.bind ?_ fun _ => ?_)
theorem impl_termsOf.mono_l : ∀ k, impl_termsOf.M k
 | 0 => fun _ _ _ r h => by simp [impl_termsOf.l0] at h
 | k + 1 => (impl_termsOf.mono_t k (impl_termsOf.mono_l k)).1
theorem impl_termsOf.mono a0 a1 k : LeO (impl_termsOf.f k a0 a1) (impl_termsOf.f (k + 1) a0 a1) := (impl_termsOf.mono_t k (impl_termsOf.mono_l k)).2 a0 a1
theorem impl_termsOf.calls (k : Nat) (a0_0 : Int) (a0_1 : Int) (r : List Int) (w : World) (H : impl_termsOf.f k a0_0 a0_1 = some r) :
  Calls prog 165 #[.agg #[.int .i64 a0_0, .int .i64 a0_1]] w fun e w' => ∃ v0_ : Value, e = .returned (v0_) ∧ Kd.R (Kd.int .i64) 3 w' w.heap.size (fun _ => True) v0_ r ∧ Below w.heap.size w w' := by
 have hu31 := underlying31
 have HB := sqh w
 unfold impl_termsOf.f at H
 obtain ⟨y0, hy0⟩ : ∃ y_ : List Int, y_ = (([] : List Int)) := ⟨_, rfl⟩
 replace H : (impl_termsOf.l0 k y0 a0_0 a0_1) = some r := sqW hy0 H
 have Ny0 := sqa hy0
 clear hy0
 have H' := sqa H
 clear H
 go_enter func165, ntmps165
 go_wp2_with (first | ((with_reducible refine sqd 1 rfl ?_); refine sqBx w (sqB HB) (cs := #[.int .i64 a0_0, .int .i64 a0_1]) (t := 31) ?_; intro g0 hg w2 B0 E0 HB hb; clear hb hg) | ((with_reducible refine sqd 6 rfl ?_); refine Kd.R_lit (Kd.int .i64) _ 3 ?hg (N := 6) ?hd (xs := ([] : List Int)) (inner := []) (ok := fun _ => True) (okp := fun _ => True) ?hr ?hp (fun _ hk => hk) trivial (Below.refl _ _) (Nat.le_refl _) (by simp) ?_; (case hd => rfl); (case hg => rfl); (case hr => exact Z17); (case hp => exact Z23); intro v0 w3 ho4 hb hg_ hnew_; clear hg_ hnew_; (first | rw [← Ny0.out] at ho4 | (simp only [Int.reduceToNat] at ho4; rw [← Ny0.out] at ho4)); have O0 := sqL ho4 (sqB1 HB E0); replace B0 := sqT B0 hb; replace HB := sqS (sqB1 HB E0) hb; clear hb ho4))
 go_loopg [3] k (fun kq v3 w' => ∃ (x3_1 : List Int) (x0 : Int) (x1 : Int), Aside0 (impl_termsOf.l0 kq x3_1 x0 x1 = some r) ∧ Aside0 (kq ≤ k) ∧ Aside0 (Kd.R (Kd.int .i64) 3 w' w.heap.size (fun _ => True) v3 x3_1) ∧ Aside0 (w'.heap[g0]? = some (.cells #[.int .i64 x0, .int .i64 x1] 31 (0, 0))) ∧ Aside0 (Below w.heap.size w w'))
 case atStart => exact ⟨(y0), (a0_0), (a0_1), H', ⟨Nat.le_refl _⟩, ⟨sqR O0⟩, ⟨sqK B0⟩, ⟨sqB1 HB E0⟩⟩
 case round =>
  clear H'
  obtain ⟨x3_1, x0, x1, HA, HK1, O1, B0, HB⟩ := hrel
  cases gk with
  | zero => exact absurd HA.out (by simp [impl_termsOf.l0])
  | succ k1 =>
   have H := HA.out
   clear HA
   simp only [impl_termsOf.l0] at H
   obtain ⟨t0, A5, H⟩ := sqD H
   obtain ⟨c6, H⟩ := sqI H
   have LMc6 := sqa c6
   clear c6
   obtain ⟨y1, hy1⟩ : ∃ y_ : List Int, y_ = (x3_1 ++ [t0]) := ⟨_, rfl⟩
   replace H : (if (wrap64 ((wrap64 (t0 * x1)) - x0)) = 0 then (some y1) else (impl_termsOf.l0 k1 y1 x1 (wrap64 ((wrap64 (t0 * x1)) - x0)))) = some r := sqW hy1 H
   have Ny1 := sqa hy1
   clear hy1
   by_cases c7 : (wrap64 ((wrap64 (t0 * x1)) - x0)) = 0
   ·rw [if_pos c7] at H
    have c7b0 : ((wrap64 ((wrap64 (t0 * x1)) - x0)) == 0) = true := sqe1 c7
    have c7b1 : ((wrap64 ((wrap64 (t0 * x1)) - x0)) != 0) = false := sqn0 c7
    clear c7
    obtain rfl := sqo H
    obtain ⟨_, _, _, _⟩ := sqY2 B0
    go_wp2_with (first | ((with_reducible refine sqc 180 rfl ?_); refine sqC (some 8) func180 #[.agg #[.int .i64 x0, .int .i64 x1]] ?_; (with_reducible refine (impl_ceiling.calls x0 x1 t0 _ A5.1).mono ?_); refine sqV fun w9 hb => ?_; replace O1 := sqU O1 hb; replace B0 := sqT B0 hb; replace HB := sqS (sqB1 HB E0) hb) | ((with_reducible refine gate_builtin (b := .append) (xs := #[.tmp 9, .tmp 11]) rfl ?_); at_builtin; refine Kd.R_append (Kd.int .i64) (w0 := w) w.heap.size rfl (.tmp 9) (.tmp 11) 109 3 (.int .i64 0) 8 rfl underlying109 info3 rfl (by decide) (by omega) u3 x3_1 t0 [.int .i64 t0] (fun _ => True) (fun _ => False) rfl rfl ?aP (fun _ hk => hk.elim) ?aF ?aO ?aB ?aS ?aL ?_; (case aP => exact rfl); (case aB => exact (sqB1 HB E0)); (case aF => exact Z24); (case aO => exact (sqR O1)); (case aS => exact (below_size (sqB1 HB E0))); (case aL => exact Z2 LMc6); intro v1 w1 ho hb hg hat; rw [← Ny1.out] at ho; replace B0 := sqa (blk_grown (sqK B0) hg (Kd.R_ne O1.1 B0.1 (by decide))); replace HB := sqa (hb); have O2 := sqa (ho); clear O1; clear ho hb hg hat; obtain ⟨_, _, _, _⟩ := sqY2 B0))
    go_ret
    exact ⟨_, Z5, Z25 O2, sqB1 HB E0⟩
   rw [if_neg c7] at H
   have c7b0 : ((wrap64 ((wrap64 (t0 * x1)) - x0)) == 0) = false := sqe0 c7
   have c7b1 : ((wrap64 ((wrap64 (t0 * x1)) - x0)) != 0) = true := sqn1 c7
   have H' := sqa H
   clear H
   obtain ⟨_, _, _, _⟩ := sqY2 B0
   go_wp2_with (first | ((with_reducible refine sqc 180 rfl ?_); refine sqC (some 8) func180 #[.agg #[.int .i64 x0, .int .i64 x1]] ?_; (with_reducible refine (impl_ceiling.calls x0 x1 t0 _ A5.1).mono ?_); refine sqV fun w4 hb => ?_; replace O1 := sqU O1 hb; replace B0 := sqT B0 hb; replace HB := sqS (sqB1 HB E0) hb) | ((with_reducible refine gate_builtin (b := .append) (xs := #[.tmp 9, .tmp 11]) rfl ?_); at_builtin; refine Kd.R_append (Kd.int .i64) (w0 := w) w.heap.size rfl (.tmp 9) (.tmp 11) 109 3 (.int .i64 0) 8 rfl underlying109 info3 rfl (by decide) (by omega) u3 x3_1 t0 [.int .i64 t0] (fun _ => True) (fun _ => False) rfl rfl ?aP (fun _ hk => hk.elim) ?aF ?aO ?aB ?aS ?aL ?_; (case aP => exact rfl); (case aB => exact (sqB1 HB E0)); (case aF => exact Z24); (case aO => exact (sqR O1)); (case aS => exact (below_size (sqB1 HB E0))); (case aL => exact Z2 LMc6); intro v1 w5 ho hb hg hat; rw [← Ny1.out] at ho; replace B0 := sqa (blk_grown (sqK B0) hg (Kd.R_ne O1.1 B0.1 (by decide))); replace HB := sqa (hb); have O2 := sqa (ho); clear O1; clear ho hb hg hat; obtain ⟨_, _, _, _⟩ := sqY2 B0))
   go_roundg k1
   case measure => have := HK1.out; omega
   case rel => exact ⟨(y1), (x1), (wrap64 ((wrap64 (t0 * x1)) - x0)), H', ⟨Z2 HK1⟩, ⟨by (with_reducible repeat (first | apply Kd.R_alloc | apply Kd.R_drewN | apply Kd.R_drew)); exact Kd.R_mono (Kd.R_far (p := ⟨g0, 1, none⟩) (Kd.R_far (p := ⟨g0, 0, none⟩) (Kd.R_types O2.1 B0.1 (by decide)) (fun _ hk => hk.2) (.int .i64 x1)) (fun _ hk => hk.2) (.int .i64 (wrap64 ((wrap64 (t0 * x1)) - x0)))) (fun _ hk => trivial)⟩, ⟨by refine sqPut (cs := #[.int .i64 x1, .int .i64 x1]) ?_ 1; refine sqPut (cs := #[.int .i64 x0, .int .i64 x1]) ?_ 0; exact sqK B0⟩, ⟨sqB1 HB E0⟩⟩
end
end Go.Proofs.YtofmlbgfcohhoaaGreatDoor.PFnDeskLine
