/- Lean functions of the Go functions that the law FnExactDeskLine reaches, each with its contract: made by a program of this session. -/
import Derived.Test.YtofmlbgfcohhoaaGreatDoorPFnExactDeskLinex2
import Derived.Test.YtofmlbgfcohhoaaGreatDoorPFnExactDeskLinex6
namespace Go.Proofs.YtofmlbgfcohhoaaGreatDoor.PFnExactDeskLine
open Go.RowKit Go.Proofs.YtofmlbgfcohhoaaGreatDoorW.PrintWords Go.Proofs.YtofmlbgfcohhoaaGreatDoorW.PrintLast Go.Proofs.YtofmlbgfcohhoaaGreatDoorW.PrintMore Go.Proofs.YtofmlbgfcohhoaaGreatDoor.Lib
attribute [local go_sem] max2_int min2_int max_two min_two max_three min_three max_four min_four   -- for this text's walks alone
set_option linter.unusedVariables false
set_option linter.unusedSimpArgs false

attribute [local go_sem high] eqA38
/-! ### impl_deedText: function 88 -/
mutual
def impl_deedText.j0 : Nat → Bool → Bool → Int → ByteArray → Option (ByteArray)
 | 0, _, _, _, _ => none
 | k + 1, x4, x11, x256000, x256001 => if x11 = true then (if 6 + x256001.size ≤ 9223372036854775807 then (some ((⟨#[100, 97, 110, 99, 101, 32]⟩ : ByteArray) ++ x256001)) else (none)) else (if x256000 = 1 then (impl_deedText.j1 k x4 x256000 x256001) else (impl_deedText.j1 k false x256000 x256001))
def impl_deedText.j1 : Nat → Bool → Int → ByteArray → Option (ByteArray)
 | 0, _, _, _ => none
 | k + 1, x23, x256000, x256001 => if x23 = true then (if 5 + x256001.size ≤ 9223372036854775807 then (some ((⟨#[116, 97, 107, 101, 32]⟩ : ByteArray) ++ x256001)) else (none)) else (if (x256000 == 2 && (x256001.toList == ([] : List UInt8))) = true then (some (⟨#[109, 105, 114, 114, 111, 114]⟩ : ByteArray)) else (if (x256000 == 3 && (x256001.toList == ([] : List UInt8))) = true then (some (⟨#[117, 110, 116, 105, 101]⟩ : ByteArray)) else (if (x256000 == 4 && (x256001.toList == ([] : List UInt8))) = true then (some (⟨#[98, 97, 99, 107]⟩ : ByteArray)) else (some (⟨#[]⟩ : ByteArray)))))
end
def impl_deedText.f (k : Nat) (a0_0 : Int) (a0_1 : ByteArray) : Option (ByteArray) := (impl_ReadFraction.f k a0_1).bind fun bt256 => (if a0_0 = 0 then ((impl_isDance.f a0_1).bind fun t260 => (impl_deedText.j0 k bt256.2.2 t260 a0_0 a0_1)) else (impl_deedText.j0 k bt256.2.2 false a0_0 a0_1))
abbrev impl_deedText.M (k : Nat) : Prop := (∀ y0 y1 y2 y3, LeO (impl_deedText.j0 k y0 y1 y2 y3) (impl_deedText.j0 (k + 1) y0 y1 y2 y3)) ∧ (∀ y0 y1 y2, LeO (impl_deedText.j1 k y0 y1 y2) (impl_deedText.j1 (k + 1) y0 y1 y2))
theorem impl_deedText.mono_t : ∀ k, impl_deedText.M k → impl_deedText.M (k + 1) ∧ ∀ a0 a1, LeO (impl_deedText.f k a0 a1) (impl_deedText.f (k + 1) a0 a1) := by
  rintro k ⟨ih0, ih1⟩
  refine ⟨⟨?_, ?_⟩, ?_⟩ <;> intros <;> (first | unfold impl_deedText.j0 | unfold impl_deedText.j1 | unfold impl_deedText.f) <;> repeat' (with_reducible first | exact ih0 _ _ _ _ | exact ih1 _ _ _ | exact impl_ReadFraction.mono _ _ | exact LeO.refl _ | exact LeO.none _ | refine LeO.ite ?_ ?_ | refine LeO.bind ?_ fun _ => ?_)
theorem impl_deedText.mono_l : ∀ k, impl_deedText.M k
 | 0 => ⟨fun _ _ _ _ r h => by simp [impl_deedText.j0] at h, fun _ _ _ r h => by simp [impl_deedText.j1] at h⟩
 | k + 1 => (impl_deedText.mono_t k (impl_deedText.mono_l k)).1
theorem impl_deedText.mono a0 a1 k : LeO (impl_deedText.f k a0 a1) (impl_deedText.f (k + 1) a0 a1) := (impl_deedText.mono_t k (impl_deedText.mono_l k)).2 a0 a1
set_option maxHeartbeats 8000000 in
set_option maxRecDepth 100000 in
theorem impl_deedText.calls (k : Nat) (a0_0 : Int) (a0_1 : ByteArray) (r : ByteArray) (w : World) (hG : Glob w) (h : impl_deedText.f k a0_0 a0_1 = some r) :
  Calls Tryz.prog 88 #[.agg #[.int .i64 a0_0, .string a0_1]] w fun e w' => e = .returned (.string r) ∧ Below w.heap.size w w' := by
 have hu38 := Tryz.underlying38
 have hu31 := Tryz.underlying31
 have HB := Aside0.mk (Below.refl w.heap.size w)
 unfold impl_deedText.f at h
 have H := h
 clear h
 obtain ⟨⟨t256, t257, t258⟩, A2, H⟩ := sqD H
 try dsimp only at H
 have HC3 := Aside0.mk H
 clear H
 go_enter Tryz.func88, Tryz.ntmps88
 go_upto_region 2 with (first | ((with_reducible refine gate_dst (N := 1) rfl ?_); refine sqBx w (sqB HB) (N := 1) (cs := #[.int .i64 a0_0, .string a0_1]) (t := 38) ?_; intro gb255 hg w4 BK255 GE255 HB hb; clear hb hg; obtain ⟨hcz5_0, hcz5_1, hfz5_0, hfz5_1⟩ := sqY2 BK255) | ((with_reducible refine gate_callee (f := 126) rfl ?_); refine sqC (some 8) Tryz.func126 #[.string a0_1] ?_; (with_reducible refine (impl_ReadFraction.calls k a0_1 t256 t257 t258 _ ?sideG A2.out).mono ?_); (case sideG => exact Z7 GE255); rintro e w6 ⟨rfl, hb⟩; refine ⟨_, rfl, ?_⟩; replace BK255 := sqT BK255 hb; replace HB := sqS (sqB1 HB GE255) hb; (try clear hb)) | ((with_reducible refine gate_dst (N := 3) rfl ?_); refine sqBx w (sqB1 HB GE255) (N := 3) (cs := #[.int .i64 0, .int .i64 0]) (t := 31) ?_; intro gb259 hg w7 BK259 GE259 HB hb; obtain ⟨NB255_259, NB259_255⟩ := sqM hg BK255; replace BK255 := sqT BK255 hb; clear hb hg; have hnb8 := NB259_255.out; have hnc8 := NB255_259.out; obtain ⟨hcz9_0, hcz9_1, hfz9_0, hfz9_1⟩ := sqY2 BK259))
 (try simp only [Act.put, List.setIfInBounds_toArray, List.set_cons_zero, List.set_cons_succ])
 go_cut [11] (fun v11 wc => ∃ (kq : Nat) (x11_2 : Bool), v11 = .bool x11_2 ∧ Aside0 (impl_deedText.j0 kq t258 x11_2 a0_0 a0_1 = some r) ∧ Aside0 (kq ≤ k) ∧ Aside0 (wc.heap[gb255]? = some (.cells #[.int .i64 a0_0, .string a0_1] 38 (0, 0))) ∧ Aside0 (wc.heap[gb259]? = some (.cells #[.int .i64 t256, .int .i64 t257] 31 (0, 0))) ∧ Aside0 (Below w.heap.size w wc))
 case first =>
  have H := HC3.out
  clear HC3
  by_cases c10 : a0_0 = 0
  ·rw [if_pos c10] at H
   have c10b0 : (a0_0 == 0) = true := beq_iff_eq.mpr c10
   have c10b1 : (a0_0 != 0) = false := bne_eq_false_iff_eq.mpr c10
   clear c10
   (first | rw [c10b0] | (simp only [i64_w, i32_w]; rw [c10b0]) | skip)
   obtain ⟨t260, A11, H⟩ := sqD H
   have H' := Aside0.mk H
   clear H
   have hnb12 := NB255_259.out
   have hnc12 := NB259_255.out
   obtain ⟨hcz13_0, hcz13_1, hfz13_0, hfz13_1⟩ := sqY2 BK255
   go_wp2_with (first | (go_at_call 71; (with_reducible refine (impl_isDance.calls a0_1 t260 _ A11.out).mono ?_); rintro e w14 ⟨rfl, hb⟩; replace BK255 := sqH NB255_259 BK255 hb; replace BK259 := Aside0.mk (blk_below (g := gb259) (o := .cells #[.int .i64 t256, .int .i64 t257] 31 (0, 0)) (Z85 BK259) hb); replace HB := sqS (sqB2 HB GE255 GE259) hb; (try clear hb)))
   go_meet
   case rel => exact ⟨_, (t260), Z2, H', ⟨Z12⟩, ⟨sqK BK255⟩, ⟨sqK BK259⟩, ⟨sqB2 HB GE255 GE259⟩⟩
  rw [if_neg c10] at H
  have c10b0 : (a0_0 == 0) = false := beq_eq_false_iff_ne.mpr c10
  have c10b1 : (a0_0 != 0) = true := bne_iff_ne.mpr c10
  (first | rw [c10b0] | (simp only [i64_w, i32_w]; rw [c10b0]) | skip)
  have H' := Aside0.mk H
  clear H
  have hnb15 := NB255_259.out
  have hnc15 := NB259_255.out
  obtain ⟨hcz16_0, hcz16_1, hfz16_0, hfz16_1⟩ := sqY2 BK255
  go_wp2
  go_meet
  case rel => exact ⟨_, (false), Z2, H', ⟨Z12⟩, ⟨Z10 NB255_259 BK255⟩, ⟨Z85 BK259⟩, ⟨sqB2 HB GE255 GE259⟩⟩
 case rest =>
  clear HC3
  try clear hcz5_0; try clear hcz5_1; try clear hcz9_0; try clear hcz9_1; try clear hfz5_0; try clear hfz5_1; try clear hfz9_0; try clear hfz9_1
  obtain ⟨kq, x11_2, rfl, HA, HJ2, BK255, BK259, HB⟩ := hcut
  cases kq with
  | zero => exact absurd HA.out (by simp [impl_deedText.j0])
  | succ kj2 =>
   have H := HA.out
   clear HA
   simp only [impl_deedText.j0] at H
   by_cases c17 : x11_2 = true
   ·subst c17
    rw [if_pos rfl] at H
    obtain ⟨c18, H⟩ := sqI H
    have c18b0 := eq_true c18
    have c18b1 : decide (6 + a0_1.size ≤ 9223372036854775807) = true := decide_eq_true c18
    try have c18b2 : (9223372036854775807 < 6 + a0_1.size) = False := eq_false (Nat.not_lt.2 c18)
    obtain rfl := Option.some.inj H
    have hnb19 := NB255_259.out
    have hnc19 := NB259_255.out
    obtain ⟨hcz20_0, hcz20_1, hfz20_0, hfz20_1⟩ := sqY2 BK255
    go_wp2
    go_ret
    exact ⟨Z6, sqB2 HB GE255 GE259⟩
   replace c17 := Bool.eq_false_iff.mpr c17
   subst c17
   rw [if_neg sqF] at H
   have HC21 := Aside0.mk H
   clear H
   go_upto_region 4 with (fail)
   go_cut [23] (fun v23 wc => ∃ (kq : Nat) (x23_20 : Bool), v23 = .bool x23_20 ∧ Aside0 (impl_deedText.j1 kq x23_20 a0_0 a0_1 = some r) ∧ Aside0 (kq ≤ kj2) ∧ Aside0 (wc.heap[gb255]? = some (.cells #[.int .i64 a0_0, .string a0_1] 38 (0, 0))) ∧ Aside0 (wc.heap[gb259]? = some (.cells #[.int .i64 t256, .int .i64 t257] 31 (0, 0))) ∧ Aside0 (Below w.heap.size w wc))
   case first =>
    have H := HC21.out
    clear HC21
    by_cases c22 : a0_0 = 1
    ·rw [if_pos c22] at H
     have c22b0 : (a0_0 == 1) = true := beq_iff_eq.mpr c22
     have c22b1 : (a0_0 != 1) = false := bne_eq_false_iff_eq.mpr c22
     clear c22
     (first | rw [c22b0] | (simp only [i64_w, i32_w]; rw [c22b0]) | skip)
     have H' := Aside0.mk H
     clear H
     have hnb23 := NB255_259.out
     have hnc23 := NB259_255.out
     obtain ⟨hcz24_0, hcz24_1, hfz24_0, hfz24_1⟩ := sqY2 BK255
     go_wp2
     go_meet
     case rel => exact ⟨_, (t258), Z2, H', ⟨Z52⟩, ⟨sqK BK255⟩, ⟨sqK BK259⟩, ⟨sqB2 HB GE255 GE259⟩⟩
    rw [if_neg c22] at H
    have c22b0 : (a0_0 == 1) = false := beq_eq_false_iff_ne.mpr c22
    have c22b1 : (a0_0 != 1) = true := bne_iff_ne.mpr c22
    (first | rw [c22b0] | (simp only [i64_w, i32_w]; rw [c22b0]) | skip)
    have H' := Aside0.mk H
    clear H
    have hnb25 := NB255_259.out
    have hnc25 := NB259_255.out
    obtain ⟨hcz26_0, hcz26_1, hfz26_0, hfz26_1⟩ := sqY2 BK255
    go_wp2
    go_meet
    case rel => exact ⟨_, (false), Z2, H', ⟨Z52⟩, ⟨sqK BK255⟩, ⟨sqK BK259⟩, ⟨sqB2 HB GE255 GE259⟩⟩
   case rest =>
    clear HC21
    try clear c1; try clear p2; try clear c8; try clear c10; try clear c10b0; try clear c10b1; try clear c12; try clear c15; try clear c17; try clear hcz13_0; try clear hcz13_1; try clear hcz16_0; try clear hcz16_1; try clear hcz5_0; try clear hcz5_1; try clear hcz9_0; try clear hcz9_1; try clear hfz13_0; try clear hfz13_1; try clear hfz16_0; try clear hfz16_1; try clear hfz5_0; try clear hfz5_1; try clear hfz9_0; try clear hfz9_1; try clear p2
    obtain ⟨kq, x23_20, rfl, HA, HJ20, BK255, BK259, HB⟩ := hcut
    cases kq with
    | zero => exact absurd HA.out (by simp [impl_deedText.j1])
    | succ kj20 =>
     have H := HA.out
     clear HA
     simp only [impl_deedText.j1] at H
     by_cases c27 : x23_20 = true
     ·subst c27
      rw [if_pos rfl] at H
      obtain ⟨c28, H⟩ := sqI H
      have c28b0 := eq_true c28
      have c28b1 : decide (5 + a0_1.size ≤ 9223372036854775807) = true := decide_eq_true c28
      try have c28b2 : (9223372036854775807 < 5 + a0_1.size) = False := eq_false (Nat.not_lt.2 c28)
      obtain rfl := Option.some.inj H
      have hnb29 := NB255_259.out
      have hnc29 := NB259_255.out
      obtain ⟨hcz30_0, hcz30_1, hfz30_0, hfz30_1⟩ := sqY2 BK255
      go_wp2
      go_ret
      exact ⟨Z6, sqB2 HB GE255 GE259⟩
     replace c27 := Bool.eq_false_iff.mpr c27
     subst c27
     rw [if_neg sqF] at H
     by_cases c31 : (a0_0 == 2 && (a0_1.toList == ([] : List UInt8))) = true
     ·rw [if_pos c31] at H
      have c31b0 : (a0_0 == 2 && (a0_1.toList == ([] : List UInt8))) = true := c31
      try have c31b8 : (a0_0 == 2 && a0_1.toList.isEmpty) = true := by (have h_ := c31b0; (repeat rw [show ∀ z : List UInt8, (z == ([] : List UInt8)) = z.isEmpty from fun z => by cases z <;> rfl] at h_); exact h_)
      (try (have c31b1 : decide (a0_0 = 2 && (a0_1.toList == ([] : List UInt8))) = true := by simpa using c31))
      (try (have c31b2 : (a0_0 == 2 && (a0_1.toList == ([] : List UInt8))) = true := by simpa using c31))
      clear c31
      obtain rfl := Option.some.inj H
      have hnb32 := NB255_259.out
      have hnc32 := NB259_255.out
      obtain ⟨hcz33_0, hcz33_1, hfz33_0, hfz33_1⟩ := sqY2 BK255
      go_wp2
      go_ret
      exact ⟨Z6, sqB2 HB GE255 GE259⟩
     rw [if_neg c31] at H
     have c31b0 : (a0_0 == 2 && (a0_1.toList == ([] : List UInt8))) = false := by simpa using c31
     try have c31b8 : (a0_0 == 2 && a0_1.toList.isEmpty) = false := by (have h_ := c31b0; (repeat rw [show ∀ z : List UInt8, (z == ([] : List UInt8)) = z.isEmpty from fun z => by cases z <;> rfl] at h_); exact h_)
     (try (have c31b1 : decide (a0_0 = 2 && (a0_1.toList == ([] : List UInt8))) = false := by simpa using c31))
     (try (have c31b2 : (a0_0 == 2 && (a0_1.toList == ([] : List UInt8))) = false := by simpa using c31))
     (try (have c31b3 : ¬ (a0_0 = 2 && (a0_1.toList == ([] : List UInt8))) := by simpa using c31))
     clear c31
     by_cases c34 : (a0_0 == 3 && (a0_1.toList == ([] : List UInt8))) = true
     ·rw [if_pos c34] at H
      have c34b0 : (a0_0 == 3 && (a0_1.toList == ([] : List UInt8))) = true := c34
      try have c34b8 : (a0_0 == 3 && a0_1.toList.isEmpty) = true := by (have h_ := c34b0; (repeat rw [show ∀ z : List UInt8, (z == ([] : List UInt8)) = z.isEmpty from fun z => by cases z <;> rfl] at h_); exact h_)
      (try (have c34b1 : decide (a0_0 = 3 && (a0_1.toList == ([] : List UInt8))) = true := by simpa using c34))
      (try (have c34b2 : (a0_0 == 3 && (a0_1.toList == ([] : List UInt8))) = true := by simpa using c34))
      clear c34
      obtain rfl := Option.some.inj H
      have hnb35 := NB255_259.out
      have hnc35 := NB259_255.out
      obtain ⟨hcz36_0, hcz36_1, hfz36_0, hfz36_1⟩ := sqY2 BK255
      go_wp2
      go_ret
      exact ⟨Z6, sqB2 HB GE255 GE259⟩
     rw [if_neg c34] at H
     have c34b0 : (a0_0 == 3 && (a0_1.toList == ([] : List UInt8))) = false := by simpa using c34
     try have c34b8 : (a0_0 == 3 && a0_1.toList.isEmpty) = false := by (have h_ := c34b0; (repeat rw [show ∀ z : List UInt8, (z == ([] : List UInt8)) = z.isEmpty from fun z => by cases z <;> rfl] at h_); exact h_)
     (try (have c34b1 : decide (a0_0 = 3 && (a0_1.toList == ([] : List UInt8))) = false := by simpa using c34))
     (try (have c34b2 : (a0_0 == 3 && (a0_1.toList == ([] : List UInt8))) = false := by simpa using c34))
     (try (have c34b3 : ¬ (a0_0 = 3 && (a0_1.toList == ([] : List UInt8))) := by simpa using c34))
     clear c34
     by_cases c37 : (a0_0 == 4 && (a0_1.toList == ([] : List UInt8))) = true
     ·rw [if_pos c37] at H
      have c37b0 : (a0_0 == 4 && (a0_1.toList == ([] : List UInt8))) = true := c37
      try have c37b8 : (a0_0 == 4 && a0_1.toList.isEmpty) = true := by (have h_ := c37b0; (repeat rw [show ∀ z : List UInt8, (z == ([] : List UInt8)) = z.isEmpty from fun z => by cases z <;> rfl] at h_); exact h_)
      (try (have c37b1 : decide (a0_0 = 4 && (a0_1.toList == ([] : List UInt8))) = true := by simpa using c37))
      (try (have c37b2 : (a0_0 == 4 && (a0_1.toList == ([] : List UInt8))) = true := by simpa using c37))
      clear c37
      obtain rfl := Option.some.inj H
      have hnb38 := NB255_259.out
      have hnc38 := NB259_255.out
      obtain ⟨hcz39_0, hcz39_1, hfz39_0, hfz39_1⟩ := sqY2 BK255
      go_wp2
      go_ret
      exact ⟨Z6, sqB2 HB GE255 GE259⟩
     rw [if_neg c37] at H
     have c37b0 : (a0_0 == 4 && (a0_1.toList == ([] : List UInt8))) = false := by simpa using c37
     try have c37b8 : (a0_0 == 4 && a0_1.toList.isEmpty) = false := by (have h_ := c37b0; (repeat rw [show ∀ z : List UInt8, (z == ([] : List UInt8)) = z.isEmpty from fun z => by cases z <;> rfl] at h_); exact h_)
     (try (have c37b1 : decide (a0_0 = 4 && (a0_1.toList == ([] : List UInt8))) = false := by simpa using c37))
     (try (have c37b2 : (a0_0 == 4 && (a0_1.toList == ([] : List UInt8))) = false := by simpa using c37))
     (try (have c37b3 : ¬ (a0_0 = 4 && (a0_1.toList == ([] : List UInt8))) := by simpa using c37))
     clear c37
     obtain rfl := Option.some.inj H
     have hnb40 := NB255_259.out
     have hnc40 := NB259_255.out
     obtain ⟨hcz41_0, hcz41_1, hfz41_0, hfz41_1⟩ := sqY2 BK255
     go_wp2
     go_ret
     exact ⟨Z6, sqB2 HB GE255 GE259⟩

/-! ### slices_Index_string_string: function 124 -/
def slices_Index_string_string.l0 : Nat → List ByteArray → ByteArray → Int → Int → Option (Int)
 | 0, _, _, _, _ => none
 | k + 1, x0, x1, x7, x8 => if x8 < x7 then (if 0 ≤ x8 then (if x8 < (x0.length : Int) then (if x1.toList = (rdOf ByteArray.empty x0 x8).toList then (some x8) else (slices_Index_string_string.l0 k x0 x1 x7 (wrap64 (x8 + 1)))) else (none)) else (none)) else (some (-1))
def slices_Index_string_string.f (k : Nat) (l0 : List ByteArray) (a1 : ByteArray) : Option (Int) := slices_Index_string_string.l0 k l0 a1 (l0.length : Int) 0
abbrev slices_Index_string_string.M (k : Nat) : Prop := (∀ y0 y1 y2 y3, LeO (slices_Index_string_string.l0 k y0 y1 y2 y3) (slices_Index_string_string.l0 (k + 1) y0 y1 y2 y3))
theorem slices_Index_string_string.mono_t : ∀ k, slices_Index_string_string.M k → slices_Index_string_string.M (k + 1) ∧ ∀ a0 a1, LeO (slices_Index_string_string.f k a0 a1) (slices_Index_string_string.f (k + 1) a0 a1) := by
  rintro k ih0
  refine ⟨?_, ?_⟩ <;> (try unfold slices_Index_string_string.M) <;> intros <;> (first | unfold slices_Index_string_string.l0 | unfold slices_Index_string_string.f) <;> repeat' (with_reducible first | exact ih0 _ _ _ _ | exact LeO.refl _ | exact LeO.none _ | refine LeO.ite ?_ ?_ | refine LeO.bind ?_ fun _ => ?_)
theorem slices_Index_string_string.mono_l : ∀ k, slices_Index_string_string.M k
 | 0 => fun _ _ _ _ r h => by simp [slices_Index_string_string.l0] at h
 | k + 1 => (slices_Index_string_string.mono_t k (slices_Index_string_string.mono_l k)).1
theorem slices_Index_string_string.mono a0 a1 k : LeO (slices_Index_string_string.f k a0 a1) (slices_Index_string_string.f (k + 1) a0 a1) := (slices_Index_string_string.mono_t k (slices_Index_string_string.mono_l k)).2 a0 a1
set_option maxHeartbeats 8000000 in
set_option maxRecDepth 100000 in
theorem slices_Index_string_string.calls (k : Nat) (A0 : Option Addr) (c0 : Nat) (l0 : List ByteArray) (a1 : ByteArray) (r : Int) (w : World) (hr0 : Kd.C Kd.string w A0 l0.length l0) (hc0 : l0.length ≤ c0) (h : slices_Index_string_string.f k l0 a1 = some r) :
  Calls Tryz.prog 124 #[.slice A0 l0.length c0, .string a1] w fun e w' => e = .returned (.int .i64 r) ∧ Drawn0 w w' := by
 have HR0 := Aside0.mk hr0
 have HC0 := Aside0.mk hc0
 clear hr0 hc0
 unfold slices_Index_string_string.f at h
 have H := h
 clear h
 have H' := Aside0.mk H
 clear H
 go_enter Tryz.func124, Tryz.ntmps124
 go_wp2
 go_loopg [8] k (fun kq v8 w' => ∃ (x8_1 : Int), v8 = .int .i64 x8_1 ∧ Aside0 (slices_Index_string_string.l0 kq l0 a1 (l0.length : Int) x8_1 = some r) ∧ Aside0 (kq ≤ k) ∧ Drawn0 w w')
 case atStart => exact ⟨(0), Z2, H', ⟨Nat.le_refl _⟩, Z19⟩
 case round =>
  clear H'
  obtain ⟨x8_1, rfl, HA, HK1, ⟨m1, rfl⟩⟩ := hrel
  cases gk with
  | zero => exact absurd HA.out (by simp [slices_Index_string_string.l0])
  | succ k1 =>
   have H := HA.out
   clear HA
   simp only [slices_Index_string_string.l0] at H
   by_cases c3 : x8_1 < (l0.length : Int)
   ·rw [if_pos c3] at H
    have c3b0 : decide (x8_1 < (l0.length : Int)) = true := decide_eq_true c3
    clear c3
    obtain ⟨c4, H⟩ := sqI H
    have c4b0 : decide (0 ≤ x8_1) = true := decide_eq_true c4
    clear c4
    obtain ⟨c5, H⟩ := sqI H
    have c5b0 : decide (x8_1 < (l0.length : Int)) = true := decide_eq_true c5
    clear c5
    by_cases c6 : a1.toList = (rdOf ByteArray.empty l0 x8_1).toList
    ·rw [if_pos c6] at H
     have c6b0 : (a1.toList == (rdOf ByteArray.empty l0 x8_1).toList) = true := beq_iff_eq.mpr c6
     have c6b1 : (a1.toList != (rdOf ByteArray.empty l0 x8_1).toList) = false := bne_eq_false_iff_eq.mpr c6
     clear c6
     obtain rfl := Option.some.inj H
     have p261 : 0 ≤ (x8_1 : Int) := of_decide_eq_true Z20
     have q261 : x8_1 < (l0.length : Int) := of_decide_eq_true Z20
     obtain ⟨ad261, e261, hx261_0⟩ := Kd.at_string HR0.out x8_1 p261 q261
     cases e261
     replace p261 := eq_true p261
     replace q261 := eq_true q261
     go_wp2
     go_ret
     exact ⟨Z2, Z19⟩
    rw [if_neg c6] at H
    have c6b0 : (a1.toList == (rdOf ByteArray.empty l0 x8_1).toList) = false := beq_eq_false_iff_ne.mpr c6
    have c6b1 : (a1.toList != (rdOf ByteArray.empty l0 x8_1).toList) = true := bne_iff_ne.mpr c6
    have H' := Aside0.mk H
    clear H
    have p261 : 0 ≤ (x8_1 : Int) := of_decide_eq_true Z20
    have q261 : x8_1 < (l0.length : Int) := of_decide_eq_true Z20
    obtain ⟨ad261, e261, hx261_0⟩ := Kd.at_string HR0.out x8_1 p261 q261
    cases e261
    replace p261 := eq_true p261
    replace q261 := eq_true q261
    go_wp2
    go_roundg k1
    case measure => have := HK1.out; omega
    case rel => exact ⟨(wrap64 (x8_1 + 1)), Z2, H', ⟨Z3 HK1⟩, Z19⟩
   rw [if_neg c3] at H
   have c3b0 : decide (x8_1 < (l0.length : Int)) = false := decide_eq_false c3
   clear c3
   obtain rfl := Option.some.inj H
   go_wp2
   go_ret
   exact ⟨Z2, Z19⟩

/-! ### impl_readDeed: function 85 -/
def impl_readDeed.f (k : Nat) (a0 : ByteArray) : Option (Int × ByteArray × Bool) := (strings_Cut.f a0 (⟨#[32]⟩ : ByteArray)).bind fun bt263 => ((slices_Index_string_string.f k (([(⟨#[100, 97, 110, 99, 101]⟩ : ByteArray), (⟨#[116, 97, 107, 101]⟩ : ByteArray), (⟨#[109, 105, 114, 114, 111, 114]⟩ : ByteArray), (⟨#[117, 110, 116, 105, 101]⟩ : ByteArray), (⟨#[98, 97, 99, 107]⟩ : ByteArray)] : List ByteArray)) bt263.1).bind fun t269 => (if a0.toList = ([] : List UInt8) then (some (0, (⟨#[]⟩ : ByteArray), false)) else ((impl_deedText.f k t269 bt263.2.1).bind fun t271 => (if t271.toList = a0.toList then (some (t269, bt263.2.1, true)) else (some (0, (⟨#[]⟩ : ByteArray), false))))))
theorem impl_readDeed.mono : ∀ a0 k, LeO (impl_readDeed.f k a0) (impl_readDeed.f (k + 1) a0) := by
 intro a0 k
 unfold impl_readDeed.f
 repeat' (with_reducible first | exact impl_deedText.mono _ _ _ | exact slices_Index_string_string.mono _ _ _ | exact LeO.refl _ | exact LeO.none _ | refine LeO.ite ?_ ?_ | refine LeO.bind ?_ fun _ => ?_)
set_option maxHeartbeats 8000000 in
set_option maxRecDepth 100000 in
theorem impl_readDeed.calls (k : Nat) (a0 : ByteArray) (r1 : Int) (r2 : ByteArray) (r3 : Bool) (w : World) (hG : Glob w) (h : impl_readDeed.f k a0 = some (r1, r2, r3)) :
  Calls Tryz.prog 85 #[.string a0] w fun e w' => e = .returned (.tuple #[.agg #[.int .i64 r1, .string r2], .bool r3]) ∧ Below w.heap.size w w' := by
 have hu38 := Tryz.underlying38
 have HB := Aside0.mk (Below.refl w.heap.size w)
 unfold impl_readDeed.f at h
 have H := h
 clear h
 obtain ⟨⟨t263, t264, t265⟩, A2, H⟩ := sqD H
 try dsimp only at H
 obtain ⟨y266, hy266⟩ : ∃ y_ : List ByteArray, y_ = (([(⟨#[100, 97, 110, 99, 101]⟩ : ByteArray), (⟨#[116, 97, 107, 101]⟩ : ByteArray), (⟨#[109, 105, 114, 114, 111, 114]⟩ : ByteArray), (⟨#[117, 110, 116, 105, 101]⟩ : ByteArray), (⟨#[98, 97, 99, 107]⟩ : ByteArray)] : List ByteArray)) := ⟨_, rfl⟩
 replace H : ((slices_Index_string_string.f k y266 t263).bind fun t269 => (if a0.toList = ([] : List UInt8) then (some (0, (⟨#[]⟩ : ByteArray), false)) else ((impl_deedText.f k t269 t264).bind fun t271 => (if t271.toList = a0.toList then (some (t269, t264, true)) else (some (0, (⟨#[]⟩ : ByteArray), false)))))) = some (r1, r2, r3) := sqW hy266 H
 have Ny266 := Aside0.mk hy266
 clear hy266
 obtain ⟨t269, A3, H⟩ := sqD H
 by_cases c4 : a0.toList = ([] : List UInt8)
 ·rw [if_pos c4] at H
  have c4b0 : (a0.toList == ([] : List UInt8)) = true := beq_iff_eq.mpr c4
  try have c4b8 : a0.toList.isEmpty = true := by (have h_ := c4b0; (repeat rw [show ∀ z : List UInt8, (z == ([] : List UInt8)) = z.isEmpty from fun z => by cases z <;> rfl] at h_); exact h_)
  have c4b1 : (a0.toList != ([] : List UInt8)) = false := bne_eq_false_iff_eq.mpr c4
  clear c4
  obtain ⟨rfl, rfl, rfl⟩ := sqO3 H
  go_enter Tryz.func85, Tryz.ntmps85
  go_wp2_with (first | ((with_reducible refine gate_dst (N := 2) rfl ?_); refine sqBx w (sqB HB) (N := 2) (cs := #[.int .i64 0, .string (⟨#[]⟩ : ByteArray)]) (t := 38) ?_; intro gb262 hg w5 BK262 GE262 HB hb; clear hb hg) | ((with_reducible refine gate_callee (f := 84) rfl ?_); refine sqC (some 10) Tryz.func84 #[.string a0, .string (⟨#[32]⟩ : ByteArray)] ?_; (with_reducible refine (strings_Cut.calls a0 (⟨#[32]⟩ : ByteArray) t263 t264 t265 _ ?sideG A2.out).mono ?_); (case sideG => exact Z7 GE262); rintro e w6 ⟨rfl, hb⟩; refine ⟨_, rfl, ?_⟩; replace BK262 := sqT BK262 hb; replace HB := sqS (sqB1 HB GE262) hb; (try clear hb)) | ((with_reducible refine gate_dst (N := 14) rfl ?_); refine Kd.R_lit Kd.string _ 9 ?hg (N := 14) ?hd (xs := ([(⟨#[100, 97, 110, 99, 101]⟩ : ByteArray), (⟨#[116, 97, 107, 101]⟩ : ByteArray), (⟨#[109, 105, 114, 114, 111, 114]⟩ : ByteArray), (⟨#[117, 110, 116, 105, 101]⟩ : ByteArray), (⟨#[98, 97, 99, 107]⟩ : ByteArray)] : List ByteArray)) (inner := [.string (⟨#[100, 97, 110, 99, 101]⟩ : ByteArray), .string (⟨#[116, 97, 107, 101]⟩ : ByteArray), .string (⟨#[109, 105, 114, 114, 111, 114]⟩ : ByteArray), .string (⟨#[117, 110, 116, 105, 101]⟩ : ByteArray), .string (⟨#[98, 97, 99, 107]⟩ : ByteArray)]) (ok := fun _ => True) (okp := fun _ => True) ?hr ?hp (fun _ hk => hk) trivial (Below.refl _ _) (Nat.le_refl _) (by simp) ?_; (case hd => rfl); (case hg => rfl); (case hr => exact Z21); (case hp => exact Z86); intro v267 w7 ho8 hb hg_ hnew_; clear hg_ hnew_; (first | rw [← Ny266.out] at ho8 | (simp only [Int.reduceToNat] at ho8; rw [← Ny266.out] at ho8)); have HO268 := sqL ho8 (sqB1 HB GE262); replace BK262 := sqT BK262 hb; replace HB := sqS (sqB1 HB GE262) hb; clear hb ho8; obtain ⟨Ao9, co9, eo9⟩ := Kd.R_slice HO268.out; subst eo9) | ((with_reducible refine gate_callee (f := 124) rfl ?_); refine sqC (some 16) Tryz.func124 #[.slice Ao9 y266.length co9, .string t263] ?_; (with_reducible refine (slices_Index_string_string.calls k _ _ y266 t263 t269 _ ?side1 ?side2 A3.out).mono ?_); (case side1 => exact Z8 HO268); (case side2 => exact Z9 HO268); rintro e w' ⟨rfl, ⟨nd, rfl⟩⟩; refine ⟨_, rfl, ?_⟩; (try (rw [drewN_self w7]; generalize hq_ : World.drewN w7 _ = w7; have n0_ : Aside0 (Kd.R Kd.string 9 w7 w.heap.size (fun _ => True) (.slice Ao9 y266.length co9) y266) := ⟨Z37 HO268⟩; have n1_ : Aside0 (w7.heap[gb262]? = some (.cells #[.int .i64 0, .string (⟨#[]⟩ : ByteArray)] 38 (0, 0))) := ⟨Z26 BK262⟩; have n2_ : Aside0 (Below w.heap.size w w7) := ⟨Z38 GE262⟩; clear HO268 BK262 HB hq_; have HO268 := n0_; have BK262 := n1_; have HB := n2_; clear n0_ n1_ n2_))) | ((with_reducible refine gate_dst (N := 7) rfl ?_); refine sqBx w (sqB1 HB GE262) (N := 7) (cs := #[.int .i64 0, .string (⟨#[]⟩ : ByteArray)]) (t := 38) ?_; intro gb270 hg w10 BK270 GE270 HB hb; replace HO268 := sqU HO268 hb; obtain ⟨NB262_270, NB270_262⟩ := sqM hg BK262; replace BK262 := sqT BK262 hb; clear hb hg; have hnb11 := NB270_262.out; have hnc11 := NB262_270.out; obtain ⟨hcz12_0, hcz12_1, hfz12_0, hfz12_1⟩ := sqY2 BK270; obtain ⟨hcz13_0, hcz13_1, hfz13_0, hfz13_1⟩ := sqY2 BK262))
  refine bodyPost_ret (results_ct rfl _ _ gb262 38 #[.int .i64 0, .string (⟨#[]⟩ : ByteArray)] (0, 0) _ rfl (by refine sqPut (cs := #[.int .i64 0, .string (⟨#[]⟩ : ByteArray)]) ?_ 1; refine sqPut (cs := #[.int .i64 0, .string (⟨#[]⟩ : ByteArray)]) ?_ 0; refine sqFar ?_ NB262_270; refine sqFar ?_ NB262_270; exact sqK BK262) Tryz.underlying38 rfl (by kernel_rfl)) rfl ?_
  exact ⟨Z6, sqB2 HB GE262 GE270⟩
 rw [if_neg c4] at H
 have c4b0 : (a0.toList == ([] : List UInt8)) = false := beq_eq_false_iff_ne.mpr c4
 try have c4b8 : a0.toList.isEmpty = false := by (have h_ := c4b0; (repeat rw [show ∀ z : List UInt8, (z == ([] : List UInt8)) = z.isEmpty from fun z => by cases z <;> rfl] at h_); exact h_)
 have c4b1 : (a0.toList != ([] : List UInt8)) = true := bne_iff_ne.mpr c4
 obtain ⟨t271, A14, H⟩ := sqD H
 by_cases c15 : t271.toList = a0.toList
 ·rw [if_pos c15] at H
  have c15b0 : (t271.toList == a0.toList) = true := beq_iff_eq.mpr c15
  have c15b1 : (t271.toList != a0.toList) = false := bne_eq_false_iff_eq.mpr c15
  clear c15
  obtain ⟨rfl, rfl, rfl⟩ := sqO3 H
  go_enter Tryz.func85, Tryz.ntmps85
  go_wp2_with (first | ((with_reducible refine gate_dst (N := 2) rfl ?_); refine sqBx w (sqB HB) (N := 2) (cs := #[.int .i64 0, .string (⟨#[]⟩ : ByteArray)]) (t := 38) ?_; intro gb262 hg w16 BK262 GE262 HB hb; clear hb hg) | ((with_reducible refine gate_callee (f := 84) rfl ?_); refine sqC (some 10) Tryz.func84 #[.string a0, .string (⟨#[32]⟩ : ByteArray)] ?_; (with_reducible refine (strings_Cut.calls a0 (⟨#[32]⟩ : ByteArray) t263 t264 t265 _ ?sideG A2.out).mono ?_); (case sideG => exact Z7 GE262); rintro e w17 ⟨rfl, hb⟩; refine ⟨_, rfl, ?_⟩; replace BK262 := sqT BK262 hb; replace HB := sqS (sqB1 HB GE262) hb; (try clear hb)) | ((with_reducible refine gate_dst (N := 14) rfl ?_); refine Kd.R_lit Kd.string _ 9 ?hg (N := 14) ?hd (xs := ([(⟨#[100, 97, 110, 99, 101]⟩ : ByteArray), (⟨#[116, 97, 107, 101]⟩ : ByteArray), (⟨#[109, 105, 114, 114, 111, 114]⟩ : ByteArray), (⟨#[117, 110, 116, 105, 101]⟩ : ByteArray), (⟨#[98, 97, 99, 107]⟩ : ByteArray)] : List ByteArray)) (inner := [.string (⟨#[100, 97, 110, 99, 101]⟩ : ByteArray), .string (⟨#[116, 97, 107, 101]⟩ : ByteArray), .string (⟨#[109, 105, 114, 114, 111, 114]⟩ : ByteArray), .string (⟨#[117, 110, 116, 105, 101]⟩ : ByteArray), .string (⟨#[98, 97, 99, 107]⟩ : ByteArray)]) (ok := fun _ => True) (okp := fun _ => True) ?hr ?hp (fun _ hk => hk) trivial (Below.refl _ _) (Nat.le_refl _) (by simp) ?_; (case hd => rfl); (case hg => rfl); (case hr => exact Z21); (case hp => exact Z86); intro v267 w18 ho19 hb hg_ hnew_; clear hg_ hnew_; (first | rw [← Ny266.out] at ho19 | (simp only [Int.reduceToNat] at ho19; rw [← Ny266.out] at ho19)); have HO268 := sqL ho19 (sqB1 HB GE262); replace BK262 := sqT BK262 hb; replace HB := sqS (sqB1 HB GE262) hb; clear hb ho19; obtain ⟨Ao20, co20, eo20⟩ := Kd.R_slice HO268.out; subst eo20) | ((with_reducible refine gate_callee (f := 124) rfl ?_); refine sqC (some 16) Tryz.func124 #[.slice Ao20 y266.length co20, .string t263] ?_; (with_reducible refine (slices_Index_string_string.calls k _ _ y266 t263 t269 _ ?side1 ?side2 A3.out).mono ?_); (case side1 => exact Z8 HO268); (case side2 => exact Z9 HO268); rintro e w' ⟨rfl, ⟨nd, rfl⟩⟩; refine ⟨_, rfl, ?_⟩; (try (rw [drewN_self w18]; generalize hq_ : World.drewN w18 _ = w18; have n0_ : Aside0 (Kd.R Kd.string 9 w18 w.heap.size (fun _ => True) (.slice Ao20 y266.length co20) y266) := ⟨Z37 HO268⟩; have n1_ : Aside0 (w18.heap[gb262]? = some (.cells #[.int .i64 0, .string (⟨#[]⟩ : ByteArray)] 38 (0, 0))) := ⟨Z26 BK262⟩; have n2_ : Aside0 (Below w.heap.size w w18) := ⟨Z38 GE262⟩; clear HO268 BK262 HB hq_; have HO268 := n0_; have BK262 := n1_; have HB := n2_; clear n0_ n1_ n2_))) | ((with_reducible refine gate_dst (N := 7) rfl ?_); refine sqBx w (sqB1 HB GE262) (N := 7) (cs := #[.int .i64 0, .string (⟨#[]⟩ : ByteArray)]) (t := 38) ?_; intro gb270 hg w21 BK270 GE270 HB hb; replace HO268 := sqU HO268 hb; obtain ⟨NB262_270, NB270_262⟩ := sqM hg BK262; replace BK262 := sqT BK262 hb; clear hb hg; have hnb22 := NB270_262.out; have hnc22 := NB262_270.out; obtain ⟨hcz23_0, hcz23_1, hfz23_0, hfz23_1⟩ := sqY2 BK270) | (go_at_call 88; (with_reducible refine (impl_deedText.calls k t269 t264 t271 _ ?sideG A14.out).mono ?_); (case sideG => exact Z11 GE262 GE270); rintro e w24 ⟨rfl, hb⟩; replace HO268 := Aside0.mk (Kd.R_below (Z87 HO268 BK270) hb); replace BK262 := sqH NB262_270 BK262 hb; replace BK270 := Aside0.mk (blk_below (g := gb270) (o := .cells #[.int .i64 t269, .string t264] 38 (0, 0)) (Z88 BK270) hb); replace HB := sqS (sqB2 HB GE262 GE270) hb; (try clear hb); obtain ⟨hcz25_0, hcz25_1, hfz25_0, hfz25_1⟩ := sqY2 BK270; obtain ⟨hcz26_0, hcz26_1, hfz26_0, hfz26_1⟩ := sqY2 BK262))
  refine bodyPost_ret (results_ct rfl _ _ gb262 38 #[.int .i64 t269, .string t264] (0, 0) _ rfl (Z88 BK262) Tryz.underlying38 rfl (by kernel_rfl)) rfl ?_
  exact ⟨Z6, sqB2 HB GE262 GE270⟩
 rw [if_neg c15] at H
 have c15b0 : (t271.toList == a0.toList) = false := beq_eq_false_iff_ne.mpr c15
 have c15b1 : (t271.toList != a0.toList) = true := bne_iff_ne.mpr c15
 obtain ⟨rfl, rfl, rfl⟩ := sqO3 H
 go_enter Tryz.func85, Tryz.ntmps85
 go_wp2_with (first | ((with_reducible refine gate_dst (N := 2) rfl ?_); refine sqBx w (sqB HB) (N := 2) (cs := #[.int .i64 0, .string (⟨#[]⟩ : ByteArray)]) (t := 38) ?_; intro gb262 hg w27 BK262 GE262 HB hb; clear hb hg) | ((with_reducible refine gate_callee (f := 84) rfl ?_); refine sqC (some 10) Tryz.func84 #[.string a0, .string (⟨#[32]⟩ : ByteArray)] ?_; (with_reducible refine (strings_Cut.calls a0 (⟨#[32]⟩ : ByteArray) t263 t264 t265 _ ?sideG A2.out).mono ?_); (case sideG => exact Z7 GE262); rintro e w28 ⟨rfl, hb⟩; refine ⟨_, rfl, ?_⟩; replace BK262 := sqT BK262 hb; replace HB := sqS (sqB1 HB GE262) hb; (try clear hb)) | ((with_reducible refine gate_dst (N := 14) rfl ?_); refine Kd.R_lit Kd.string _ 9 ?hg (N := 14) ?hd (xs := ([(⟨#[100, 97, 110, 99, 101]⟩ : ByteArray), (⟨#[116, 97, 107, 101]⟩ : ByteArray), (⟨#[109, 105, 114, 114, 111, 114]⟩ : ByteArray), (⟨#[117, 110, 116, 105, 101]⟩ : ByteArray), (⟨#[98, 97, 99, 107]⟩ : ByteArray)] : List ByteArray)) (inner := [.string (⟨#[100, 97, 110, 99, 101]⟩ : ByteArray), .string (⟨#[116, 97, 107, 101]⟩ : ByteArray), .string (⟨#[109, 105, 114, 114, 111, 114]⟩ : ByteArray), .string (⟨#[117, 110, 116, 105, 101]⟩ : ByteArray), .string (⟨#[98, 97, 99, 107]⟩ : ByteArray)]) (ok := fun _ => True) (okp := fun _ => True) ?hr ?hp (fun _ hk => hk) trivial (Below.refl _ _) (Nat.le_refl _) (by simp) ?_; (case hd => rfl); (case hg => rfl); (case hr => exact Z21); (case hp => exact Z86); intro v267 w29 ho30 hb hg_ hnew_; clear hg_ hnew_; (first | rw [← Ny266.out] at ho30 | (simp only [Int.reduceToNat] at ho30; rw [← Ny266.out] at ho30)); have HO268 := sqL ho30 (sqB1 HB GE262); replace BK262 := sqT BK262 hb; replace HB := sqS (sqB1 HB GE262) hb; clear hb ho30; obtain ⟨Ao31, co31, eo31⟩ := Kd.R_slice HO268.out; subst eo31) | ((with_reducible refine gate_callee (f := 124) rfl ?_); refine sqC (some 16) Tryz.func124 #[.slice Ao31 y266.length co31, .string t263] ?_; (with_reducible refine (slices_Index_string_string.calls k _ _ y266 t263 t269 _ ?side1 ?side2 A3.out).mono ?_); (case side1 => exact Z8 HO268); (case side2 => exact Z9 HO268); rintro e w' ⟨rfl, ⟨nd, rfl⟩⟩; refine ⟨_, rfl, ?_⟩; (try (rw [drewN_self w29]; generalize hq_ : World.drewN w29 _ = w29; have n0_ : Aside0 (Kd.R Kd.string 9 w29 w.heap.size (fun _ => True) (.slice Ao31 y266.length co31) y266) := ⟨Z37 HO268⟩; have n1_ : Aside0 (w29.heap[gb262]? = some (.cells #[.int .i64 0, .string (⟨#[]⟩ : ByteArray)] 38 (0, 0))) := ⟨Z26 BK262⟩; have n2_ : Aside0 (Below w.heap.size w w29) := ⟨Z38 GE262⟩; clear HO268 BK262 HB hq_; have HO268 := n0_; have BK262 := n1_; have HB := n2_; clear n0_ n1_ n2_))) | ((with_reducible refine gate_dst (N := 7) rfl ?_); refine sqBx w (sqB1 HB GE262) (N := 7) (cs := #[.int .i64 0, .string (⟨#[]⟩ : ByteArray)]) (t := 38) ?_; intro gb270 hg w32 BK270 GE270 HB hb; replace HO268 := sqU HO268 hb; obtain ⟨NB262_270, NB270_262⟩ := sqM hg BK262; replace BK262 := sqT BK262 hb; clear hb hg; have hnb33 := NB270_262.out; have hnc33 := NB262_270.out; obtain ⟨hcz34_0, hcz34_1, hfz34_0, hfz34_1⟩ := sqY2 BK270) | (go_at_call 88; (with_reducible refine (impl_deedText.calls k t269 t264 t271 _ ?sideG A14.out).mono ?_); (case sideG => exact Z11 GE262 GE270); rintro e w35 ⟨rfl, hb⟩; replace HO268 := Aside0.mk (Kd.R_below (Z87 HO268 BK270) hb); replace BK262 := sqH NB262_270 BK262 hb; replace BK270 := Aside0.mk (blk_below (g := gb270) (o := .cells #[.int .i64 t269, .string t264] 38 (0, 0)) (Z88 BK270) hb); replace HB := sqS (sqB2 HB GE262 GE270) hb; (try clear hb); obtain ⟨hcz36_0, hcz36_1, hfz36_0, hfz36_1⟩ := sqY2 BK262))
 refine bodyPost_ret (results_ct rfl _ _ gb262 38 #[.int .i64 0, .string (⟨#[]⟩ : ByteArray)] (0, 0) _ rfl (by refine sqPut (cs := #[.int .i64 0, .string (⟨#[]⟩ : ByteArray)]) ?_ 1; refine sqPut (cs := #[.int .i64 0, .string (⟨#[]⟩ : ByteArray)]) ?_ 0; exact sqK BK262) Tryz.underlying38 rfl (by kernel_rfl)) rfl ?_
 exact ⟨Z6, sqB2 HB GE262 GE270⟩

/-! ### impl_untied: function 105 -/
def impl_untied.l0 : Nat → ByteArray → Int → Int → Option (ByteArray)
 | 0, _, _, _ => none
 | k + 1, x3, x273000, x273001 => if x273000 = 0 then (some x3) else (if x273000 < 0 then (if x3.size + 1 ≤ 9223372036854775807 then (impl_untied.l0 k (x3 ++ (⟨#[84]⟩ : ByteArray)) (wrap64 (x273000 + x273001)) x273001) else (none)) else (if x3.size + 1 ≤ 9223372036854775807 then ((impl_lowest.f k (wrap64 (-x273001)) x273000).bind fun bt273 => (impl_untied.l0 k (x3 ++ (⟨#[82]⟩ : ByteArray)) bt273.1 bt273.2)) else (none)))
def impl_untied.f (k : Nat) (a0_0 : Int) (a0_1 : Int) : Option (ByteArray) := impl_untied.l0 k (⟨#[]⟩ : ByteArray) a0_0 a0_1
abbrev impl_untied.M (k : Nat) : Prop := (∀ y0 y1 y2, LeO (impl_untied.l0 k y0 y1 y2) (impl_untied.l0 (k + 1) y0 y1 y2))
theorem impl_untied.mono_t : ∀ k, impl_untied.M k → impl_untied.M (k + 1) ∧ ∀ a0 a1, LeO (impl_untied.f k a0 a1) (impl_untied.f (k + 1) a0 a1) := by
  rintro k ih0
  refine ⟨?_, ?_⟩ <;> (try unfold impl_untied.M) <;> intros <;> (first | unfold impl_untied.l0 | unfold impl_untied.f) <;> repeat' (with_reducible first | exact ih0 _ _ _ | exact impl_lowest.mono _ _ _ | exact LeO.refl _ | exact LeO.none _ | refine LeO.ite ?_ ?_ | refine LeO.bind ?_ fun _ => ?_)
theorem impl_untied.mono_l : ∀ k, impl_untied.M k
 | 0 => fun _ _ _ r h => by simp [impl_untied.l0] at h
 | k + 1 => (impl_untied.mono_t k (impl_untied.mono_l k)).1
theorem impl_untied.mono a0 a1 k : LeO (impl_untied.f k a0 a1) (impl_untied.f (k + 1) a0 a1) := (impl_untied.mono_t k (impl_untied.mono_l k)).2 a0 a1
set_option maxHeartbeats 8000000 in
set_option maxRecDepth 100000 in
theorem impl_untied.calls (k : Nat) (a0_0 : Int) (a0_1 : Int) (r : ByteArray) (w : World) (h : impl_untied.f k a0_0 a0_1 = some r) :
  Calls Tryz.prog 105 #[.agg #[.int .i64 a0_0, .int .i64 a0_1]] w fun e w' => e = .returned (.string r) ∧ Below w.heap.size w w' := by
 have hu31 := Tryz.underlying31
 have HB := Aside0.mk (Below.refl w.heap.size w)
 unfold impl_untied.f at h
 have H := h
 clear h
 have H' := Aside0.mk H
 clear H
 go_enter Tryz.func105, Tryz.ntmps105
 go_wp2_with (first | ((with_reducible refine gate_dst (N := 1) rfl ?_); refine sqBx w (sqB HB) (N := 1) (cs := #[.int .i64 a0_0, .int .i64 a0_1]) (t := 31) ?_; intro gb272 hg w2 BK272 GE272 HB hb; clear hb hg))
 go_loopg [3] k (fun kq v3 w' => ∃ (x3_1 : ByteArray) (x273000_1 : Int) (x273001_1 : Int), v3 = .string x3_1 ∧ Aside0 (impl_untied.l0 kq x3_1 x273000_1 x273001_1 = some r) ∧ Aside0 (kq ≤ k) ∧ Aside0 (w'.heap[gb272]? = some (.cells #[.int .i64 x273000_1, .int .i64 x273001_1] 31 (0, 0))) ∧ Aside0 (Below w.heap.size w w'))
 case atStart => exact ⟨((⟨#[]⟩ : ByteArray)), (a0_0), (a0_1), Z2, H', ⟨Nat.le_refl _⟩, ⟨sqK BK272⟩, ⟨sqB1 HB GE272⟩⟩
 case round =>
  clear H'
  obtain ⟨x3_1, x273000_1, x273001_1, rfl, HA, HK1, BK272, HB⟩ := hrel
  cases gk with
  | zero => exact absurd HA.out (by simp [impl_untied.l0])
  | succ k1 =>
   have H := HA.out
   clear HA
   simp only [impl_untied.l0] at H
   by_cases c3 : x273000_1 = 0
   ·rw [if_pos c3] at H
    have c3b0 : (x273000_1 == 0) = true := beq_iff_eq.mpr c3
    have c3b1 : (x273000_1 != 0) = false := bne_eq_false_iff_eq.mpr c3
    clear c3
    obtain rfl := Option.some.inj H
    obtain ⟨hcz4_0, hcz4_1, hfz4_0, hfz4_1⟩ := sqY2 BK272
    go_wp2
    go_ret
    exact ⟨Z6, sqB1 HB GE272⟩
   rw [if_neg c3] at H
   have c3b0 : (x273000_1 == 0) = false := beq_eq_false_iff_ne.mpr c3
   have c3b1 : (x273000_1 != 0) = true := bne_iff_ne.mpr c3
   by_cases c5 : x273000_1 < 0
   ·rw [if_pos c5] at H
    have c5b0 : decide (x273000_1 < 0) = true := decide_eq_true c5
    clear c5
    obtain ⟨c6, H⟩ := sqI H
    have c6b0 := eq_true c6
    have c6b1 : decide (x3_1.size + 1 ≤ 9223372036854775807) = true := decide_eq_true c6
    try have c6b2 : (9223372036854775807 < x3_1.size + 1) = False := eq_false (Nat.not_lt.2 c6)
    have H' := Aside0.mk H
    clear H
    obtain ⟨hcz7_0, hcz7_1, hfz7_0, hfz7_1⟩ := sqY2 BK272
    go_wp2
    go_roundg k1
    case measure => have := HK1.out; omega
    case rel => exact ⟨(x3_1 ++ (⟨#[84]⟩ : ByteArray)), (wrap64 (x273000_1 + x273001_1)), (x273001_1), Z2, H', ⟨Z3 HK1⟩, ⟨by refine sqPut (cs := #[.int .i64 x273000_1, .int .i64 x273001_1]) ?_ 0; exact sqK BK272⟩, ⟨sqB1 HB GE272⟩⟩
   rw [if_neg c5] at H
   have c5b0 : decide (x273000_1 < 0) = false := decide_eq_false c5
   clear c5
   obtain ⟨c8, H⟩ := sqI H
   have c8b0 := eq_true c8
   have c8b1 : decide (x3_1.size + 1 ≤ 9223372036854775807) = true := decide_eq_true c8
   try have c8b2 : (9223372036854775807 < x3_1.size + 1) = False := eq_false (Nat.not_lt.2 c8)
   obtain ⟨⟨t273, t274⟩, A9, H⟩ := sqD H
   try dsimp only at H
   have H' := Aside0.mk H
   clear H
   obtain ⟨hcz10_0, hcz10_1, hfz10_0, hfz10_1⟩ := sqY2 BK272
   go_wp2_with (first | ((with_reducible refine gate_callee (f := 120) rfl ?_); refine sqC (some 25) Tryz.func120 #[.int .i64 (wrap64 (-x273001_1)), .int .i64 x273000_1] ?_; (with_reducible refine (impl_lowest.calls k1 (wrap64 (-x273001_1)) x273000_1 t273 t274 _ A9.out).mono ?_); rintro e w11 ⟨rfl, hb⟩; refine ⟨_, rfl, ?_⟩; replace BK272 := sqT BK272 hb; replace HB := sqS (sqB1 HB GE272) hb; (try clear hb); obtain ⟨hcz12_0, hcz12_1, hfz12_0, hfz12_1⟩ := sqY2 BK272))
   go_roundg k1
   case measure => have := HK1.out; omega
   case rel => exact ⟨(x3_1 ++ (⟨#[82]⟩ : ByteArray)), (t273), (t274), Z2, H', ⟨Z3 HK1⟩, ⟨by refine sqPut (cs := #[.int .i64 t273, .int .i64 x273001_1]) ?_ 1; refine sqPut (cs := #[.int .i64 x273000_1, .int .i64 x273001_1]) ?_ 0; exact sqK BK272⟩, ⟨sqB1 HB GE272⟩⟩

/-! ### impl_ceiling: function 180 -/
def impl_ceiling.f (a0_0 : Int) (a0_1 : Int) : Option (Int) := if a0_1 = 0 then (none) else (if (wrap64 ((wrap64 (Int.tdiv a0_0 a0_1)) * a0_1)) < a0_0 then (some (wrap64 ((wrap64 (Int.tdiv a0_0 a0_1)) + 1))) else (some (wrap64 (Int.tdiv a0_0 a0_1))))
set_option maxHeartbeats 8000000 in
set_option maxRecDepth 100000 in
theorem impl_ceiling.calls (a0_0 : Int) (a0_1 : Int) (r : Int) (w : World) (h : impl_ceiling.f a0_0 a0_1 = some r) :
  Calls Tryz.prog 180 #[.agg #[.int .i64 a0_0, .int .i64 a0_1]] w fun e w' => e = .returned (.int .i64 r) ∧ Below w.heap.size w w' := by
 have hu31 := Tryz.underlying31
 have HB := Aside0.mk (Below.refl w.heap.size w)
 unfold impl_ceiling.f at h
 have H := h
 clear h
 by_cases c2 : a0_1 = 0
 ·rw [if_pos c2] at H
  exact absurd H (by simp)
 rw [if_neg c2] at H
 have c2b0 : (a0_1 == 0) = false := beq_eq_false_iff_ne.mpr c2
 have c2b1 : (a0_1 != 0) = true := bne_iff_ne.mpr c2
 by_cases c3 : (wrap64 ((wrap64 (Int.tdiv a0_0 a0_1)) * a0_1)) < a0_0
 ·rw [if_pos c3] at H
  have c3b0 : decide ((wrap64 ((wrap64 (Int.tdiv a0_0 a0_1)) * a0_1)) < a0_0) = true := decide_eq_true c3
  clear c3
  obtain rfl := Option.some.inj H
  go_enter Tryz.func180, Tryz.ntmps180
  go_wp2_with (first | ((with_reducible refine gate_dst (N := 1) rfl ?_); refine sqBx w (sqB HB) (N := 1) (cs := #[.int .i64 a0_0, .int .i64 a0_1]) (t := 31) ?_; intro gb275 hg w4 BK275 GE275 HB hb; clear hb hg; obtain ⟨hcz5_0, hcz5_1, hfz5_0, hfz5_1⟩ := sqY2 BK275))
  go_ret
  exact ⟨Z6, sqB1 HB GE275⟩
 rw [if_neg c3] at H
 have c3b0 : decide ((wrap64 ((wrap64 (Int.tdiv a0_0 a0_1)) * a0_1)) < a0_0) = false := decide_eq_false c3
 clear c3
 obtain rfl := Option.some.inj H
 go_enter Tryz.func180, Tryz.ntmps180
 go_wp2_with (first | ((with_reducible refine gate_dst (N := 1) rfl ?_); refine sqBx w (sqB HB) (N := 1) (cs := #[.int .i64 a0_0, .int .i64 a0_1]) (t := 31) ?_; intro gb275 hg w6 BK275 GE275 HB hb; clear hb hg; obtain ⟨hcz7_0, hcz7_1, hfz7_0, hfz7_1⟩ := sqY2 BK275))
 go_ret
 exact ⟨Z6, sqB1 HB GE275⟩

/-! ### impl_termsOf: function 165 -/
def impl_termsOf.l0 : Nat → List Int → Int → Int → Option (List Int)
 | 0, _, _, _ => none
 | k + 1, x3, x277000, x277001 => (impl_ceiling.f x277000 x277001).bind fun t280 => (if x3.length < 17592186044416 then ((some (x3 ++ [t280] : List Int)).bind fun y281 => (if (wrap64 ((wrap64 (t280 * x277001)) - x277000)) = 0 then (some y281) else (impl_termsOf.l0 k y281 x277001 (wrap64 ((wrap64 (t280 * x277001)) - x277000))))) else (none))
def impl_termsOf.f (k : Nat) (a0_0 : Int) (a0_1 : Int) : Option (List Int) := impl_termsOf.l0 k (([] : List Int)) a0_0 a0_1
abbrev impl_termsOf.M (k : Nat) : Prop := (∀ y0 y1 y2, LeO (impl_termsOf.l0 k y0 y1 y2) (impl_termsOf.l0 (k + 1) y0 y1 y2))
theorem impl_termsOf.mono_t : ∀ k, impl_termsOf.M k → impl_termsOf.M (k + 1) ∧ ∀ a0 a1, LeO (impl_termsOf.f k a0 a1) (impl_termsOf.f (k + 1) a0 a1) := by
  rintro k ih0
  refine ⟨?_, ?_⟩ <;> (try unfold impl_termsOf.M) <;> intros <;> (first | unfold impl_termsOf.l0 | unfold impl_termsOf.f) <;> repeat' (with_reducible first | exact ih0 _ _ _ | exact LeO.refl _ | exact LeO.none _ | refine LeO.ite ?_ ?_ | refine LeO.bind ?_ fun _ => ?_)
theorem impl_termsOf.mono_l : ∀ k, impl_termsOf.M k
 | 0 => fun _ _ _ r h => by simp [impl_termsOf.l0] at h
 | k + 1 => (impl_termsOf.mono_t k (impl_termsOf.mono_l k)).1
theorem impl_termsOf.mono a0 a1 k : LeO (impl_termsOf.f k a0 a1) (impl_termsOf.f (k + 1) a0 a1) := (impl_termsOf.mono_t k (impl_termsOf.mono_l k)).2 a0 a1
set_option maxHeartbeats 8000000 in
set_option maxRecDepth 100000 in
theorem impl_termsOf.calls (k : Nat) (a0_0 : Int) (a0_1 : Int) (r : List Int) (w : World) (h : impl_termsOf.f k a0_0 a0_1 = some r) :
  Calls Tryz.prog 165 #[.agg #[.int .i64 a0_0, .int .i64 a0_1]] w fun e w' => ∃ v0_ : Value, e = .returned (v0_) ∧ Kd.R (Kd.int .i64) 3 w' w.heap.size (fun _ => True) v0_ r ∧ Below w.heap.size w w' := by
 have hu31 := Tryz.underlying31
 have HB := Aside0.mk (Below.refl w.heap.size w)
 unfold impl_termsOf.f at h
 have H := h
 clear h
 obtain ⟨y277, hy277⟩ : ∃ y_ : List Int, y_ = (([] : List Int)) := ⟨_, rfl⟩
 replace H : (impl_termsOf.l0 k y277 a0_0 a0_1) = some r := sqW hy277 H
 have Ny277 := Aside0.mk hy277
 clear hy277
 have H' := Aside0.mk H
 clear H
 go_enter Tryz.func165, Tryz.ntmps165
 go_wp2_with (first | ((with_reducible refine gate_dst (N := 1) rfl ?_); refine sqBx w (sqB HB) (N := 1) (cs := #[.int .i64 a0_0, .int .i64 a0_1]) (t := 31) ?_; intro gb276 hg w2 BK276 GE276 HB hb; clear hb hg) | ((with_reducible refine gate_dst (N := 6) rfl ?_); refine Kd.R_lit (Kd.int .i64) _ 3 ?hg (N := 6) ?hd (xs := ([] : List Int)) (inner := []) (ok := fun _ => True) (okp := fun _ => True) ?hr ?hp (fun _ hk => hk) trivial (Below.refl _ _) (Nat.le_refl _) (by simp) ?_; (case hd => rfl); (case hg => rfl); (case hr => exact Z21); (case hp => exact Z22); intro v278 w3 ho4 hb hg_ hnew_; clear hg_ hnew_; (first | rw [← Ny277.out] at ho4 | (simp only [Int.reduceToNat] at ho4; rw [← Ny277.out] at ho4)); have HO279 := sqL ho4 (sqB1 HB GE276); replace BK276 := sqT BK276 hb; replace HB := sqS (sqB1 HB GE276) hb; clear hb ho4))
 go_loopg [3] k (fun kq v3 w' => ∃ (x3_1 : List Int) (x277000_1 : Int) (x277001_1 : Int), Aside0 (impl_termsOf.l0 kq x3_1 x277000_1 x277001_1 = some r) ∧ Aside0 (kq ≤ k) ∧ Aside0 (Kd.R (Kd.int .i64) 3 w' w.heap.size (fun _ => True) v3 x3_1) ∧ Aside0 (w'.heap[gb276]? = some (.cells #[.int .i64 x277000_1, .int .i64 x277001_1] 31 (0, 0))) ∧ Aside0 (Below w.heap.size w w'))
 case atStart => exact ⟨(y277), (a0_0), (a0_1), H', ⟨Nat.le_refl _⟩, ⟨sqR HO279⟩, ⟨sqK BK276⟩, ⟨sqB1 HB GE276⟩⟩
 case round =>
  clear H'
  obtain ⟨x3_1, x277000_1, x277001_1, HA, HK1, HO_3, BK276, HB⟩ := hrel
  cases gk with
  | zero => exact absurd HA.out (by simp [impl_termsOf.l0])
  | succ k1 =>
   have H := HA.out
   clear HA
   simp only [impl_termsOf.l0] at H
   obtain ⟨t280, A5, H⟩ := sqD H
   obtain ⟨c6, H⟩ := sqI H
   have LMc6 := Aside0.mk c6
   clear c6
   obtain ⟨y281, hy281⟩ : ∃ y_ : List Int, y_ = (x3_1 ++ [t280]) := ⟨_, rfl⟩
   replace H : (if (wrap64 ((wrap64 (t280 * x277001_1)) - x277000_1)) = 0 then (some y281) else (impl_termsOf.l0 k1 y281 x277001_1 (wrap64 ((wrap64 (t280 * x277001_1)) - x277000_1)))) = some r := sqW hy281 H
   have Ny281 := Aside0.mk hy281
   clear hy281
   by_cases c7 : (wrap64 ((wrap64 (t280 * x277001_1)) - x277000_1)) = 0
   ·rw [if_pos c7] at H
    have c7b0 : ((wrap64 ((wrap64 (t280 * x277001_1)) - x277000_1)) == 0) = true := beq_iff_eq.mpr c7
    have c7b1 : ((wrap64 ((wrap64 (t280 * x277001_1)) - x277000_1)) != 0) = false := bne_eq_false_iff_eq.mpr c7
    clear c7
    obtain rfl := Option.some.inj H
    obtain ⟨hcz8_0, hcz8_1, hfz8_0, hfz8_1⟩ := sqY2 BK276
    go_wp2_with (first | ((with_reducible refine gate_callee (f := 180) rfl ?_); refine sqC (some 8) Tryz.func180 #[.agg #[.int .i64 x277000_1, .int .i64 x277001_1]] ?_; (with_reducible refine (impl_ceiling.calls x277000_1 x277001_1 t280 _ A5.out).mono ?_); rintro e w9 ⟨rfl, hb⟩; refine ⟨_, rfl, ?_⟩; replace HO_3 := sqU HO_3 hb; replace BK276 := sqT BK276 hb; replace HB := sqS (sqB1 HB GE276) hb; (try clear hb)) | ((with_reducible refine gate_builtin (b := .append) (xs := #[.tmp 9, .tmp 11]) rfl ?_); at_builtin; refine Kd.R_append (Kd.int .i64) (w0 := w) w.heap.size rfl (.tmp 9) (.tmp 11) 109 3 (.int .i64 0) 8 rfl Tryz.underlying109 info3 rfl (by decide) (by omega) u3 x3_1 t280 [.int .i64 t280] (fun _ => True) (fun _ => False) rfl rfl ?aP (fun _ hk => hk.elim) ?aF ?aO ?aB ?aS ?aL ?_; (case aP => exact rfl); (case aB => exact (sqB1 HB GE276)); (case aF => exact Z23); (case aO => exact (sqR HO_3)); (case aS => exact (below_size (sqB1 HB GE276))); (case aL => exact Z3 LMc6); intro v282 w10 ho hb hg hat; rw [← Ny281.out] at ho; replace BK276 := Aside0.mk (blk_grown (sqK BK276) hg (Kd.R_ne HO_3.out BK276.out (by decide))); replace HB := Aside0.mk (hb); have HO283 := Aside0.mk (ho); clear HO_3; clear ho hb hg hat; obtain ⟨hcz11_0, hcz11_1, hfz11_0, hfz11_1⟩ := sqY2 BK276))
    go_ret
    exact ⟨_, Z6, Z35 HO283, sqB1 HB GE276⟩
   rw [if_neg c7] at H
   have c7b0 : ((wrap64 ((wrap64 (t280 * x277001_1)) - x277000_1)) == 0) = false := beq_eq_false_iff_ne.mpr c7
   have c7b1 : ((wrap64 ((wrap64 (t280 * x277001_1)) - x277000_1)) != 0) = true := bne_iff_ne.mpr c7
   have H' := Aside0.mk H
   clear H
   obtain ⟨hcz12_0, hcz12_1, hfz12_0, hfz12_1⟩ := sqY2 BK276
   go_wp2_with (first | ((with_reducible refine gate_callee (f := 180) rfl ?_); refine sqC (some 8) Tryz.func180 #[.agg #[.int .i64 x277000_1, .int .i64 x277001_1]] ?_; (with_reducible refine (impl_ceiling.calls x277000_1 x277001_1 t280 _ A5.out).mono ?_); rintro e w13 ⟨rfl, hb⟩; refine ⟨_, rfl, ?_⟩; replace HO_3 := sqU HO_3 hb; replace BK276 := sqT BK276 hb; replace HB := sqS (sqB1 HB GE276) hb; (try clear hb)) | ((with_reducible refine gate_builtin (b := .append) (xs := #[.tmp 9, .tmp 11]) rfl ?_); at_builtin; refine Kd.R_append (Kd.int .i64) (w0 := w) w.heap.size rfl (.tmp 9) (.tmp 11) 109 3 (.int .i64 0) 8 rfl Tryz.underlying109 info3 rfl (by decide) (by omega) u3 x3_1 t280 [.int .i64 t280] (fun _ => True) (fun _ => False) rfl rfl ?aP (fun _ hk => hk.elim) ?aF ?aO ?aB ?aS ?aL ?_; (case aP => exact rfl); (case aB => exact (sqB1 HB GE276)); (case aF => exact Z23); (case aO => exact (sqR HO_3)); (case aS => exact (below_size (sqB1 HB GE276))); (case aL => exact Z3 LMc6); intro v282 w14 ho hb hg hat; rw [← Ny281.out] at ho; replace BK276 := Aside0.mk (blk_grown (sqK BK276) hg (Kd.R_ne HO_3.out BK276.out (by decide))); replace HB := Aside0.mk (hb); have HO283 := Aside0.mk (ho); clear HO_3; clear ho hb hg hat; obtain ⟨hcz15_0, hcz15_1, hfz15_0, hfz15_1⟩ := sqY2 BK276))
   go_roundg k1
   case measure => have := HK1.out; omega
   case rel => exact ⟨(y281), (x277001_1), (wrap64 ((wrap64 (t280 * x277001_1)) - x277000_1)), H', ⟨Z3 HK1⟩, ⟨by (with_reducible repeat (first | apply Kd.R_alloc | apply Kd.R_drewN | apply Kd.R_drew)); exact Kd.R_mono (Kd.R_far (p := ⟨gb276, 1, none⟩) (Kd.R_far (p := ⟨gb276, 0, none⟩) (Kd.R_types HO283.out BK276.out (by decide)) (fun _ hk => hk.2) (.int .i64 x277001_1)) (fun _ hk => hk.2) (.int .i64 (wrap64 ((wrap64 (t280 * x277001_1)) - x277000_1)))) (fun _ hk => trivial)⟩, ⟨by refine sqPut (cs := #[.int .i64 x277001_1, .int .i64 x277001_1]) ?_ 1; refine sqPut (cs := #[.int .i64 x277000_1, .int .i64 x277001_1]) ?_ 0; exact sqK BK276⟩, ⟨sqB1 HB GE276⟩⟩

end Go.Proofs.YtofmlbgfcohhoaaGreatDoor.PFnExactDeskLine
