/- Lean functions of the Go functions that the law FnExactDeskLine reaches, each with its contract: made by a program of this session. -/
import Derived.Test.YtofmlbgfcohhoaaGreatDoorPFnExactDeskLinex17
namespace Go.Proofs.YtofmlbgfcohhoaaGreatDoor.PFnExactDeskLine
open Go.RowKit Go.Proofs.YtofmlbgfcohhoaaGreatDoorW.PrintWords Go.Proofs.YtofmlbgfcohhoaaGreatDoorW.PrintLast Go.Proofs.YtofmlbgfcohhoaaGreatDoorW.PrintMore Go.Proofs.YtofmlbgfcohhoaaGreatDoor.Lib
attribute [local go_sem] max2_int min2_int max_two min_two max_three min_three max_four min_four   -- for this text's walks alone
set_option linter.unusedVariables false
set_option linter.unusedSimpArgs false

attribute [local go_sem high] eqA38
/-! ### spec_DeedText: function 122 -/
mutual
def spec_DeedText.j0 : Nat → Bool → Bool → Int → ByteArray → Option (ByteArray)
 | 0, _, _, _, _ => none
 | k + 1, x4, x11, x543000, x543001 => if x11 = true then (if 6 + x543001.size ≤ 9223372036854775807 then (some ((⟨#[100, 97, 110, 99, 101, 32]⟩ : ByteArray) ++ x543001)) else (none)) else (if x543000 = 1 then (spec_DeedText.j1 k x4 x543000 x543001) else (spec_DeedText.j1 k false x543000 x543001))
def spec_DeedText.j1 : Nat → Bool → Int → ByteArray → Option (ByteArray)
 | 0, _, _, _ => none
 | k + 1, x23, x543000, x543001 => if x23 = true then (if 5 + x543001.size ≤ 9223372036854775807 then (some ((⟨#[116, 97, 107, 101, 32]⟩ : ByteArray) ++ x543001)) else (none)) else (if (x543000 == 2 && (x543001.toList == ([] : List UInt8))) = true then (some (⟨#[109, 105, 114, 114, 111, 114]⟩ : ByteArray)) else (if (x543000 == 3 && (x543001.toList == ([] : List UInt8))) = true then (some (⟨#[117, 110, 116, 105, 101]⟩ : ByteArray)) else (if (x543000 == 4 && (x543001.toList == ([] : List UInt8))) = true then (some (⟨#[98, 97, 99, 107]⟩ : ByteArray)) else (some (⟨#[]⟩ : ByteArray)))))
end
def spec_DeedText.f (k : Nat) (a0_0 : Int) (a0_1 : ByteArray) : Option (ByteArray) := (spec_ReadFraction.f k a0_1).bind fun bt543 => (if a0_0 = 0 then ((spec_DanceOk.f k a0_1).bind fun t547 => (spec_DeedText.j0 k bt543.2.2 t547 a0_0 a0_1)) else (spec_DeedText.j0 k bt543.2.2 false a0_0 a0_1))
abbrev spec_DeedText.M (k : Nat) : Prop := (∀ y0 y1 y2 y3, LeO (spec_DeedText.j0 k y0 y1 y2 y3) (spec_DeedText.j0 (k + 1) y0 y1 y2 y3)) ∧ (∀ y0 y1 y2, LeO (spec_DeedText.j1 k y0 y1 y2) (spec_DeedText.j1 (k + 1) y0 y1 y2))
theorem spec_DeedText.mono_t : ∀ k, spec_DeedText.M k → spec_DeedText.M (k + 1) ∧ ∀ a0 a1, LeO (spec_DeedText.f k a0 a1) (spec_DeedText.f (k + 1) a0 a1) := by
  rintro k ⟨ih0, ih1⟩
  refine ⟨⟨?_, ?_⟩, ?_⟩ <;> intros <;> (first | unfold spec_DeedText.j0 | unfold spec_DeedText.j1 | unfold spec_DeedText.f) <;> repeat' (with_reducible first | exact ih0 _ _ _ _ | exact ih1 _ _ _ | exact spec_DanceOk.mono _ _ | exact spec_ReadFraction.mono _ _ | exact LeO.refl _ | exact LeO.none _ | refine LeO.ite ?_ ?_ | refine LeO.bind ?_ fun _ => ?_)
theorem spec_DeedText.mono_l : ∀ k, spec_DeedText.M k
 | 0 => ⟨fun _ _ _ _ r h => by simp [spec_DeedText.j0] at h, fun _ _ _ r h => by simp [spec_DeedText.j1] at h⟩
 | k + 1 => (spec_DeedText.mono_t k (spec_DeedText.mono_l k)).1
theorem spec_DeedText.mono a0 a1 k : LeO (spec_DeedText.f k a0 a1) (spec_DeedText.f (k + 1) a0 a1) := (spec_DeedText.mono_t k (spec_DeedText.mono_l k)).2 a0 a1
set_option maxHeartbeats 8000000 in
set_option maxRecDepth 100000 in
theorem spec_DeedText.calls (k : Nat) (a0_0 : Int) (a0_1 : ByteArray) (r : ByteArray) (w : World) (h : spec_DeedText.f k a0_0 a0_1 = some r) :
  Calls Tryz.prog 122 #[.agg #[.int .i64 a0_0, .string a0_1]] w fun e w' => e = .returned (.string r) ∧ Below w.heap.size w w' := by
 have hu38 := Tryz.underlying38
 have hu31 := Tryz.underlying31
 have HB := Aside0.mk (Below.refl w.heap.size w)
 unfold spec_DeedText.f at h
 have H := h
 clear h
 obtain ⟨⟨t543, t544, t545⟩, A2, H⟩ := sqD H
 try dsimp only at H
 have HC3 := Aside0.mk H
 clear H
 go_enter Tryz.func122, Tryz.ntmps122
 go_upto_region 2 with (first | ((with_reducible refine gate_dst (N := 1) rfl ?_); refine sqBx w (sqB HB) (N := 1) (cs := #[.int .i64 a0_0, .string a0_1]) (t := 38) ?_; intro gb542 hg w4 BK542 GE542 HB hb; clear hb hg; obtain ⟨hcz5_0, hcz5_1, hfz5_0, hfz5_1⟩ := sqY2 BK542) | ((with_reducible refine gate_callee (f := 107) rfl ?_); refine sqC (some 8) Tryz.func107 #[.string a0_1] ?_; (with_reducible refine (spec_ReadFraction.calls k a0_1 t543 t544 t545 _ A2.out).mono ?_); rintro e w6 ⟨rfl, hb⟩; refine ⟨_, rfl, ?_⟩; replace BK542 := sqT BK542 hb; replace HB := sqS (sqB1 HB GE542) hb; (try clear hb)) | ((with_reducible refine gate_dst (N := 3) rfl ?_); refine sqBx w (sqB1 HB GE542) (N := 3) (cs := #[.int .i64 0, .int .i64 0]) (t := 31) ?_; intro gb546 hg w7 BK546 GE546 HB hb; obtain ⟨NB542_546, NB546_542⟩ := sqM hg BK542; replace BK542 := sqT BK542 hb; clear hb hg; have hnb8 := NB546_542.out; have hnc8 := NB542_546.out; obtain ⟨hcz9_0, hcz9_1, hfz9_0, hfz9_1⟩ := sqY2 BK546))
 (try simp only [Act.put, List.setIfInBounds_toArray, List.set_cons_zero, List.set_cons_succ])
 go_cut [11] (fun v11 wc => ∃ (kq : Nat) (x11_2 : Bool), v11 = .bool x11_2 ∧ Aside0 (spec_DeedText.j0 kq t545 x11_2 a0_0 a0_1 = some r) ∧ Aside0 (kq ≤ k) ∧ Aside0 (wc.heap[gb542]? = some (.cells #[.int .i64 a0_0, .string a0_1] 38 (0, 0))) ∧ Aside0 (wc.heap[gb546]? = some (.cells #[.int .i64 t543, .int .i64 t544] 31 (0, 0))) ∧ Aside0 (Below w.heap.size w wc))
 case first =>
  have H := HC3.out
  clear HC3
  by_cases c10 : a0_0 = 0
  ·rw [if_pos c10] at H
   have c10b0 : (a0_0 == 0) = true := beq_iff_eq.mpr c10
   have c10b1 : (a0_0 != 0) = false := bne_eq_false_iff_eq.mpr c10
   clear c10
   (first | rw [c10b0] | (simp only [i64_w, i32_w]; rw [c10b0]) | skip)
   obtain ⟨t547, A11, H⟩ := sqD H
   have H' := Aside0.mk H
   clear H
   have hnb12 := NB542_546.out
   have hnc12 := NB546_542.out
   obtain ⟨hcz13_0, hcz13_1, hfz13_0, hfz13_1⟩ := sqY2 BK542
   go_wp2_with (first | (go_at_call 134; (with_reducible refine (spec_DanceOk.calls k a0_1 t547 _ A11.out).mono ?_); rintro e w' ⟨rfl, ⟨nd, rfl⟩⟩))
   go_meet
   case rel => exact ⟨_, (t547), Z2, H', ⟨Z12⟩, ⟨Z10 NB542_546 BK542⟩, ⟨Z51 BK546⟩, ⟨sqB2 HB GE542 GE546⟩⟩
  rw [if_neg c10] at H
  have c10b0 : (a0_0 == 0) = false := beq_eq_false_iff_ne.mpr c10
  have c10b1 : (a0_0 != 0) = true := bne_iff_ne.mpr c10
  (first | rw [c10b0] | (simp only [i64_w, i32_w]; rw [c10b0]) | skip)
  have H' := Aside0.mk H
  clear H
  have hnb14 := NB542_546.out
  have hnc14 := NB546_542.out
  obtain ⟨hcz15_0, hcz15_1, hfz15_0, hfz15_1⟩ := sqY2 BK542
  go_wp2
  go_meet
  case rel => exact ⟨_, (false), Z2, H', ⟨Z12⟩, ⟨Z10 NB542_546 BK542⟩, ⟨Z51 BK546⟩, ⟨sqB2 HB GE542 GE546⟩⟩
 case rest =>
  clear HC3
  try clear hcz5_0; try clear hcz5_1; try clear hcz9_0; try clear hcz9_1; try clear hfz5_0; try clear hfz5_1; try clear hfz9_0; try clear hfz9_1
  obtain ⟨kq, x11_2, rfl, HA, HJ2, BK542, BK546, HB⟩ := hcut
  cases kq with
  | zero => exact absurd HA.out (by simp [spec_DeedText.j0])
  | succ kj2 =>
   have H := HA.out
   clear HA
   simp only [spec_DeedText.j0] at H
   by_cases c16 : x11_2 = true
   ·subst c16
    rw [if_pos rfl] at H
    obtain ⟨c17, H⟩ := sqI H
    have c17b0 := eq_true c17
    have c17b1 : decide (6 + a0_1.size ≤ 9223372036854775807) = true := decide_eq_true c17
    try have c17b2 : (9223372036854775807 < 6 + a0_1.size) = False := eq_false (Nat.not_lt.2 c17)
    obtain rfl := Option.some.inj H
    have hnb18 := NB542_546.out
    have hnc18 := NB546_542.out
    obtain ⟨hcz19_0, hcz19_1, hfz19_0, hfz19_1⟩ := sqY2 BK542
    go_wp2
    go_ret
    exact ⟨Z6, sqB2 HB GE542 GE546⟩
   replace c16 := Bool.eq_false_iff.mpr c16
   subst c16
   rw [if_neg sqF] at H
   have HC20 := Aside0.mk H
   clear H
   go_upto_region 4 with (fail)
   go_cut [23] (fun v23 wc => ∃ (kq : Nat) (x23_19 : Bool), v23 = .bool x23_19 ∧ Aside0 (spec_DeedText.j1 kq x23_19 a0_0 a0_1 = some r) ∧ Aside0 (kq ≤ kj2) ∧ Aside0 (wc.heap[gb542]? = some (.cells #[.int .i64 a0_0, .string a0_1] 38 (0, 0))) ∧ Aside0 (wc.heap[gb546]? = some (.cells #[.int .i64 t543, .int .i64 t544] 31 (0, 0))) ∧ Aside0 (Below w.heap.size w wc))
   case first =>
    have H := HC20.out
    clear HC20
    by_cases c21 : a0_0 = 1
    ·rw [if_pos c21] at H
     have c21b0 : (a0_0 == 1) = true := beq_iff_eq.mpr c21
     have c21b1 : (a0_0 != 1) = false := bne_eq_false_iff_eq.mpr c21
     clear c21
     (first | rw [c21b0] | (simp only [i64_w, i32_w]; rw [c21b0]) | skip)
     have H' := Aside0.mk H
     clear H
     have hnb22 := NB542_546.out
     have hnc22 := NB546_542.out
     obtain ⟨hcz23_0, hcz23_1, hfz23_0, hfz23_1⟩ := sqY2 BK542
     go_wp2
     go_meet
     case rel => exact ⟨_, (t545), Z2, H', ⟨Z52⟩, ⟨sqK BK542⟩, ⟨sqK BK546⟩, ⟨sqB2 HB GE542 GE546⟩⟩
    rw [if_neg c21] at H
    have c21b0 : (a0_0 == 1) = false := beq_eq_false_iff_ne.mpr c21
    have c21b1 : (a0_0 != 1) = true := bne_iff_ne.mpr c21
    (first | rw [c21b0] | (simp only [i64_w, i32_w]; rw [c21b0]) | skip)
    have H' := Aside0.mk H
    clear H
    have hnb24 := NB542_546.out
    have hnc24 := NB546_542.out
    obtain ⟨hcz25_0, hcz25_1, hfz25_0, hfz25_1⟩ := sqY2 BK542
    go_wp2
    go_meet
    case rel => exact ⟨_, (false), Z2, H', ⟨Z52⟩, ⟨sqK BK542⟩, ⟨sqK BK546⟩, ⟨sqB2 HB GE542 GE546⟩⟩
   case rest =>
    clear HC20
    try clear c1; try clear p2; try clear c8; try clear c10; try clear c10b0; try clear c10b1; try clear c12; try clear c14; try clear c16; try clear hcz13_0; try clear hcz13_1; try clear hcz15_0; try clear hcz15_1; try clear hcz5_0; try clear hcz5_1; try clear hcz9_0; try clear hcz9_1; try clear hfz13_0; try clear hfz13_1; try clear hfz15_0; try clear hfz15_1; try clear hfz5_0; try clear hfz5_1; try clear hfz9_0; try clear hfz9_1; try clear p2
    obtain ⟨kq, x23_19, rfl, HA, HJ19, BK542, BK546, HB⟩ := hcut
    cases kq with
    | zero => exact absurd HA.out (by simp [spec_DeedText.j1])
    | succ kj19 =>
     have H := HA.out
     clear HA
     simp only [spec_DeedText.j1] at H
     by_cases c26 : x23_19 = true
     ·subst c26
      rw [if_pos rfl] at H
      obtain ⟨c27, H⟩ := sqI H
      have c27b0 := eq_true c27
      have c27b1 : decide (5 + a0_1.size ≤ 9223372036854775807) = true := decide_eq_true c27
      try have c27b2 : (9223372036854775807 < 5 + a0_1.size) = False := eq_false (Nat.not_lt.2 c27)
      obtain rfl := Option.some.inj H
      have hnb28 := NB542_546.out
      have hnc28 := NB546_542.out
      obtain ⟨hcz29_0, hcz29_1, hfz29_0, hfz29_1⟩ := sqY2 BK542
      go_wp2
      go_ret
      exact ⟨Z6, sqB2 HB GE542 GE546⟩
     replace c26 := Bool.eq_false_iff.mpr c26
     subst c26
     rw [if_neg sqF] at H
     by_cases c30 : (a0_0 == 2 && (a0_1.toList == ([] : List UInt8))) = true
     ·rw [if_pos c30] at H
      have c30b0 : (a0_0 == 2 && (a0_1.toList == ([] : List UInt8))) = true := c30
      try have c30b8 : (a0_0 == 2 && a0_1.toList.isEmpty) = true := by (have h_ := c30b0; (repeat rw [show ∀ z : List UInt8, (z == ([] : List UInt8)) = z.isEmpty from fun z => by cases z <;> rfl] at h_); exact h_)
      (try (have c30b1 : decide (a0_0 = 2 && (a0_1.toList == ([] : List UInt8))) = true := by simpa using c30))
      (try (have c30b2 : (a0_0 == 2 && (a0_1.toList == ([] : List UInt8))) = true := by simpa using c30))
      clear c30
      obtain rfl := Option.some.inj H
      have hnb31 := NB542_546.out
      have hnc31 := NB546_542.out
      obtain ⟨hcz32_0, hcz32_1, hfz32_0, hfz32_1⟩ := sqY2 BK542
      go_wp2
      go_ret
      exact ⟨Z6, sqB2 HB GE542 GE546⟩
     rw [if_neg c30] at H
     have c30b0 : (a0_0 == 2 && (a0_1.toList == ([] : List UInt8))) = false := by simpa using c30
     try have c30b8 : (a0_0 == 2 && a0_1.toList.isEmpty) = false := by (have h_ := c30b0; (repeat rw [show ∀ z : List UInt8, (z == ([] : List UInt8)) = z.isEmpty from fun z => by cases z <;> rfl] at h_); exact h_)
     (try (have c30b1 : decide (a0_0 = 2 && (a0_1.toList == ([] : List UInt8))) = false := by simpa using c30))
     (try (have c30b2 : (a0_0 == 2 && (a0_1.toList == ([] : List UInt8))) = false := by simpa using c30))
     (try (have c30b3 : ¬ (a0_0 = 2 && (a0_1.toList == ([] : List UInt8))) := by simpa using c30))
     clear c30
     by_cases c33 : (a0_0 == 3 && (a0_1.toList == ([] : List UInt8))) = true
     ·rw [if_pos c33] at H
      have c33b0 : (a0_0 == 3 && (a0_1.toList == ([] : List UInt8))) = true := c33
      try have c33b8 : (a0_0 == 3 && a0_1.toList.isEmpty) = true := by (have h_ := c33b0; (repeat rw [show ∀ z : List UInt8, (z == ([] : List UInt8)) = z.isEmpty from fun z => by cases z <;> rfl] at h_); exact h_)
      (try (have c33b1 : decide (a0_0 = 3 && (a0_1.toList == ([] : List UInt8))) = true := by simpa using c33))
      (try (have c33b2 : (a0_0 == 3 && (a0_1.toList == ([] : List UInt8))) = true := by simpa using c33))
      clear c33
      obtain rfl := Option.some.inj H
      have hnb34 := NB542_546.out
      have hnc34 := NB546_542.out
      obtain ⟨hcz35_0, hcz35_1, hfz35_0, hfz35_1⟩ := sqY2 BK542
      go_wp2
      go_ret
      exact ⟨Z6, sqB2 HB GE542 GE546⟩
     rw [if_neg c33] at H
     have c33b0 : (a0_0 == 3 && (a0_1.toList == ([] : List UInt8))) = false := by simpa using c33
     try have c33b8 : (a0_0 == 3 && a0_1.toList.isEmpty) = false := by (have h_ := c33b0; (repeat rw [show ∀ z : List UInt8, (z == ([] : List UInt8)) = z.isEmpty from fun z => by cases z <;> rfl] at h_); exact h_)
     (try (have c33b1 : decide (a0_0 = 3 && (a0_1.toList == ([] : List UInt8))) = false := by simpa using c33))
     (try (have c33b2 : (a0_0 == 3 && (a0_1.toList == ([] : List UInt8))) = false := by simpa using c33))
     (try (have c33b3 : ¬ (a0_0 = 3 && (a0_1.toList == ([] : List UInt8))) := by simpa using c33))
     clear c33
     by_cases c36 : (a0_0 == 4 && (a0_1.toList == ([] : List UInt8))) = true
     ·rw [if_pos c36] at H
      have c36b0 : (a0_0 == 4 && (a0_1.toList == ([] : List UInt8))) = true := c36
      try have c36b8 : (a0_0 == 4 && a0_1.toList.isEmpty) = true := by (have h_ := c36b0; (repeat rw [show ∀ z : List UInt8, (z == ([] : List UInt8)) = z.isEmpty from fun z => by cases z <;> rfl] at h_); exact h_)
      (try (have c36b1 : decide (a0_0 = 4 && (a0_1.toList == ([] : List UInt8))) = true := by simpa using c36))
      (try (have c36b2 : (a0_0 == 4 && (a0_1.toList == ([] : List UInt8))) = true := by simpa using c36))
      clear c36
      obtain rfl := Option.some.inj H
      have hnb37 := NB542_546.out
      have hnc37 := NB546_542.out
      obtain ⟨hcz38_0, hcz38_1, hfz38_0, hfz38_1⟩ := sqY2 BK542
      go_wp2
      go_ret
      exact ⟨Z6, sqB2 HB GE542 GE546⟩
     rw [if_neg c36] at H
     have c36b0 : (a0_0 == 4 && (a0_1.toList == ([] : List UInt8))) = false := by simpa using c36
     try have c36b8 : (a0_0 == 4 && a0_1.toList.isEmpty) = false := by (have h_ := c36b0; (repeat rw [show ∀ z : List UInt8, (z == ([] : List UInt8)) = z.isEmpty from fun z => by cases z <;> rfl] at h_); exact h_)
     (try (have c36b1 : decide (a0_0 = 4 && (a0_1.toList == ([] : List UInt8))) = false := by simpa using c36))
     (try (have c36b2 : (a0_0 == 4 && (a0_1.toList == ([] : List UInt8))) = false := by simpa using c36))
     (try (have c36b3 : ¬ (a0_0 = 4 && (a0_1.toList == ([] : List UInt8))) := by simpa using c36))
     clear c36
     obtain rfl := Option.some.inj H
     have hnb39 := NB542_546.out
     have hnc39 := NB546_542.out
     obtain ⟨hcz40_0, hcz40_1, hfz40_0, hfz40_1⟩ := sqY2 BK542
     go_wp2
     go_ret
     exact ⟨Z6, sqB2 HB GE542 GE546⟩

/-! ### spec_ReadDeed: function 86 -/
mutual
def spec_ReadDeed.j0 : Nat → ByteArray → List (S38) → Option (Int × ByteArray × Bool)
 | 0, _, _ => none
 | k + 1, x0, x5 => spec_ReadDeed.l0 k x0 x5 0
def spec_ReadDeed.l0 : Nat → ByteArray → List (S38) → Int → Option (Int × ByteArray × Bool)
 | 0, _, _, _ => none
 | k + 1, x0, x5, x6 => if x6 < (x5.length : Int) then (if x0.toList = ([] : List UInt8) then (spec_ReadDeed.l0 k x0 x5 (wrap64 (x6 + 1))) else (if 0 ≤ x6 then ((spec_DeedText.f k ((rd_T38 x5 x6).f0) ((rd_T38 x5 x6).f1)).bind fun t564 => (if t564.toList = x0.toList then (some ((rd_T38 x5 x6).f0, (rd_T38 x5 x6).f1, true)) else (spec_ReadDeed.l0 k x0 x5 (wrap64 (x6 + 1))))) else (none))) else (some (0, (⟨#[]⟩ : ByteArray), false))
end
def spec_ReadDeed.f (k : Nat) (a0 : ByteArray) : Option (Int × ByteArray × Bool) := (spec_l1Cut.f k a0 32).bind fun t549 => ((some (([(⟨2, (⟨#[]⟩ : ByteArray)⟩ : S38), (⟨3, (⟨#[]⟩ : ByteArray)⟩ : S38), (⟨4, (⟨#[]⟩ : ByteArray)⟩ : S38)] : List (S38)) : List (S38))).bind fun y552 => (if (t549.length : Int) = 2 then (if 1 < (t549.length : Int) then ((some (([(⟨0, rdOf ByteArray.empty t549 1⟩ : S38), (⟨1, rdOf ByteArray.empty t549 1⟩ : S38)] : List (S38)) : List (S38))).bind fun y557 => (if y552.length + y557.length < 5864062014805 then (spec_ReadDeed.j0 k a0 (y552 ++ y557)) else (none))) else (none)) else (spec_ReadDeed.j0 k a0 y552)))
abbrev spec_ReadDeed.M (k : Nat) : Prop := (∀ y0 y1, LeO (spec_ReadDeed.j0 k y0 y1) (spec_ReadDeed.j0 (k + 1) y0 y1)) ∧ (∀ y0 y1 y2, LeO (spec_ReadDeed.l0 k y0 y1 y2) (spec_ReadDeed.l0 (k + 1) y0 y1 y2))
theorem spec_ReadDeed.mono_t : ∀ k, spec_ReadDeed.M k → spec_ReadDeed.M (k + 1) ∧ ∀ a0, LeO (spec_ReadDeed.f k a0) (spec_ReadDeed.f (k + 1) a0) := by
  rintro k ⟨ih0, ih1⟩
  refine ⟨⟨?_, ?_⟩, ?_⟩ <;> intros <;> (first | unfold spec_ReadDeed.j0 | unfold spec_ReadDeed.l0 | unfold spec_ReadDeed.f) <;> repeat' (with_reducible first | exact ih0 _ _ | exact ih1 _ _ _ | exact spec_DeedText.mono _ _ _ | exact spec_l1Cut.mono _ _ _ | exact LeO.refl _ | exact LeO.none _ | refine LeO.ite ?_ ?_ | refine LeO.bind ?_ fun _ => ?_)
theorem spec_ReadDeed.mono_l : ∀ k, spec_ReadDeed.M k
 | 0 => ⟨fun _ _ r h => by simp [spec_ReadDeed.j0] at h, fun _ _ _ r h => by simp [spec_ReadDeed.l0] at h⟩
 | k + 1 => (spec_ReadDeed.mono_t k (spec_ReadDeed.mono_l k)).1
theorem spec_ReadDeed.mono a0 k : LeO (spec_ReadDeed.f k a0) (spec_ReadDeed.f (k + 1) a0) := (spec_ReadDeed.mono_t k (spec_ReadDeed.mono_l k)).2 a0
def spec_ReadDeed.T4 : Bool × List (List Nat × List Nat) := (true, [([], []), ([], []), ([1], [1]), ([2], [2]), ([3], [3]), ([], []), ([5], [5]), ([6], [6]), ([7], [7]), ([4, 8], [4, 8]), ([0, 9], [0, 9]), ([10, 10, 0, 1, 2, 3, 4, 5, 6, 7, 8, 9, 10], [0, 10])])
def spec_ReadDeed.B4 : List Nat := [0, 0, 2, 6, 14, 0, 32, 96, 224, 510, 1023, 2047]
theorem spec_ReadDeed.tab4 : rtab .any (opsOf Tryz.f86 4) = spec_ReadDeed.T4 := by kernel_rfl
theorem spec_ReadDeed.bits4 : waitsOk spec_ReadDeed.T4.2 spec_ReadDeed.B4 = true := by kernel_rfl
set_option maxHeartbeats 8000000 in
set_option maxRecDepth 100000 in
theorem spec_ReadDeed.calls (k : Nat) (a0 : ByteArray) (r1 : Int) (r2 : ByteArray) (r3 : Bool) (w : World) (h : spec_ReadDeed.f k a0 = some (r1, r2, r3)) :
  Calls Tryz.prog 86 #[.string a0] w fun e w' => e = .returned (.tuple #[.agg #[.int .i64 r1, .string r2], .bool r3]) ∧ Below w.heap.size w w' := by
 have hu38 := Tryz.underlying38
 have HB := Aside0.mk (Below.refl w.heap.size w)
 unfold spec_ReadDeed.f at h
 have H := h
 clear h
 obtain ⟨t549, A2, H⟩ := sqD H
 obtain ⟨y552, hy552⟩ : ∃ y_ : List (S38), y_ = (([(⟨2, (⟨#[]⟩ : ByteArray)⟩ : S38), (⟨3, (⟨#[]⟩ : ByteArray)⟩ : S38), (⟨4, (⟨#[]⟩ : ByteArray)⟩ : S38)] : List (S38))) := ⟨_, rfl⟩
 replace H : (if (t549.length : Int) = 2 then (if 1 < (t549.length : Int) then ((some (([(⟨0, rdOf ByteArray.empty t549 1⟩ : S38), (⟨1, rdOf ByteArray.empty t549 1⟩ : S38)] : List (S38)) : List (S38))).bind fun y557 => (if y552.length + y557.length < 5864062014805 then (spec_ReadDeed.j0 k a0 (y552 ++ y557)) else (none))) else (none)) else (spec_ReadDeed.j0 k a0 y552)) = some (r1, r2, r3) := sqW hy552 H
 have Ny552 := Aside0.mk hy552
 clear hy552
 have HC3 := Aside0.mk H
 clear H
 go_enter Tryz.func86, Tryz.ntmps86
 go_upto_if 15 with (first | ((with_reducible refine gate_dst (N := 2) rfl ?_); refine sqBx w (sqB HB) (N := 2) (cs := #[.int .i64 0, .string (⟨#[]⟩ : ByteArray)]) (t := 38) ?_; intro gb548 hg w4 BK548 GE548 HB hb; clear hb hg) | ((with_reducible refine gate_callee (f := 99) rfl ?_); refine sqC (some 8) Tryz.func99 #[.string a0, .int .u8 32] ?_; (with_reducible refine (spec_l1Cut.calls k a0 32 t549 _ A2.out).mono ?_); rintro e w5 ⟨v550, rfl, ho0, hb⟩; refine ⟨_, rfl, ?_⟩; have HO551 := sqL ho0 (sqB1 HB GE548); replace BK548 := sqT BK548 hb; replace HB := sqS (sqB1 HB GE548) hb; (try clear hb); (try clear ho0)) | ((with_reducible refine gate_dst (N := 12) rfl ?_); refine Kd.R_lit k38 _ 38 ?hg (N := 12) ?hd (xs := ([(⟨2, (⟨#[]⟩ : ByteArray)⟩ : S38), (⟨3, (⟨#[]⟩ : ByteArray)⟩ : S38), (⟨4, (⟨#[]⟩ : ByteArray)⟩ : S38)] : List (S38))) (inner := [.int .i64 2, .string (⟨#[]⟩ : ByteArray), .int .i64 3, .string (⟨#[]⟩ : ByteArray), .int .i64 4, .string (⟨#[]⟩ : ByteArray)]) (ok := fun _ => True) (okp := fun _ => True) ?hr ?hp (fun _ hk => hk) trivial (Below.refl _ _) (Nat.le_refl _) (by simp) ?_; (case hd => rfl); (case hg => rfl); (case hr => exact Z21); (case hp => exact (Reps.c2 (show Kd.M k38 _ _ _ (⟨2, (⟨#[]⟩ : ByteArray)⟩ : S38) [.int .i64 2, .string (⟨#[]⟩ : ByteArray)] from (k38_mkM _ _ _ (⟨2, (⟨#[]⟩ : ByteArray)⟩ : S38) )) (Reps.c2 (show Kd.M k38 _ _ _ (⟨3, (⟨#[]⟩ : ByteArray)⟩ : S38) [.int .i64 3, .string (⟨#[]⟩ : ByteArray)] from (k38_mkM _ _ _ (⟨3, (⟨#[]⟩ : ByteArray)⟩ : S38) )) (Reps.c2 (show Kd.M k38 _ _ _ (⟨4, (⟨#[]⟩ : ByteArray)⟩ : S38) [.int .i64 4, .string (⟨#[]⟩ : ByteArray)] from (k38_mkM _ _ _ (⟨4, (⟨#[]⟩ : ByteArray)⟩ : S38) )) (Reps.none _ _))))); intro v553 w6 ho7 hb hg_ hnew_; clear hg_ hnew_; (first | rw [← Ny552.out] at ho7 | (simp only [Int.reduceToNat] at ho7; rw [← Ny552.out] at ho7)); replace HO551 := sqU HO551 hb; have HO554 := Aside0.mk (Kd.R_lower (Kd.R_newB ho7 (sqK BK548)) (below_size (sqB1 HB GE548))); replace BK548 := sqT BK548 hb; replace HB := sqS (sqB1 HB GE548) hb; clear hb ho7; obtain ⟨Ao8, co8, eo8⟩ := Kd.R_slice HO551.out; subst eo8))
 (try simp only [Act.put, List.setIfInBounds_toArray, List.set_cons_zero, List.set_cons_succ])
 go_cut [5] (fun v5 wc => ∃ (kq : Nat) (x5_2 : List (S38)), Aside0 (spec_ReadDeed.j0 kq a0 x5_2 = some (r1, r2, r3)) ∧ Aside0 (kq ≤ k) ∧ Aside0 (Kd.R k38 38 wc w.heap.size (fun k_ => k_ ≠ gb548) v5 x5_2) ∧ Aside0 (wc.heap[gb548]? = some (.cells #[.int .i64 0, .string (⟨#[]⟩ : ByteArray)] 38 (0, 0))) ∧ Aside0 (Below w.heap.size w wc))
 case first =>
  have H := HC3.out
  clear HC3
  by_cases c9 : (t549.length : Int) = 2
  ·rw [if_pos c9] at H
   have c9b0 : ((t549.length : Int) == 2) = true := beq_iff_eq.mpr c9
   have c9b1 : ((t549.length : Int) != 2) = false := bne_eq_false_iff_eq.mpr c9
   clear c9
   (first | rw [c9b0] | (simp only [i64_w, i32_w]; rw [c9b0]) | skip)
   obtain ⟨c10, H⟩ := sqI H
   have c10b0 : decide (1 < (t549.length : Int)) = true := decide_eq_true c10
   have c10b1 : decide (1 < t549.length) = true := decide_eq_true (by omega)
   clear c10
   obtain ⟨y557, hy557⟩ : ∃ y_ : List (S38), y_ = (([(⟨0, rdOf ByteArray.empty t549 1⟩ : S38), (⟨1, rdOf ByteArray.empty t549 1⟩ : S38)] : List (S38))) := ⟨_, rfl⟩
   replace H : (if y552.length + y557.length < 5864062014805 then (spec_ReadDeed.j0 k a0 (y552 ++ y557)) else (none)) = some (r1, r2, r3) := sqW hy557 H
   have Ny557 := Aside0.mk hy557
   clear hy557
   obtain ⟨c11, H⟩ := sqI H
   have LMc11 := Aside0.mk c11
   clear c11
   obtain ⟨y560, hy560⟩ : ∃ y_ : List (S38), y_ = (y552 ++ y557) := ⟨_, rfl⟩
   replace H : (spec_ReadDeed.j0 k a0 y560) = some (r1, r2, r3) := sqW hy560 H
   have Ny560 := Aside0.mk hy560
   clear hy560
   have H' := Aside0.mk H
   clear H
   try go_wp2
   replace HO551 := Aside0.mk (Kd.R_drew HO551.out)
   replace HO554 := Aside0.mk (Kd.R_drew HO554.out)
   replace BK548 := Aside0.mk (blk_drew BK548.out)
   replace HB := Aside0.mk (below_drew1 HB.out)
   have p555 : 0 ≤ (1 : Int) := (by omega)
   have q555 : 1 < (t549.length : Int) := of_decide_eq_true Z20
   obtain ⟨ad555, e555, hx555_0⟩ := Kd.at_string (Kd.R_reads' HO551.out).2.2 1 p555 q555
   cases e555
   (try simp only [show (1 : Int).toNat = 1 from rfl, Nat.reduceMul, Nat.reduceEqDiff, Go.Addr.add, ↓reduceIte] at hx555_0)
   have qi555 : (1 < t549.length) = True := eq_true (by omega)
   (try rw [show ((1 : Int)).toNat = 1 from rfl] at hx555_0)
   replace p555 := eq_true p555
   replace q555 := eq_true q555
   have p556 : 0 ≤ (1 : Int) := (by omega)
   have q556 : 1 < (t549.length : Int) := of_decide_eq_true Z20
   obtain ⟨ad556, e556, hx556_0⟩ := Kd.at_string (Kd.R_reads' HO551.out).2.2 1 p556 q556
   obtain rfl : ad555 = ad556 := (by injection e556)
   (try simp only [show (1 : Int).toNat = 1 from rfl, Nat.reduceMul, Nat.reduceEqDiff, Go.Addr.add, ↓reduceIte] at hx556_0)
   have qi556 : (1 < t549.length) = True := eq_true (by omega)
   (try rw [show ((1 : Int)).toNat = 1 from rfl] at hx556_0)
   replace p556 := eq_true p556
   replace q556 := eq_true q556
   refine start_ (n := 12) (S := fun w' => w'.cell? ⟨ad555.block, ad555.off + 1, none⟩ = some (.string (rdOf ByteArray.empty t549 1)) ∧ w'.cell? ⟨ad555.block, ad555.off + 1, none⟩ = some (.string (rdOf ByteArray.empty t549 1))) (ds := [10]) #[false, false, false, false, false, false, false, false, false, false, false, false] (by kernel_rfl) rfl rfl ⟨hx555_0, hx556_0⟩ (fun hHeld => ?_); refine with_tabW spec_ReadDeed.tab4 spec_ReadDeed.bits4 (fun HT_ HW_ => ?_)
   generalize w6.drew = w12 at HO551 HO554 BK548 HB hx555_0 hx556_0 hHeld ⊢
   refine sqP (i := 0) (N := some 16) (h := ?_)
   refine sqP (i := 1) (N := some 17) (h := ?_)
   refine sqP (i := 2) (N := some 18) (h := ?_)
   refine sqP (i := 5) (N := some 21) (h := ?_)
   refine sqP (i := 6) (N := some 22) (h := ?_)
   refine sqQ (i := 3) (N := some 19) hHeld (h := ?_)
   refine sqP (i := 4) (N := some 20) (h := ?_)
   refine sqQ (i := 7) (N := some 23) hHeld (h := ?_)
   refine sqP (i := 8) (N := some 24) (h := ?_)
   refine one_ (i := 9) (N := some 25) #[true, true, true, true, true, true, true, true, true, true, false, false] rfl rfl (one_of HT_.out (by kernel_rfl)) (by decide) (fun K hK => ?_)
   refine Kd.R_lit_step k38 _ 38 ?hg (N := 25) ?hd (xs := ([(⟨0, rdOf ByteArray.empty t549 1⟩ : S38), (⟨1, rdOf ByteArray.empty t549 1⟩ : S38)] : List (S38))) (inner := [.int .i64 0, .string (rdOf ByteArray.empty t549 1), .int .i64 1, .string (rdOf ByteArray.empty t549 1)]) (ok := fun _ => True) (okp := fun _ => True) ?hr ?hp (fun _ hk => hk) trivial (Below.refl _ _) (Nat.le_refl _) (by simp) ?_; (case hd => rfl); (case hg => rfl); (case hr => exact Z21); (case hp => exact (Reps.c2 (show Kd.M k38 _ _ _ (⟨0, rdOf ByteArray.empty t549 1⟩ : S38) [.int .i64 0, .string (rdOf ByteArray.empty t549 1)] from (k38_mkM _ _ _ (⟨0, rdOf ByteArray.empty t549 1⟩ : S38) )) (Reps.c2 (show Kd.M k38 _ _ _ (⟨1, rdOf ByteArray.empty t549 1⟩ : S38) [.int .i64 1, .string (rdOf ByteArray.empty t549 1)] from (k38_mkM _ _ _ (⟨1, rdOf ByteArray.empty t549 1⟩ : S38) )) (Reps.none _ _))))
   intro v558 w13 ho14 hb hg_ hnew_
   have HS0_ := (hb.cell (World.block_lt_of_cell? _ _ (hHeld.1))).trans (hHeld.1)
   have HS1_ := (hb.cell (World.block_lt_of_cell? _ _ (hHeld.2))).trans (hHeld.2)
   clear hg_ hnew_
   (first | rw [← Ny557.out] at ho14 | (simp only [Int.reduceToNat] at ho14; rw [← Ny557.out] at ho14))
   replace HO551 := sqU HO551 hb
   have HO559 := Aside0.mk (Kd.R_lower (Kd.R_newB (Kd.R_new' ho14 (Kd.R_lt (sqR HO554))) (sqK BK548)) (below_size (sqB1 HB GE548)))
   replace HO554 := Aside0.mk (Kd.R_elder' (sqR HO554) (Kd.R_base ho14) hb)
   replace BK548 := sqT BK548 hb
   replace HB := sqS (sqB1 HB GE548) hb
   clear hb ho14
   obtain ⟨Ao16, co16, eo16⟩ := Kd.R_slice HO559.out
   (first | subst eo16 | (injection eo16 with f1_ f2_ f3_; have f4_ := f1_.symm; have f5_ := f3_.symm; clear f1_ f2_ f3_; subst f4_; subst f5_))
   refine hK.out _ _ ⟨HS0_, HS1_⟩ (fun hHeld => ?_)
   clear hK K
   refine sqN (some 25) ?_
   refine last_ (i := 10) (N := some 26) #[true, true, true, true, true, true, true, true, true, true, true, false] rfl rfl (one_of HT_.out (by kernel_rfl)) (by decide) (fun K hK => ?_)
   refine Kd.R_append_rows_step k38 (w0 := w) w.heap.size (by rfl) (.tmp 16) (.tmp 25) 52 38 (.agg #[(.int .i64 0), (.string ⟨#[]⟩)]) 24 rfl Tryz.underlying52 info38 rfl (by decide) (by omega) v553 y552 y557 _ _ _ (fun k_ => some k_ ≠ (.slice Ao16 y557.length co16 : Value).ownBlock ∧ k_ ≠ gb548) (fun _ => False) rfl rfl ?aO ?aR (fun _ _ h => h) (fun _ h => h.elim) ?aF ?aB ?aS ?aL ?_
   (case aR => exact Z8 HO559)
   (case aB => exact (sqB1 HB GE548))
   (case aF => exact (fun k_ hk => ⟨Kd.fresh' (Kd.R_lt (sqR HO559)) k_ hk, Kd.freshB (sqK BK548) k_ hk⟩))
   (case aO => exact (Z53 HO554))
   (case aS => exact (below_size (sqB1 HB GE548)))
   (case aL => exact Z3 LMc11)
   intro v561 w15 ho hb hg hat
   rw [← Ny560.out] at ho
   replace BK548 := Aside0.mk (blk_grown (sqK BK548) hg (Kd.R_away HO554.out (fun _ hk => hk.1.2)))
   replace HO551 := Aside0.mk (Kd.R_over' (sqR HO551) (Kd.R_typed (sqR HO554)) (by decide) hg)
   replace HO559 := Aside0.mk (Kd.R_after (ok := (fun k_ => k_ ≠ gb548)) (Z53 HO559) hg hat)
   replace HB := Aside0.mk (hb)
   have HO562 := Aside0.mk (ho)
   clear HO554
   clear ho hb hg hat
   refine hK.out _ _ ?_
   clear hK K
   refine sqN (some 26) ?_
   refine sqP (i := 11) (N := some 5) (h := ?_)
   refine done_ (done_of HT_.out (by kernel_rfl)) ?_
   try go_wp2
   go_meet
   case rel => exact ⟨_, (y560), H', ⟨Z12⟩, ⟨Z54 HO562⟩, ⟨sqK BK548⟩, ⟨sqB1 HB GE548⟩⟩
  rw [if_neg c9] at H
  have c9b0 : ((t549.length : Int) == 2) = false := beq_eq_false_iff_ne.mpr c9
  have c9b1 : ((t549.length : Int) != 2) = true := bne_iff_ne.mpr c9
  (first | rw [c9b0] | (simp only [i64_w, i32_w]; rw [c9b0]) | skip)
  have H' := Aside0.mk H
  clear H
  go_wp2
  go_meet
  case rel => exact ⟨_, (y552), H', ⟨Z12⟩, ⟨Z54 HO554⟩, ⟨sqK BK548⟩, ⟨sqB1 HB GE548⟩⟩
 case rest =>
  clear HC3
  try clear c2
  obtain ⟨kq, x5_2, HA, HJ2, HO_5, BK548, HB⟩ := hcut
  cases kq with
  | zero => exact absurd HA.out (by simp [spec_ReadDeed.j0])
  | succ kj2 =>
   have H := HA.out
   clear HA
   simp only [spec_ReadDeed.j0] at H
   have H' := Aside0.mk H
   clear H
   go_wp2
   go_loopg [6] kj2 (fun kq v6 w' => ∃ (x6_2 : Int) (x549000_2 : Int) (x549001_2 : ByteArray), v6 = .int .i64 x6_2 ∧ Aside0 (spec_ReadDeed.l0 kq a0 x5_2 x6_2 = some (r1, r2, r3)) ∧ Aside0 (kq ≤ kj2) ∧ Aside0 (Kd.R k38 38 w' w.heap.size (fun k_ => k_ ≠ gb548) u5 x5_2) ∧ Aside0 (w'.heap[gb548]? = some (.cells #[.int .i64 x549000_2, .string x549001_2] 38 (0, 0))) ∧ Aside0 (Below w.heap.size w w'))
   case atStart => exact ⟨(0), (0), ((⟨#[]⟩ : ByteArray)), Z2, H', ⟨Nat.le_refl _⟩, ⟨sqR HO_5⟩, ⟨sqK BK548⟩, ⟨sqB1 HB GE548⟩⟩
   case round =>
    clear H'
    try clear c1; try clear c2; try clear p2; try clear p5; try clear q5; try clear hx5; try clear qi5; try clear c8; try clear c9; try clear c9b0; try clear c9b1; try clear c10; try clear c10b0; try clear c10b1; try clear c11; try clear hx555_0; try clear hx556_0; try clear p2; try clear p5; try clear p555; try clear p556; try clear q5; try clear q555; try clear q556
    obtain ⟨x6_2, x549000_2, x549001_2, rfl, HA, HK2, HO_5, BK548, HB⟩ := hrel
    cases gk with
    | zero => exact absurd HA.out (by simp [spec_ReadDeed.l0])
    | succ k2 =>
     have H := HA.out
     clear HA
     simp only [spec_ReadDeed.l0] at H
     by_cases c17 : x6_2 < (x5_2.length : Int)
     ·rw [if_pos c17] at H
      have c17b0 : decide (x6_2 < (x5_2.length : Int)) = true := decide_eq_true c17
      clear c17
      by_cases c18 : a0.toList = ([] : List UInt8)
      ·rw [if_pos c18] at H
       have c18b0 : (a0.toList == ([] : List UInt8)) = true := beq_iff_eq.mpr c18
       try have c18b8 : a0.toList.isEmpty = true := by (have h_ := c18b0; (repeat rw [show ∀ z : List UInt8, (z == ([] : List UInt8)) = z.isEmpty from fun z => by cases z <;> rfl] at h_); exact h_)
       have c18b1 : (a0.toList != ([] : List UInt8)) = false := bne_eq_false_iff_eq.mpr c18
       clear c18
       have H' := Aside0.mk H
       clear H
       obtain ⟨Ao19, co19, eo19⟩ := Kd.R_slice HO_5.out
       subst eo19
       go_wp2
       go_roundg k2
       case measure => have := HJ2.out; have := HK2.out; omega
       case rel => exact ⟨(wrap64 (x6_2 + 1)), (x549000_2), (x549001_2), Z2, H', ⟨by have := HJ2.out; have := HK2.out; omega⟩, ⟨sqR HO_5⟩, ⟨sqK BK548⟩, ⟨sqB1 HB GE548⟩⟩
      rw [if_neg c18] at H
      have c18b0 : (a0.toList == ([] : List UInt8)) = false := beq_eq_false_iff_ne.mpr c18
      try have c18b8 : a0.toList.isEmpty = false := by (have h_ := c18b0; (repeat rw [show ∀ z : List UInt8, (z == ([] : List UInt8)) = z.isEmpty from fun z => by cases z <;> rfl] at h_); exact h_)
      have c18b1 : (a0.toList != ([] : List UInt8)) = true := bne_iff_ne.mpr c18
      obtain ⟨c20, H⟩ := sqI H
      have c20b0 : decide (0 ≤ x6_2) = true := decide_eq_true c20
      clear c20
      obtain ⟨t564, A21, H⟩ := sqD H
      by_cases c22 : t564.toList = a0.toList
      ·rw [if_pos c22] at H
       have c22b0 : (t564.toList == a0.toList) = true := beq_iff_eq.mpr c22
       have c22b1 : (t564.toList != a0.toList) = false := bne_eq_false_iff_eq.mpr c22
       clear c22
       obtain ⟨rfl, rfl, rfl⟩ := sqO3 H
       obtain ⟨Ao23, co23, eo23⟩ := Kd.R_slice HO_5.out
       subst eo23
       have p563 : 0 ≤ (x6_2 : Int) := of_decide_eq_true Z20
       have q563 : x6_2 < (x5_2.length : Int) := of_decide_eq_true Z20
       obtain ⟨ad563, e563, hx563_0, hx563_1⟩ := at_T38 (Kd.R_reads' HO_5.out).2.2 x6_2 p563 q563
       cases e563
       replace p563 := eq_true p563
       replace q563 := eq_true q563
       go_wp2_with (first | (go_at_call 122; (with_reducible refine (spec_DeedText.calls k2 ((rd_T38 x5_2 x6_2).f0) ((rd_T38 x5_2 x6_2).f1) t564 _ A21.out).mono ?_); rintro e w24 ⟨rfl, hb⟩; replace HO_5 := sqU HO_5 hb; replace BK548 := sqT BK548 hb; replace HB := sqS (sqB1 HB GE548) hb; (try clear hb); have p565 : 0 ≤ (x6_2 : Int) := of_decide_eq_true Z20; have q565 : x6_2 < (x5_2.length : Int) := of_decide_eq_true Z20; obtain ⟨ad565, e565, hx565_0, hx565_1⟩ := at_T38 (Kd.R_reads' HO_5.out).2.2 x6_2 p565 q565; obtain rfl : ad563 = ad565 := (by injection e565); replace p565 := eq_true p565; replace q565 := eq_true q565; obtain ⟨hcz25_0, hcz25_1, hfz25_0, hfz25_1⟩ := sqY2 BK548))
       refine bodyPost_ret (results_ct rfl _ _ gb548 38 #[.int .i64 ((rd_T38 x5_2 x6_2).f0), .string ((rd_T38 x5_2 x6_2).f1)] (0, 0) _ rfl (by refine sqPut (cs := #[.int .i64 ((rd_T38 x5_2 x6_2).f0), .string x549001_2]) ?_ 1; refine sqPut (cs := #[.int .i64 x549000_2, .string x549001_2]) ?_ 0; exact sqK BK548) Tryz.underlying38 rfl (by kernel_rfl)) rfl ?_
       exact ⟨Z6, sqB1 HB GE548⟩
      rw [if_neg c22] at H
      have c22b0 : (t564.toList == a0.toList) = false := beq_eq_false_iff_ne.mpr c22
      have c22b1 : (t564.toList != a0.toList) = true := bne_iff_ne.mpr c22
      have H' := Aside0.mk H
      clear H
      obtain ⟨Ao26, co26, eo26⟩ := Kd.R_slice HO_5.out
      subst eo26
      have p563 : 0 ≤ (x6_2 : Int) := of_decide_eq_true Z20
      have q563 : x6_2 < (x5_2.length : Int) := of_decide_eq_true Z20
      obtain ⟨ad563, e563, hx563_0, hx563_1⟩ := at_T38 (Kd.R_reads' HO_5.out).2.2 x6_2 p563 q563
      cases e563
      replace p563 := eq_true p563
      replace q563 := eq_true q563
      go_wp2_with (first | (go_at_call 122; (with_reducible refine (spec_DeedText.calls k2 ((rd_T38 x5_2 x6_2).f0) ((rd_T38 x5_2 x6_2).f1) t564 _ A21.out).mono ?_); rintro e w27 ⟨rfl, hb⟩; replace HO_5 := sqU HO_5 hb; replace BK548 := sqT BK548 hb; replace HB := sqS (sqB1 HB GE548) hb; (try clear hb)))
      go_roundg k2
      case measure => have := HJ2.out; have := HK2.out; omega
      case rel => exact ⟨(wrap64 (x6_2 + 1)), (x549000_2), (x549001_2), Z2, H', ⟨by have := HJ2.out; have := HK2.out; omega⟩, ⟨sqR HO_5⟩, ⟨sqK BK548⟩, ⟨sqB1 HB GE548⟩⟩
     rw [if_neg c17] at H
     have c17b0 : decide (x6_2 < (x5_2.length : Int)) = false := decide_eq_false c17
     clear c17
     obtain ⟨rfl, rfl, rfl⟩ := sqO3 H
     obtain ⟨Ao28, co28, eo28⟩ := Kd.R_slice HO_5.out
     subst eo28
     obtain ⟨hcz29_0, hcz29_1, hfz29_0, hfz29_1⟩ := sqY2 BK548
     go_wp2
     refine bodyPost_ret (results_ct rfl _ _ gb548 38 #[.int .i64 0, .string (⟨#[]⟩ : ByteArray)] (0, 0) _ rfl (by refine sqPut (cs := #[.int .i64 0, .string x549001_2]) ?_ 1; refine sqPut (cs := #[.int .i64 x549000_2, .string x549001_2]) ?_ 0; exact sqK BK548) Tryz.underlying38 rfl (by kernel_rfl)) rfl ?_
     exact ⟨Z6, sqB1 HB GE548⟩

/-! ### spec_l3Under: function 173 -/
def spec_l3Under.f (a0_0 : Int) (a0_1 : Int) : Option (Int) := if a0_1 = 0 then (none) else (if (wrap64 ((wrap64 (Int.tdiv a0_0 a0_1)) * a0_1)) > a0_0 then (some (wrap64 ((wrap64 (Int.tdiv a0_0 a0_1)) - 1))) else (some (wrap64 (Int.tdiv a0_0 a0_1))))
set_option maxHeartbeats 8000000 in
set_option maxRecDepth 100000 in
theorem spec_l3Under.calls (a0_0 : Int) (a0_1 : Int) (r : Int) (w : World) (h : spec_l3Under.f a0_0 a0_1 = some r) :
  Calls Tryz.prog 173 #[.agg #[.int .i64 a0_0, .int .i64 a0_1]] w fun e w' => e = .returned (.int .i64 r) ∧ Below w.heap.size w w' := by
 have hu31 := Tryz.underlying31
 have HB := Aside0.mk (Below.refl w.heap.size w)
 unfold spec_l3Under.f at h
 have H := h
 clear h
 by_cases c2 : a0_1 = 0
 ·rw [if_pos c2] at H
  exact absurd H (by simp)
 rw [if_neg c2] at H
 have c2b0 : (a0_1 == 0) = false := beq_eq_false_iff_ne.mpr c2
 have c2b1 : (a0_1 != 0) = true := bne_iff_ne.mpr c2
 by_cases c3 : (wrap64 ((wrap64 (Int.tdiv a0_0 a0_1)) * a0_1)) > a0_0
 ·rw [if_pos c3] at H
  have c3b0 : decide (a0_0 < (wrap64 ((wrap64 (Int.tdiv a0_0 a0_1)) * a0_1))) = true := decide_eq_true c3
  clear c3
  obtain rfl := Option.some.inj H
  go_enter Tryz.func173, Tryz.ntmps173
  go_wp2_with (first | ((with_reducible refine gate_dst (N := 1) rfl ?_); refine sqBx w (sqB HB) (N := 1) (cs := #[.int .i64 a0_0, .int .i64 a0_1]) (t := 31) ?_; intro gb566 hg w4 BK566 GE566 HB hb; clear hb hg; obtain ⟨hcz5_0, hcz5_1, hfz5_0, hfz5_1⟩ := sqY2 BK566))
  go_ret
  exact ⟨Z6, sqB1 HB GE566⟩
 rw [if_neg c3] at H
 have c3b0 : decide (a0_0 < (wrap64 ((wrap64 (Int.tdiv a0_0 a0_1)) * a0_1))) = false := decide_eq_false c3
 clear c3
 obtain rfl := Option.some.inj H
 go_enter Tryz.func173, Tryz.ntmps173
 go_wp2_with (first | ((with_reducible refine gate_dst (N := 1) rfl ?_); refine sqBx w (sqB HB) (N := 1) (cs := #[.int .i64 a0_0, .int .i64 a0_1]) (t := 31) ?_; intro gb566 hg w6 BK566 GE566 HB hb; clear hb hg; obtain ⟨hcz7_0, hcz7_1, hfz7_0, hfz7_1⟩ := sqY2 BK566))
 go_ret
 exact ⟨Z6, sqB1 HB GE566⟩

end Go.Proofs.YtofmlbgfcohhoaaGreatDoor.PFnExactDeskLine
