/- Lean functions of the Go functions that the law FnExactDeskLine reaches, each with its contract: made by a program of this session. -/
import Derived.Test.YtofmlbgfcohhoaaGreatDoorPFnExactDeskLinex15
import Derived.Test.YtofmlbgfcohhoaaGreatDoorPFnExactDeskLinex16
namespace Go.Proofs.YtofmlbgfcohhoaaGreatDoor.PFnExactDeskLine
open Go.RowKit Go.Proofs.YtofmlbgfcohhoaaGreatDoorW.PrintWords Go.Proofs.YtofmlbgfcohhoaaGreatDoorW.PrintLast Go.Proofs.YtofmlbgfcohhoaaGreatDoorW.PrintMore Go.Proofs.YtofmlbgfcohhoaaGreatDoor.Lib
attribute [local go_sem] max2_int min2_int max_two min_two max_three min_three max_four min_four   -- for this text's walks alone
set_option linter.unusedVariables false
set_option linter.unusedSimpArgs false

attribute [local go_sem high] eqA38
/-! ### spec_l1Digits: function 100 -/
mutual
def spec_l1Digits.j0 : Nat → ByteArray → Bool → Option (Int × Bool)
 | 0, _, _ => none
 | k + 1, x0, x15 => if x15 = true then (if 1 ≤ (x0.size : Int) then ((spec_l1Digits.f k (x0.extract 1 x0.size)).bind fun bt480 => (if bt480.2 = true then (some (wrap64 (-bt480.1), decide (bt480.1 > 0))) else (some (wrap64 (-bt480.1), false)))) else (none)) else ((spec_l1In.f (x0.size : Int) 1 7).bind fun t482 => (if t482 = true then (if (x0.size : Int) > 1 then (if 0 < (x0.size : Int) then (spec_l1Digits.j1 k x0 ((bt x0 0) == 48)) else (none)) else (spec_l1Digits.j1 k x0 false)) else (spec_l1Digits.j1 k x0 true)))
def spec_l1Digits.j1 : Nat → ByteArray → Bool → Option (Int × Bool)
 | 0, _, _ => none
 | k + 1, x0, x42 => if x42 = true then (some (0, false)) else (spec_l1Digits.l0 k x0 0 0)
def spec_l1Digits.l0 : Nat → ByteArray → Int → Int → Option (Int × Bool)
 | 0, _, _, _ => none
 | k + 1, x0, x6, x7 => if x7 < (x0.size : Int) then (if 0 ≤ x7 then (if (bt x0 x7) < 48 then (some (0, false)) else (if (bt x0 x7) > 57 then (some (0, false)) else (spec_l1Digits.l0 k x0 (wrap64 ((wrap64 (10 * x6)) + (((bt x0 x7) - 48) % 256))) (wrap64 (x7 + 1))))) else (none)) else (some (x6, true))
def spec_l1Digits.f : Nat → ByteArray → Option (Int × Bool)
 | 0, _ => none
 | k + 1, a0 => if (a0.size : Int) > 1 then (if 0 < (a0.size : Int) then (spec_l1Digits.j0 k a0 ((bt a0 0) == 45)) else (none)) else (spec_l1Digits.j0 k a0 false)
end
theorem spec_l1Digits.mono_l : ∀ k, (∀ y0, LeO (spec_l1Digits.f k y0) (spec_l1Digits.f (k + 1) y0)) ∧ (∀ y0 y1, LeO (spec_l1Digits.j0 k y0 y1) (spec_l1Digits.j0 (k + 1) y0 y1)) ∧ (∀ y0 y1, LeO (spec_l1Digits.j1 k y0 y1) (spec_l1Digits.j1 (k + 1) y0 y1)) ∧ (∀ y0 y1 y2, LeO (spec_l1Digits.l0 k y0 y1 y2) (spec_l1Digits.l0 (k + 1) y0 y1 y2))
 | 0 => ⟨fun _ r h => by simp [spec_l1Digits.f] at h, fun _ _ r h => by simp [spec_l1Digits.j0] at h, fun _ _ r h => by simp [spec_l1Digits.j1] at h, fun _ _ _ r h => by simp [spec_l1Digits.l0] at h⟩
 | k + 1 => by
  obtain ⟨ih0, ih1, ih2, ih3⟩ := spec_l1Digits.mono_l k
  refine ⟨?_, ?_, ?_, ?_⟩ <;> intros <;> (first | unfold spec_l1Digits.f | unfold spec_l1Digits.j0 | unfold spec_l1Digits.j1 | unfold spec_l1Digits.l0) <;> repeat' (with_reducible first | exact ih0 _ | exact ih1 _ _ | exact ih2 _ _ | exact ih3 _ _ _ | exact LeO.refl _ | exact LeO.none _ | refine LeO.ite ?_ ?_ | refine LeO.bind ?_ fun _ => ?_)
theorem spec_l1Digits.mono : ∀ a0 k, LeO (spec_l1Digits.f k a0) (spec_l1Digits.f (k + 1) a0) := by
 intro a0 k
 obtain ⟨ih0, ih1, ih2, ih3⟩ := spec_l1Digits.mono_l k
 exact ih0 a0
set_option maxHeartbeats 8000000 in
set_option maxRecDepth 100000 in
theorem spec_l1Digits.calls (k : Nat) : ∀ (a0 : ByteArray) (r1 : Int) (r2 : Bool) (w : World) (h : spec_l1Digits.f k a0 = some (r1, r2)),
  Calls Tryz.prog 100 #[.string a0] w fun e w' => e = .returned (.tuple #[.int .i64 r1, .bool r2]) ∧ Drawn0 w w' := by
 induction k using Nat.strongRecOn with
 | _ k ih =>
 intro a0 r1 r2 w h
 cases k with
 | zero => exact absurd h (by simp [spec_l1Digits.f])
 | succ k =>
 simp only [spec_l1Digits.f] at h
 have H : (if (a0.size : Int) > 1 then (if 0 < (a0.size : Int) then (spec_l1Digits.j0 k a0 ((bt a0 0) == 45)) else (none)) else (spec_l1Digits.j0 k a0 false)) = some (r1, r2) := h
 clear h
 have HC2 := Aside0.mk H
 clear H
 go_enter Tryz.func100, Tryz.ntmps100
 go_upto_region 1 with (fail)
 go_cut [15] (fun v15 wc => ∃ (kq : Nat) (x15_1 : Bool), v15 = .bool x15_1 ∧ Aside0 (spec_l1Digits.j0 kq a0 x15_1 = some (r1, r2)) ∧ Aside0 (kq ≤ k) ∧ Drawn0 w wc)
 case first =>
  have H := HC2.out
  clear HC2
  by_cases c3 : (a0.size : Int) > 1
  ·rw [if_pos c3] at H
   have c3b0 : decide (1 < (a0.size : Int)) = true := decide_eq_true c3
   have c3b1 : decide (1 < a0.size) = true := decide_eq_true (by omega)
   clear c3
   (first | rw [c3b0] | (simp only [i64_w, i32_w]; rw [c3b0]) | skip)
   obtain ⟨c4, H⟩ := sqI H
   have c4b0 : decide (0 < (a0.size : Int)) = true := decide_eq_true c4
   have c4b1 : decide (0 < a0.size) = true := decide_eq_true (by omega)
   clear c4
   have H' := Aside0.mk H
   clear H
   have p5 : 0 ≤ (0 : Int) := (by omega)
   have q5 : 0 < a0.size := (by have : (0 : Int) < (a0.size : Int) := of_decide_eq_true Z20; omega)
   have hx5 : ∀ h : 0 < a0.size, ((a0[0]'h).toNat : Int) = bt a0 0 := bt_at a0 0
   clear p5
   have qi5 : (0 < (a0.size : Int)) = True := eq_true (of_decide_eq_true Z20)
   replace q5 := eq_true q5
   go_wp2
   go_meet
   case rel => exact ⟨_, (((bt a0 0) == 45)), Z2, H', ⟨Z12⟩, Z19⟩
  rw [if_neg c3] at H
  have c3b0 : decide (1 < (a0.size : Int)) = false := decide_eq_false c3
  have c3b1 : decide (1 < a0.size) = false := decide_eq_false (by omega)
  clear c3
  (first | rw [c3b0] | (simp only [i64_w, i32_w]; rw [c3b0]) | skip)
  have H' := Aside0.mk H
  clear H
  go_wp2
  go_meet
  case rel => exact ⟨_, (false), Z2, H', ⟨Z12⟩, Z19⟩
 case rest =>
  clear HC2
  obtain ⟨kq, x15_1, rfl, HA, HJ1, ⟨mc1, rfl⟩⟩ := hcut
  cases kq with
  | zero => exact absurd HA.out (by simp [spec_l1Digits.j0])
  | succ kj1 =>
   have H := HA.out
   clear HA
   simp only [spec_l1Digits.j0] at H
   by_cases c6 : x15_1 = true
   ·subst c6
    rw [if_pos rfl] at H
    obtain ⟨c7, H⟩ := sqI H
    have c7b0 := eq_true c7
    have c7b1 : decide (1 ≤ (a0.size : Int)) = true := decide_eq_true c7
    clear c7
    obtain ⟨⟨t480, t481⟩, A8, H⟩ := sqD H
    try dsimp only at H
    by_cases c9 : t481 = true
    ·subst c9
     rw [if_pos rfl] at H
     obtain ⟨rfl, rfl⟩ := sqO2 H
     go_wp2_with (first | ((with_reducible refine gate_callee (f := 100) rfl ?_); refine sqC (some 19) Tryz.func100 #[.string (a0.extract 1 a0.size)] ?_; (with_reducible refine (ih kj1 Z33 (a0.extract 1 a0.size) t480 true _ A8.out).mono ?_); rintro e w' ⟨rfl, ⟨nd, rfl⟩⟩; refine ⟨_, rfl, ?_⟩))
     go_ret2
     exact ⟨Z2, Z19⟩
    replace c9 := Bool.eq_false_iff.mpr c9
    subst c9
    rw [if_neg sqF] at H
    obtain ⟨rfl, rfl⟩ := sqO2 H
    go_wp2_with (first | ((with_reducible refine gate_callee (f := 100) rfl ?_); refine sqC (some 19) Tryz.func100 #[.string (a0.extract 1 a0.size)] ?_; (with_reducible refine (ih kj1 Z33 (a0.extract 1 a0.size) t480 false _ A8.out).mono ?_); rintro e w' ⟨rfl, ⟨nd, rfl⟩⟩; refine ⟨_, rfl, ?_⟩))
    go_ret2
    exact ⟨Z2, Z19⟩
   replace c6 := Bool.eq_false_iff.mpr c6
   subst c6
   rw [if_neg sqF] at H
   have HC10 := Aside0.mk H
   clear H
   go_upto_region 4 with (fail)
   go_cut [42] (fun v42 wc => ∃ (kq : Nat) (x42_9 : Bool), v42 = .bool x42_9 ∧ Aside0 (spec_l1Digits.j1 kq a0 x42_9 = some (r1, r2)) ∧ Aside0 (kq ≤ kj1) ∧ Drawn0 w wc)
   case first =>
    have H := HC10.out
    clear HC10
    obtain ⟨t482, A11, H⟩ := sqD H
    by_cases c12 : t482 = true
    ·subst c12
     rw [if_pos rfl] at H
     by_cases c13 : (a0.size : Int) > 1
     ·rw [if_pos c13] at H
      have c13b0 : decide (1 < (a0.size : Int)) = true := decide_eq_true c13
      have c13b1 : decide (1 < a0.size) = true := decide_eq_true (by omega)
      clear c13
      (first | rw [c13b0] | (simp only [i64_w, i32_w]; rw [c13b0]) | skip)
      obtain ⟨c14, H⟩ := sqI H
      have c14b0 : decide (0 < (a0.size : Int)) = true := decide_eq_true c14
      have c14b1 : decide (0 < a0.size) = true := decide_eq_true (by omega)
      clear c14
      have H' := Aside0.mk H
      clear H
      go_wp2_with (first | ((with_reducible refine gate_callee (f := 101) rfl ?_); refine sqC (some 31) Tryz.func101 #[.int .i64 (a0.size : Int), .int .i64 1, .int .i64 7] ?_; (with_reducible refine (spec_l1In.calls (a0.size : Int) 1 7 true _ A11.out).mono ?_); rintro e w' ⟨rfl, ⟨nd, rfl⟩⟩; refine ⟨_, rfl, ?_⟩; have p15 : 0 ≤ (0 : Int) := (by omega); have q15 : 0 < a0.size := (by have : (0 : Int) < (a0.size : Int) := of_decide_eq_true Z20; omega); have hx15 : ∀ h : 0 < a0.size, ((a0[0]'h).toNat : Int) = bt a0 0 := bt_at a0 0; clear p15; have qi15 : (0 < (a0.size : Int)) = True := eq_true (of_decide_eq_true Z20); replace q15 := eq_true q15))
      go_meet
      case rel => exact ⟨_, (((bt a0 0) == 48)), Z2, H', ⟨Z36⟩, Z19⟩
     rw [if_neg c13] at H
     have c13b0 : decide (1 < (a0.size : Int)) = false := decide_eq_false c13
     have c13b1 : decide (1 < a0.size) = false := decide_eq_false (by omega)
     clear c13
     (first | rw [c13b0] | (simp only [i64_w, i32_w]; rw [c13b0]) | skip)
     have H' := Aside0.mk H
     clear H
     go_wp2_with (first | ((with_reducible refine gate_callee (f := 101) rfl ?_); refine sqC (some 31) Tryz.func101 #[.int .i64 (a0.size : Int), .int .i64 1, .int .i64 7] ?_; (with_reducible refine (spec_l1In.calls (a0.size : Int) 1 7 true _ A11.out).mono ?_); rintro e w' ⟨rfl, ⟨nd, rfl⟩⟩; refine ⟨_, rfl, ?_⟩))
     go_meet
     case rel => exact ⟨_, (false), Z2, H', ⟨Z36⟩, Z19⟩
    replace c12 := Bool.eq_false_iff.mpr c12
    subst c12
    rw [if_neg sqF] at H
    have H' := Aside0.mk H
    clear H
    go_wp2_with (first | ((with_reducible refine gate_callee (f := 101) rfl ?_); refine sqC (some 31) Tryz.func101 #[.int .i64 (a0.size : Int), .int .i64 1, .int .i64 7] ?_; (with_reducible refine (spec_l1In.calls (a0.size : Int) 1 7 false _ A11.out).mono ?_); rintro e w' ⟨rfl, ⟨nd, rfl⟩⟩; refine ⟨_, rfl, ?_⟩))
    go_meet
    case rel => exact ⟨_, (true), Z2, H', ⟨Z36⟩, Z19⟩
   case rest =>
    clear HC10
    try clear c1; try clear p2; try clear c3; try clear c3b0; try clear c3b1; try clear c4; try clear c4b0; try clear c4b1; try clear p5; try clear q5; try clear hx5; try clear qi5; try clear c6; try clear p2; try clear p5; try clear q5
    obtain ⟨kq, x42_9, rfl, HA, HJ9, ⟨mc9, rfl⟩⟩ := hcut
    cases kq with
    | zero => exact absurd HA.out (by simp [spec_l1Digits.j1])
    | succ kj9 =>
     have H := HA.out
     clear HA
     simp only [spec_l1Digits.j1] at H
     by_cases c16 : x42_9 = true
     ·subst c16
      rw [if_pos rfl] at H
      obtain ⟨rfl, rfl⟩ := sqO2 H
      go_wp2
      go_ret2
      exact ⟨Z2, Z19⟩
     replace c16 := Bool.eq_false_iff.mpr c16
     subst c16
     rw [if_neg sqF] at H
     have H' := Aside0.mk H
     clear H
     go_wp2
     go_loopg [6, 7] kj9 (fun kq v6 v7 w' => ∃ (x6_3 : Int) (x7_3 : Int), v6 = .int .i64 x6_3 ∧ v7 = .int .i64 x7_3 ∧ Aside0 (spec_l1Digits.l0 kq a0 x6_3 x7_3 = some (r1, r2)) ∧ Aside0 (kq ≤ kj9) ∧ Drawn0 w w')
     case atStart => exact ⟨(0), (0), Z2, Z2, H', ⟨Nat.le_refl _⟩, Z19⟩
     case round =>
      clear H'
      try clear c1; try clear p1; try clear q1; try clear hx1; try clear qi1; try clear p2; try clear c3; try clear c3b0; try clear c3b1; try clear c4; try clear c4b0; try clear c4b1; try clear p5; try clear q5; try clear hx5; try clear qi5; try clear c6; try clear p6; try clear c7; try clear c7b0; try clear c7b1; try clear c9; try clear c10; try clear c12; try clear c13; try clear c13b0; try clear c13b1; try clear c14; try clear c14b0; try clear c14b1; try clear p15; try clear q15; try clear hx15; try clear qi15; try clear c16; try clear p1; try clear p15; try clear p2; try clear p5; try clear p6; try clear q1; try clear q15; try clear q5
      obtain ⟨x6_3, x7_3, rfl, rfl, HA, HK3, ⟨m3, rfl⟩⟩ := hrel
      cases gk with
      | zero => exact absurd HA.out (by simp [spec_l1Digits.l0])
      | succ k3 =>
       have H := HA.out
       clear HA
       simp only [spec_l1Digits.l0] at H
       by_cases c17 : x7_3 < (a0.size : Int)
       ·rw [if_pos c17] at H
        have c17b0 : decide (x7_3 < (a0.size : Int)) = true := decide_eq_true c17
        clear c17
        obtain ⟨c18, H⟩ := sqI H
        have c18b0 : decide (0 ≤ x7_3) = true := decide_eq_true c18
        clear c18
        by_cases c20 : (bt a0 x7_3) < 48
        ·rw [if_pos c20] at H
         have c20b0 : decide ((bt a0 x7_3) < 48) = true := decide_eq_true c20
         clear c20
         obtain ⟨rfl, rfl⟩ := sqO2 H
         have p19 : 0 ≤ (x7_3 : Int) := of_decide_eq_true Z20
         have q19 : x7_3 < (a0.size : Int) := of_decide_eq_true Z20
         have hx19 := bt_at a0 x7_3
         replace p19 := eq_true p19
         replace q19 := eq_true q19
         go_wp2
         go_ret2
         exact ⟨Z2, Z19⟩
        rw [if_neg c20] at H
        have c20b0 : decide ((bt a0 x7_3) < 48) = false := decide_eq_false c20
        clear c20
        by_cases c22 : (bt a0 x7_3) > 57
        ·rw [if_pos c22] at H
         have c22b0 : decide (57 < (bt a0 x7_3)) = true := decide_eq_true c22
         clear c22
         obtain ⟨rfl, rfl⟩ := sqO2 H
         have p19 : 0 ≤ (x7_3 : Int) := of_decide_eq_true Z20
         have q19 : x7_3 < (a0.size : Int) := of_decide_eq_true Z20
         have hx19 := bt_at a0 x7_3
         replace p19 := eq_true p19
         replace q19 := eq_true q19
         have p21 : 0 ≤ (x7_3 : Int) := of_decide_eq_true Z20
         have q21 : x7_3 < (a0.size : Int) := of_decide_eq_true Z20
         have hx21 := bt_at a0 x7_3
         replace p21 := eq_true p21
         replace q21 := eq_true q21
         go_wp2
         go_ret2
         exact ⟨Z2, Z19⟩
        rw [if_neg c22] at H
        have c22b0 : decide (57 < (bt a0 x7_3)) = false := decide_eq_false c22
        clear c22
        have H' := Aside0.mk H
        clear H
        have p19 : 0 ≤ (x7_3 : Int) := of_decide_eq_true Z20
        have q19 : x7_3 < (a0.size : Int) := of_decide_eq_true Z20
        have hx19 := bt_at a0 x7_3
        replace p19 := eq_true p19
        replace q19 := eq_true q19
        have p21 : 0 ≤ (x7_3 : Int) := of_decide_eq_true Z20
        have q21 : x7_3 < (a0.size : Int) := of_decide_eq_true Z20
        have hx21 := bt_at a0 x7_3
        replace p21 := eq_true p21
        replace q21 := eq_true q21
        have p23 : 0 ≤ (x7_3 : Int) := of_decide_eq_true Z20
        have q23 : x7_3 < (a0.size : Int) := of_decide_eq_true Z20
        have hx23 := bt_at a0 x7_3
        replace p23 := eq_true p23
        replace q23 := eq_true q23
        go_wp2
        go_roundg k3
        case measure => have := HJ1.out; have := HJ9.out; have := HK3.out; omega
        case rel => exact ⟨(wrap64 ((wrap64 (10 * x6_3)) + (((bt a0 x7_3) - 48) % 256))), (wrap64 (x7_3 + 1)), Z2, Z2, H', ⟨by have := HJ1.out; have := HJ9.out; have := HK3.out; omega⟩, Z19⟩
       rw [if_neg c17] at H
       have c17b0 : decide (x7_3 < (a0.size : Int)) = false := decide_eq_false c17
       clear c17
       obtain ⟨rfl, rfl⟩ := sqO2 H
       go_wp2
       go_ret2
       exact ⟨Z2, Z19⟩

/-! ### spec_ReadFraction: function 107 -/
def spec_ReadFraction.f (k : Nat) (a0 : ByteArray) : Option (Int × Int × Bool) := (spec_l1Cut.f k a0 47).bind fun t484 => (if 0 < (t484.length : Int) then ((spec_l1Digits.f k (rdOf ByteArray.empty t484 0)).bind fun bt488 => (if (t484.length : Int) = 2 then (if 1 < (t484.length : Int) then ((spec_l1Digits.f k (rdOf ByteArray.empty t484 1)).bind fun bt491 => (if bt488.2 = true then (if bt491.2 = true then (if (t484.length : Int) > 2 then (some (0, 0, false)) else ((spec_FractionText.f k bt488.1 bt491.1).bind fun t494 => (if t494.toList = a0.toList then (some (bt488.1, bt491.1, true)) else (some (0, 0, false))))) else (some (0, 0, false))) else (some (0, 0, false)))) else (none)) else (if bt488.2 = true then (if (t484.length : Int) > 2 then (some (0, 0, false)) else ((spec_FractionText.f k bt488.1 1).bind fun t497 => (if t497.toList = a0.toList then (some (bt488.1, 1, true)) else (some (0, 0, false))))) else (some (0, 0, false))))) else (none))
theorem spec_ReadFraction.mono : ∀ a0 k, LeO (spec_ReadFraction.f k a0) (spec_ReadFraction.f (k + 1) a0) := by
 intro a0 k
 unfold spec_ReadFraction.f
 repeat' (with_reducible first | exact spec_FractionText.mono _ _ _ | exact spec_l1Cut.mono _ _ _ | exact spec_l1Digits.mono _ _ | exact LeO.refl _ | exact LeO.none _ | refine LeO.ite ?_ ?_ | refine LeO.bind ?_ fun _ => ?_)
set_option maxHeartbeats 8000000 in
set_option maxRecDepth 100000 in
theorem spec_ReadFraction.calls (k : Nat) (a0 : ByteArray) (r1 : Int) (r2 : Int) (r3 : Bool) (w : World) (h : spec_ReadFraction.f k a0 = some (r1, r2, r3)) :
  Calls Tryz.prog 107 #[.string a0] w fun e w' => e = .returned (.tuple #[.agg #[.int .i64 r1, .int .i64 r2], .bool r3]) ∧ Below w.heap.size w w' := by
 have hu31 := Tryz.underlying31
 have HB := Aside0.mk (Below.refl w.heap.size w)
 unfold spec_ReadFraction.f at h
 have H := h
 clear h
 obtain ⟨t484, A2, H⟩ := sqD H
 obtain ⟨c3, H⟩ := sqI H
 have c3b0 : decide (0 < (t484.length : Int)) = true := decide_eq_true c3
 have c3b1 : decide (0 < t484.length) = true := decide_eq_true (by omega)
 clear c3
 obtain ⟨⟨t488, t489⟩, A4, H⟩ := sqD H
 try dsimp only at H
 go_enter Tryz.func107, Tryz.ntmps107
 go_upto_if 22 with (first | ((with_reducible refine gate_dst (N := 2) rfl ?_); (try (refine gate_guard (by rfl) ?_; dsimp only)); refine sqBx w (sqB HB) (N := 2) (cs := #[.int .i64 0, .int .i64 0]) (t := 31) ?_; intro gb483 hg w11 BK483 GE483 HB hb; clear hb hg) | ((with_reducible refine gate_callee (f := 99) rfl ?_); refine sqC (some 12) Tryz.func99 #[.string a0, .int .u8 47] ?_; (with_reducible refine (spec_l1Cut.calls k a0 47 t484 _ A2.out).mono ?_); rintro e w12 ⟨v485, rfl, ho0, hb⟩; refine ⟨_, rfl, ?_⟩; have HO486 := sqL ho0 (sqB1 HB GE483); replace BK483 := sqT BK483 hb; replace HB := sqS (sqB1 HB GE483) hb; (try clear hb); (try clear ho0); obtain ⟨Ao13, co13, eo13⟩ := Kd.R_slice HO486.out; subst eo13; have p487 : 0 ≤ (0 : Int) := (by omega); have q487 : 0 < (t484.length : Int) := of_decide_eq_true Z20; obtain ⟨ad487, e487, hx487_0⟩ := Kd.at_string (Kd.R_reads' HO486.out).2.2 0 p487 q487; cases e487; have qi487 : (0 < t484.length) = True := eq_true (by omega); (try rw [show ((0 : Int)).toNat = 0 from rfl] at hx487_0); (try rw [Addr.add_zero'] at hx487_0); replace p487 := eq_true p487; replace q487 := eq_true q487) | ((with_reducible refine gate_callee (f := 100) rfl ?_); refine sqC (some 17) Tryz.func100 #[.string (rdOf ByteArray.empty t484 0)] ?_; (with_reducible refine (spec_l1Digits.calls k (rdOf ByteArray.empty t484 0) t488 t489 _ A4.out).mono ?_); rintro e w' ⟨rfl, ⟨nd, rfl⟩⟩; refine ⟨_, rfl, ?_⟩; (try (rw [drewN_self w12]; generalize hq_ : World.drewN w12 _ = w12; have n0_ : Aside0 (Kd.R Kd.string 9 w12 w.heap.size (fun _ => True) (.slice (some ad487) t484.length co13) t484) := ⟨Z37 HO486⟩; have n1_ : Aside0 (w12.heap[gb483]? = some (.cells #[.int .i64 0, .int .i64 0] 31 (0, 0))) := ⟨Z26 BK483⟩; have n2_ : Aside0 (Below w.heap.size w w12) := ⟨Z38 GE483⟩; clear HO486 BK483 HB hq_; have HO486 := n0_; have BK483 := n1_; have HB := n2_; clear n0_ n1_ n2_))))
 by_cases c5 : (t484.length : Int) = 2
 ·rw [if_pos c5] at H
  have c5b0 : ((t484.length : Int) == 2) = true := beq_iff_eq.mpr c5
  have c5b1 : ((t484.length : Int) != 2) = false := bne_eq_false_iff_eq.mpr c5
  (first | rw [c5b0] | rw [c5b1] | simp only [i64_w, i32_w, c5b0, c5b1] | skip)
  clear c5
  obtain ⟨c6, H⟩ := sqI H
  have c6b0 : decide (1 < (t484.length : Int)) = true := decide_eq_true c6
  have c6b1 : decide (1 < t484.length) = true := decide_eq_true (by omega)
  clear c6
  obtain ⟨⟨t491, t492⟩, A7, H⟩ := sqD H
  try dsimp only at H
  have p490 : 0 ≤ (1 : Int) := (by omega); have q490 : 1 < (t484.length : Int) := of_decide_eq_true Z20; obtain ⟨ad490, e490, hx490_0⟩ := Kd.at_string (Kd.R_reads' HO486.out).2.2 1 p490 q490; obtain rfl : ad487 = ad490 := (by injection e490); (try simp only [show (1 : Int).toNat = 1 from rfl, Nat.reduceMul, Nat.reduceEqDiff, Go.Addr.add, ↓reduceIte] at hx490_0); have qi490 : (1 < t484.length) = True := eq_true (by omega); (try rw [show ((1 : Int)).toNat = 1 from rfl] at hx490_0); replace p490 := eq_true p490; replace q490 := eq_true q490
  go_upto_region 6 with (first | ((with_reducible refine gate_callee (f := 100) rfl ?_); refine sqC (some 27) Tryz.func100 #[.string (rdOf ByteArray.empty t484 1)] ?_; (with_reducible refine (spec_l1Digits.calls k (rdOf ByteArray.empty t484 1) t491 t492 _ A7.out).mono ?_); rintro e w' ⟨rfl, ⟨nd, rfl⟩⟩; refine ⟨_, rfl, ?_⟩; (try (rw [drewN_self w12]; generalize hq_ : World.drewN w12 _ = w12; have n0_ : Aside0 (Kd.R Kd.string 9 w12 w.heap.size (fun _ => True) (.slice (some ad487) t484.length co13) t484) := ⟨Z37 HO486⟩; have n1_ : Aside0 (w12.heap[gb483]? = some (.cells #[.int .i64 0, .int .i64 0] 31 (0, 0))) := ⟨Z26 BK483⟩; have n2_ : Aside0 (Below w.heap.size w w12) := ⟨Z38 GE483⟩; clear HO486 BK483 HB hq_; have HO486 := n0_; have BK483 := n1_; have HB := n2_; clear n0_ n1_ n2_))))
  by_cases c8 : t489 = true
  ·subst c8
   rw [if_pos rfl] at H
   by_cases c9 : t492 = true
   ·subst c9
    rw [if_pos rfl] at H
    by_cases c10 : (t484.length : Int) > 2
    ·rw [if_pos c10] at H
     have c10b0 : decide (2 < (t484.length : Int)) = true := decide_eq_true c10
     have c10b1 : decide (2 < t484.length) = true := decide_eq_true (by omega)
     clear c10
     obtain ⟨rfl, rfl, rfl⟩ := sqO3 H
     go_wp2_with (first | ((with_reducible refine gate_dst (N := 10) rfl ?_); (try (refine gate_guard (by rfl) ?_; dsimp only)); refine sqBx w (sqB1 HB GE483) (N := 10) (cs := #[.int .i64 0, .int .i64 0]) (t := 31) ?_; intro gb493 hg w14 BK493 GE493 HB hb; replace HO486 := sqU HO486 hb; obtain ⟨NB483_493, NB493_483⟩ := sqM hg BK483; replace BK483 := sqT BK483 hb; clear hb hg; have hnb15 := NB493_483.out; have hnc15 := NB483_493.out; obtain ⟨hcz16_0, hcz16_1, hfz16_0, hfz16_1⟩ := sqY2 BK493; obtain ⟨hcz17_0, hcz17_1, hfz17_0, hfz17_1⟩ := sqY2 BK483))
     refine bodyPost_ret (results_ct rfl _ _ gb483 31 #[.int .i64 0, .int .i64 0] (0, 0) _ rfl (Z39 NB483_493 BK483) Tryz.underlying31 rfl (by kernel_rfl)) rfl ?_
     exact ⟨Z6, sqB2 HB GE483 GE493⟩
    rw [if_neg c10] at H
    have c10b0 : decide (2 < (t484.length : Int)) = false := decide_eq_false c10
    have c10b1 : decide (2 < t484.length) = false := decide_eq_false (by omega)
    clear c10
    obtain ⟨t494, A18, H⟩ := sqD H
    by_cases c19 : t494.toList = a0.toList
    ·rw [if_pos c19] at H
     have c19b0 : (t494.toList == a0.toList) = true := beq_iff_eq.mpr c19
     have c19b1 : (t494.toList != a0.toList) = false := bne_eq_false_iff_eq.mpr c19
     clear c19
     obtain ⟨rfl, rfl, rfl⟩ := sqO3 H
     go_wp2_with (first | ((with_reducible refine gate_dst (N := 10) rfl ?_); (try (refine gate_guard (by rfl) ?_; dsimp only)); refine sqBx w (sqB1 HB GE483) (N := 10) (cs := #[.int .i64 0, .int .i64 0]) (t := 31) ?_; intro gb493 hg w23 BK493 GE493 HB hb; replace HO486 := sqU HO486 hb; obtain ⟨NB483_493, NB493_483⟩ := sqM hg BK483; replace BK483 := sqT BK483 hb; clear hb hg; have hnb24 := NB493_483.out; have hnc24 := NB483_493.out; obtain ⟨hcz25_0, hcz25_1, hfz25_0, hfz25_1⟩ := sqY2 BK493) | (go_at_call 89; (with_reducible refine (spec_FractionText.calls k t488 t491 t494 _ A18.out).mono ?_); rintro e w26 ⟨rfl, hb⟩; replace HO486 := Aside0.mk (Kd.R_below (Z40 HO486 BK493) hb); replace BK483 := sqH NB483_493 BK483 hb; replace BK493 := Aside0.mk (blk_below (g := gb493) (o := .cells #[.int .i64 t488, .int .i64 t491] 31 (0, 0)) (Z41 BK493) hb); replace HB := sqS (sqB2 HB GE483 GE493) hb; (try clear hb); obtain ⟨hcz27_0, hcz27_1, hfz27_0, hfz27_1⟩ := sqY2 BK493; obtain ⟨hcz28_0, hcz28_1, hfz28_0, hfz28_1⟩ := sqY2 BK483))
     refine bodyPost_ret (results_ct rfl _ _ gb483 31 #[.int .i64 t488, .int .i64 t491] (0, 0) _ rfl (Z41 BK483) Tryz.underlying31 rfl (by kernel_rfl)) rfl ?_
     exact ⟨Z6, sqB2 HB GE483 GE493⟩
    rw [if_neg c19] at H
    have c19b0 : (t494.toList == a0.toList) = false := beq_eq_false_iff_ne.mpr c19
    have c19b1 : (t494.toList != a0.toList) = true := bne_iff_ne.mpr c19
    obtain ⟨rfl, rfl, rfl⟩ := sqO3 H
    go_wp2_with (first | ((with_reducible refine gate_dst (N := 10) rfl ?_); (try (refine gate_guard (by rfl) ?_; dsimp only)); refine sqBx w (sqB1 HB GE483) (N := 10) (cs := #[.int .i64 0, .int .i64 0]) (t := 31) ?_; intro gb493 hg w32 BK493 GE493 HB hb; replace HO486 := sqU HO486 hb; obtain ⟨NB483_493, NB493_483⟩ := sqM hg BK483; replace BK483 := sqT BK483 hb; clear hb hg; have hnb33 := NB493_483.out; have hnc33 := NB483_493.out; obtain ⟨hcz34_0, hcz34_1, hfz34_0, hfz34_1⟩ := sqY2 BK493) | (go_at_call 89; (with_reducible refine (spec_FractionText.calls k t488 t491 t494 _ A18.out).mono ?_); rintro e w35 ⟨rfl, hb⟩; replace HO486 := Aside0.mk (Kd.R_below (Z40 HO486 BK493) hb); replace BK483 := sqH NB483_493 BK483 hb; replace BK493 := Aside0.mk (blk_below (g := gb493) (o := .cells #[.int .i64 t488, .int .i64 t491] 31 (0, 0)) (Z41 BK493) hb); replace HB := sqS (sqB2 HB GE483 GE493) hb; (try clear hb); obtain ⟨hcz36_0, hcz36_1, hfz36_0, hfz36_1⟩ := sqY2 BK483))
    refine bodyPost_ret (results_ct rfl _ _ gb483 31 #[.int .i64 0, .int .i64 0] (0, 0) _ rfl (Z27 BK483) Tryz.underlying31 rfl (by kernel_rfl)) rfl ?_
    exact ⟨Z6, sqB2 HB GE483 GE493⟩
   replace c9 := Bool.eq_false_iff.mpr c9
   subst c9
   rw [if_neg sqF] at H
   obtain ⟨rfl, rfl, rfl⟩ := sqO3 H
   go_wp2_with (first | ((with_reducible refine gate_dst (N := 10) rfl ?_); (try (refine gate_guard (by rfl) ?_; dsimp only)); refine sqBx w (sqB1 HB GE483) (N := 10) (cs := #[.int .i64 0, .int .i64 0]) (t := 31) ?_; intro gb493 hg w40 BK493 GE493 HB hb; replace HO486 := sqU HO486 hb; obtain ⟨NB483_493, NB493_483⟩ := sqM hg BK483; replace BK483 := sqT BK483 hb; clear hb hg; have hnb41 := NB493_483.out; have hnc41 := NB483_493.out; obtain ⟨hcz42_0, hcz42_1, hfz42_0, hfz42_1⟩ := sqY2 BK493; obtain ⟨hcz43_0, hcz43_1, hfz43_0, hfz43_1⟩ := sqY2 BK483))
   refine bodyPost_ret (results_ct rfl _ _ gb483 31 #[.int .i64 0, .int .i64 0] (0, 0) _ rfl (Z39 NB483_493 BK483) Tryz.underlying31 rfl (by kernel_rfl)) rfl ?_
   exact ⟨Z6, sqB2 HB GE483 GE493⟩
  replace c8 := Bool.eq_false_iff.mpr c8
  subst c8
  rw [if_neg sqF] at H
  obtain ⟨rfl, rfl, rfl⟩ := sqO3 H
  go_wp2_with (first | ((with_reducible refine gate_dst (N := 10) rfl ?_); (try (refine gate_guard (by rfl) ?_; dsimp only)); refine sqBx w (sqB1 HB GE483) (N := 10) (cs := #[.int .i64 0, .int .i64 0]) (t := 31) ?_; intro gb495 hg w47 BK495 GE495 HB hb; replace HO486 := sqU HO486 hb; obtain ⟨NB483_495, NB495_483⟩ := sqM hg BK483; replace BK483 := sqT BK483 hb; clear hb hg; have hnb48 := NB495_483.out; have hnc48 := NB483_495.out; obtain ⟨hcz49_0, hcz49_1, hfz49_0, hfz49_1⟩ := sqY2 BK495; obtain ⟨hcz50_0, hcz50_1, hfz50_0, hfz50_1⟩ := sqY2 BK483))
  refine bodyPost_ret (results_ct rfl _ _ gb483 31 #[.int .i64 0, .int .i64 0] (0, 0) _ rfl (Z39 NB483_495 BK483) Tryz.underlying31 rfl (by kernel_rfl)) rfl ?_
  exact ⟨Z6, sqB2 HB GE483 GE495⟩
 rw [if_neg c5] at H
 have c5b0 : ((t484.length : Int) == 2) = false := beq_eq_false_iff_ne.mpr c5
 have c5b1 : ((t484.length : Int) != 2) = true := bne_iff_ne.mpr c5
 (first | rw [c5b0] | rw [c5b1] | simp only [i64_w, i32_w, c5b0, c5b1] | skip)
 go_upto_region 9 with (first | ((with_reducible refine gate_dst (N := 10) rfl ?_); (try (refine gate_guard (by rfl) ?_; dsimp only)); refine sqBx w (sqB1 HB GE483) (N := 10) (cs := #[.int .i64 0, .int .i64 0]) (t := 31) ?_; intro gb496 hg w56 BK496 GE496 HB hb; replace HO486 := sqU HO486 hb; obtain ⟨NB483_496, NB496_483⟩ := sqM hg BK483; replace BK483 := sqT BK483 hb; clear hb hg; have hnb57 := NB496_483.out; have hnc57 := NB483_496.out; obtain ⟨hcz58_0, hcz58_1, hfz58_0, hfz58_1⟩ := sqY2 BK496; obtain ⟨hcz59_0, hcz59_1, hfz59_0, hfz59_1⟩ := sqY2 BK483))
 by_cases c51 : t489 = true
 ·subst c51
  rw [if_pos rfl] at H
  by_cases c52 : (t484.length : Int) > 2
  ·rw [if_pos c52] at H
   have c52b0 : decide (2 < (t484.length : Int)) = true := decide_eq_true c52
   have c52b1 : decide (2 < t484.length) = true := decide_eq_true (by omega)
   clear c52
   obtain ⟨rfl, rfl, rfl⟩ := sqO3 H
   go_wp2_with fail
   refine bodyPost_ret (results_ct rfl _ _ gb483 31 #[.int .i64 0, .int .i64 0] (0, 0) _ rfl (Z39 NB483_496 BK483) Tryz.underlying31 rfl (by kernel_rfl)) rfl ?_
   exact ⟨Z6, sqB2 HB GE483 GE496⟩
  rw [if_neg c52] at H
  have c52b0 : decide (2 < (t484.length : Int)) = false := decide_eq_false c52
  have c52b1 : decide (2 < t484.length) = false := decide_eq_false (by omega)
  clear c52
  obtain ⟨t497, A60, H⟩ := sqD H
  by_cases c61 : t497.toList = a0.toList
  ·rw [if_pos c61] at H
   have c61b0 : (t497.toList == a0.toList) = true := beq_iff_eq.mpr c61
   have c61b1 : (t497.toList != a0.toList) = false := bne_eq_false_iff_eq.mpr c61
   clear c61
   obtain ⟨rfl, rfl, rfl⟩ := sqO3 H
   go_wp2_with (first | (go_at_call 89; (with_reducible refine (spec_FractionText.calls k t488 1 t497 _ A60.out).mono ?_); rintro e w68 ⟨rfl, hb⟩; replace HO486 := Aside0.mk (Kd.R_below (Z42 HO486 BK496) hb); replace BK483 := sqH NB483_496 BK483 hb; replace BK496 := Aside0.mk (blk_below (g := gb496) (o := .cells #[.int .i64 t488, .int .i64 1] 31 (0, 0)) (Z41 BK496) hb); replace HB := sqS (sqB2 HB GE483 GE496) hb; (try clear hb); obtain ⟨hcz69_0, hcz69_1, hfz69_0, hfz69_1⟩ := sqY2 BK496; obtain ⟨hcz70_0, hcz70_1, hfz70_0, hfz70_1⟩ := sqY2 BK483))
   refine bodyPost_ret (results_ct rfl _ _ gb483 31 #[.int .i64 t488, .int .i64 1] (0, 0) _ rfl (Z41 BK483) Tryz.underlying31 rfl (by kernel_rfl)) rfl ?_
   exact ⟨Z6, sqB2 HB GE483 GE496⟩
  rw [if_neg c61] at H
  have c61b0 : (t497.toList == a0.toList) = false := beq_eq_false_iff_ne.mpr c61
  have c61b1 : (t497.toList != a0.toList) = true := bne_iff_ne.mpr c61
  obtain ⟨rfl, rfl, rfl⟩ := sqO3 H
  go_wp2_with (first | (go_at_call 89; (with_reducible refine (spec_FractionText.calls k t488 1 t497 _ A60.out).mono ?_); rintro e w77 ⟨rfl, hb⟩; replace HO486 := Aside0.mk (Kd.R_below (Z42 HO486 BK496) hb); replace BK483 := sqH NB483_496 BK483 hb; replace BK496 := Aside0.mk (blk_below (g := gb496) (o := .cells #[.int .i64 t488, .int .i64 1] 31 (0, 0)) (Z41 BK496) hb); replace HB := sqS (sqB2 HB GE483 GE496) hb; (try clear hb); obtain ⟨hcz78_0, hcz78_1, hfz78_0, hfz78_1⟩ := sqY2 BK483))
  refine bodyPost_ret (results_ct rfl _ _ gb483 31 #[.int .i64 0, .int .i64 0] (0, 0) _ rfl (Z27 BK483) Tryz.underlying31 rfl (by kernel_rfl)) rfl ?_
  exact ⟨Z6, sqB2 HB GE483 GE496⟩
 replace c51 := Bool.eq_false_iff.mpr c51
 subst c51
 rw [if_neg sqF] at H
 obtain ⟨rfl, rfl, rfl⟩ := sqO3 H
 go_wp2_with fail
 refine bodyPost_ret (results_ct rfl _ _ gb483 31 #[.int .i64 0, .int .i64 0] (0, 0) _ rfl (Z39 NB483_496 BK483) Tryz.underlying31 rfl (by kernel_rfl)) rfl ?_
 exact ⟨Z6, sqB2 HB GE483 GE496⟩

/-! ### spec_MirrorOf: function 108 -/
def spec_MirrorOf.f (k : Nat) (a0_0 : Int) (a0_1 : Int) : Option (Int × Int) := (spec_FractionOk.f k a0_0 a0_1).bind fun t500 => (if t500 = true then ((spec_LowestOf.f k (wrap64 (-a0_0)) a0_1).bind fun bt501 => (some (bt501.1, bt501.2.1))) else (some (0, 0)))
theorem spec_MirrorOf.mono : ∀ a0 a1 k, LeO (spec_MirrorOf.f k a0 a1) (spec_MirrorOf.f (k + 1) a0 a1) := by
 intro a0 a1 k
 unfold spec_MirrorOf.f
 repeat' (with_reducible first | exact spec_FractionOk.mono _ _ _ | exact spec_LowestOf.mono _ _ _ | exact LeO.refl _ | exact LeO.none _ | refine LeO.ite ?_ ?_ | refine LeO.bind ?_ fun _ => ?_)
set_option maxHeartbeats 8000000 in
set_option maxRecDepth 100000 in
theorem spec_MirrorOf.calls (k : Nat) (a0_0 : Int) (a0_1 : Int) (r1 : Int) (r2 : Int) (w : World) (h : spec_MirrorOf.f k a0_0 a0_1 = some (r1, r2)) :
  Calls Tryz.prog 108 #[.agg #[.int .i64 a0_0, .int .i64 a0_1]] w fun e w' => e = .returned (.agg #[.int .i64 r1, .int .i64 r2]) ∧ Below w.heap.size w w' := by
 have hu31 := Tryz.underlying31
 have HB := Aside0.mk (Below.refl w.heap.size w)
 unfold spec_MirrorOf.f at h
 have H := h
 clear h
 obtain ⟨t500, A2, H⟩ := sqD H
 by_cases c3 : t500 = true
 ·subst c3
  rw [if_pos rfl] at H
  obtain ⟨⟨t501, t502, t503⟩, A4, H⟩ := sqD H
  try dsimp only at H
  obtain ⟨rfl, rfl⟩ := sqO2 H
  go_enter Tryz.func108, Tryz.ntmps108
  go_wp2_with (first | ((with_reducible refine gate_dst (N := 1) rfl ?_); refine sqBx w (sqB HB) (N := 1) (cs := #[.int .i64 a0_0, .int .i64 a0_1]) (t := 31) ?_; intro gb498 hg w5 BK498 GE498 HB hb; clear hb hg) | ((with_reducible refine gate_dst (N := 2) rfl ?_); refine sqBx w (sqB1 HB GE498) (N := 2) (cs := #[.int .i64 0, .int .i64 0]) (t := 31) ?_; intro gb499 hg w6 BK499 GE499 HB hb; obtain ⟨NB498_499, NB499_498⟩ := sqM hg BK498; replace BK498 := sqT BK498 hb; clear hb hg; have hnb7 := NB498_499.out; have hnc7 := NB499_498.out; obtain ⟨hcz8_0, hcz8_1, hfz8_0, hfz8_1⟩ := sqY2 BK498) | ((with_reducible refine gate_callee (f := 77) rfl ?_); refine sqC (some 6) Tryz.func77 #[.agg #[.int .i64 a0_0, .int .i64 a0_1]] ?_; (with_reducible refine (spec_FractionOk.calls k a0_0 a0_1 true _ A2.out).mono ?_); rintro e w9 ⟨rfl, hb⟩; refine ⟨_, rfl, ?_⟩; replace BK498 := sqT BK498 hb; replace BK499 := sqT BK499 hb; replace HB := sqS (sqB2 HB GE498 GE499) hb; (try clear hb); obtain ⟨hcz10_0, hcz10_1, hfz10_0, hfz10_1⟩ := sqY2 BK498) | ((with_reducible refine gate_callee (f := 136) rfl ?_); refine sqC (some 15) Tryz.func136 #[.int .i64 (wrap64 (-a0_0)), .int .i64 a0_1] ?_; (with_reducible refine (spec_LowestOf.calls k (wrap64 (-a0_0)) a0_1 t501 t502 t503 _ A4.out).mono ?_); rintro e w11 ⟨rfl, hb⟩; refine ⟨_, rfl, ?_⟩; replace BK498 := sqT BK498 hb; replace BK499 := sqT BK499 hb; replace HB := sqS (sqB2 HB GE498 GE499) hb; (try clear hb)) | ((with_reducible refine gate_dst (N := 3) rfl ?_); refine sqBx w (sqB2 HB GE498 GE499) (N := 3) (cs := #[.int .i64 0, .int .i64 0]) (t := 31) ?_; intro gb504 hg w12 BK504 GE504 HB hb; obtain ⟨NB498_504, NB504_498⟩ := sqM hg BK498; replace BK498 := sqT BK498 hb; obtain ⟨NB499_504, NB504_499⟩ := sqM hg BK499; replace BK499 := sqT BK499 hb; clear hb hg; have hnb13 := NB504_498.out; have hnc13 := NB498_504.out; have hnb14 := NB504_499.out; have hnc14 := NB499_504.out; obtain ⟨hcz15_0, hcz15_1, hfz15_0, hfz15_1⟩ := sqY2 BK504; obtain ⟨hcz16_0, hcz16_1, hfz16_0, hfz16_1⟩ := sqY2 BK499))
  refine bodyPost_ret (results_cell_row rfl _ _ gb499 31 #[.int .i64 t501, .int .i64 t502] (0, 0) _ rfl (by refine sqPut (cs := #[.int .i64 t501, .int .i64 0]) ?_ 1; refine sqPut (cs := #[.int .i64 0, .int .i64 0]) ?_ 0; refine sqFar ?_ NB499_504; refine sqFar ?_ NB499_504; exact sqK BK499) Tryz.underlying31 rfl (by kernel_rfl)) rfl ?_
  exact ⟨Z6, sqB3 HB GE498 GE499 GE504⟩
 replace c3 := Bool.eq_false_iff.mpr c3
 subst c3
 rw [if_neg sqF] at H
 obtain ⟨rfl, rfl⟩ := sqO2 H
 go_enter Tryz.func108, Tryz.ntmps108
 go_wp2_with (first | ((with_reducible refine gate_dst (N := 1) rfl ?_); refine sqBx w (sqB HB) (N := 1) (cs := #[.int .i64 a0_0, .int .i64 a0_1]) (t := 31) ?_; intro gb498 hg w17 BK498 GE498 HB hb; clear hb hg) | ((with_reducible refine gate_dst (N := 2) rfl ?_); refine sqBx w (sqB1 HB GE498) (N := 2) (cs := #[.int .i64 0, .int .i64 0]) (t := 31) ?_; intro gb499 hg w18 BK499 GE499 HB hb; obtain ⟨NB498_499, NB499_498⟩ := sqM hg BK498; replace BK498 := sqT BK498 hb; clear hb hg; have hnb19 := NB498_499.out; have hnc19 := NB499_498.out; obtain ⟨hcz20_0, hcz20_1, hfz20_0, hfz20_1⟩ := sqY2 BK498) | ((with_reducible refine gate_callee (f := 77) rfl ?_); refine sqC (some 6) Tryz.func77 #[.agg #[.int .i64 a0_0, .int .i64 a0_1]] ?_; (with_reducible refine (spec_FractionOk.calls k a0_0 a0_1 false _ A2.out).mono ?_); rintro e w21 ⟨rfl, hb⟩; refine ⟨_, rfl, ?_⟩; replace BK498 := sqT BK498 hb; replace BK499 := sqT BK499 hb; replace HB := sqS (sqB2 HB GE498 GE499) hb; (try clear hb); obtain ⟨hcz22_0, hcz22_1, hfz22_0, hfz22_1⟩ := sqY2 BK499))
 refine bodyPost_ret (results_cell_row rfl _ _ gb499 31 #[.int .i64 0, .int .i64 0] (0, 0) _ rfl (Z27 BK499) Tryz.underlying31 rfl (by kernel_rfl)) rfl ?_
 exact ⟨Z6, sqB2 HB GE498 GE499⟩

/-! ### spec_l11Made: function 57 -/
def spec_l11Made.f (k : Nat) (a0_0 : Int) (a0_1 : Int) (a1_0 : Int) (a1_1 : ByteArray) : Option (Int × Int × Bool) := if a1_0 = 0 then ((spec_DancedFrom.f k a0_0 a0_1 a1_1).bind fun bt508 => (some (bt508.1, bt508.2.1, bt508.2.2))) else (if a1_0 = 1 then ((spec_ReadFraction.f k a1_1).bind fun bt511 => (some (bt511.1, bt511.2.1, bt511.2.2))) else (if (a1_0 == 2 && (a1_1.toList == ([] : List UInt8))) = true then ((spec_MirrorOf.f k a0_0 a0_1).bind fun bt514 => (some (bt514.1, bt514.2, true))) else (if (a1_0 == 3 && (a1_1.toList == ([] : List UInt8))) = true then ((spec_UntiedOf.f k a0_0 a0_1).bind fun bt516 => (some (0, 1, bt516.2))) else (some (a0_0, a0_1, false)))))
theorem spec_l11Made.mono : ∀ a0 a1 a2 a3 k, LeO (spec_l11Made.f k a0 a1 a2 a3) (spec_l11Made.f (k + 1) a0 a1 a2 a3) := by
 intro a0 a1 a2 a3 k
 unfold spec_l11Made.f
 repeat' (with_reducible first | exact spec_DancedFrom.mono _ _ _ _ | exact spec_MirrorOf.mono _ _ _ | exact spec_ReadFraction.mono _ _ | exact spec_UntiedOf.mono _ _ _ | exact LeO.refl _ | exact LeO.none _ | refine LeO.ite ?_ ?_ | refine LeO.bind ?_ fun _ => ?_)
set_option maxHeartbeats 8000000 in
set_option maxRecDepth 100000 in
theorem spec_l11Made.calls (k : Nat) (a0_0 : Int) (a0_1 : Int) (a1_0 : Int) (a1_1 : ByteArray) (r1 : Int) (r2 : Int) (r3 : Bool) (w : World) (h : spec_l11Made.f k a0_0 a0_1 a1_0 a1_1 = some (r1, r2, r3)) :
  Calls Tryz.prog 57 #[.agg #[.int .i64 a0_0, .int .i64 a0_1], .agg #[.int .i64 a1_0, .string a1_1]] w fun e w' => e = .returned (.tuple #[.agg #[.int .i64 r1, .int .i64 r2], .bool r3]) ∧ Below w.heap.size w w' := by
 have hu31 := Tryz.underlying31
 have hu38 := Tryz.underlying38
 have HB := Aside0.mk (Below.refl w.heap.size w)
 unfold spec_l11Made.f at h
 have H := h
 clear h
 go_enter Tryz.func57, Tryz.ntmps57
 go_upto_if 8 with (first | ((with_reducible refine gate_dst (N := 2) rfl ?_); refine sqBx w (sqB HB) (N := 2) (cs := #[.int .i64 a0_0, .int .i64 a0_1]) (t := 31) ?_; intro gb505 hg w5 BK505 GE505 HB hb; clear hb hg) | ((with_reducible refine gate_dst (N := 3) rfl ?_); refine sqBx w (sqB1 HB GE505) (N := 3) (cs := #[.int .i64 a1_0, .string a1_1]) (t := 38) ?_; intro gb506 hg w6 BK506 GE506 HB hb; obtain ⟨NB505_506, NB506_505⟩ := sqM hg BK505; replace BK505 := sqT BK505 hb; clear hb hg) | ((with_reducible refine gate_dst (N := 4) rfl ?_); refine sqBx w (sqB2 HB GE505 GE506) (N := 4) (cs := #[.int .i64 0, .int .i64 0]) (t := 31) ?_; intro gb507 hg w7 BK507 GE507 HB hb; obtain ⟨NB505_507, NB507_505⟩ := sqM hg BK505; replace BK505 := sqT BK505 hb; obtain ⟨NB506_507, NB507_506⟩ := sqM hg BK506; replace BK506 := sqT BK506 hb; clear hb hg; have hnb8 := NB506_505.out; have hnc8 := NB505_506.out; have hnb9 := NB506_507.out; have hnc9 := NB507_506.out; obtain ⟨hcz10_0, hcz10_1, hfz10_0, hfz10_1⟩ := sqY2 BK506; have hnb11 := NB505_507.out; have hnc11 := NB507_505.out; obtain ⟨hcz12_0, hcz12_1, hfz12_0, hfz12_1⟩ := sqY2 BK505; obtain ⟨hcz58_0, hcz58_1, hfz58_0, hfz58_1⟩ := sqY2 BK507))
 by_cases c3 : a1_0 = 0
 ·rw [if_pos c3] at H
  have c3b0 : (a1_0 == 0) = true := beq_iff_eq.mpr c3
  have c3b1 : (a1_0 != 0) = false := bne_eq_false_iff_eq.mpr c3
  (first | rw [c3b0] | rw [c3b1] | simp only [i64_w, i32_w, c3b0, c3b1] | skip)
  clear c3
  obtain ⟨⟨t508, t509, t510⟩, A4, H⟩ := sqD H
  try dsimp only at H
  obtain ⟨rfl, rfl, rfl⟩ := sqO3 H
  go_wp2_with (first | ((with_reducible refine gate_callee (f := 106) rfl ?_); refine sqC (some 15) Tryz.func106 #[.agg #[.int .i64 a0_0, .int .i64 a0_1], .string a1_1] ?_; (with_reducible refine (spec_DancedFrom.calls k a0_0 a0_1 a1_1 t508 t509 t510 _ A4.out).mono ?_); rintro e w13 ⟨rfl, hb⟩; refine ⟨_, rfl, ?_⟩; replace BK505 := sqT BK505 hb; replace BK506 := sqT BK506 hb; replace BK507 := sqT BK507 hb; replace HB := sqS (sqB3 HB GE505 GE506 GE507) hb; (try clear hb); obtain ⟨hcz14_0, hcz14_1, hfz14_0, hfz14_1⟩ := sqY2 BK507))
  refine bodyPost_ret (results_ct rfl _ _ gb507 31 #[.int .i64 t508, .int .i64 t509] (0, 0) _ rfl (by refine sqPut (cs := #[.int .i64 t508, .int .i64 0]) ?_ 1; refine sqPut (cs := #[.int .i64 0, .int .i64 0]) ?_ 0; exact sqK BK507) Tryz.underlying31 rfl (by kernel_rfl)) rfl ?_
  exact ⟨Z6, sqB3 HB GE505 GE506 GE507⟩
 rw [if_neg c3] at H
 have c3b0 : (a1_0 == 0) = false := beq_eq_false_iff_ne.mpr c3
 have c3b1 : (a1_0 != 0) = true := bne_iff_ne.mpr c3
 (first | rw [c3b0] | rw [c3b1] | simp only [i64_w, i32_w, c3b0, c3b1] | skip)
 go_upto_if 18 with fail
 by_cases c15 : a1_0 = 1
 ·rw [if_pos c15] at H
  have c15b0 : (a1_0 == 1) = true := beq_iff_eq.mpr c15
  have c15b1 : (a1_0 != 1) = false := bne_eq_false_iff_eq.mpr c15
  (first | rw [c15b0] | rw [c15b1] | simp only [i64_w, i32_w, c15b0, c15b1] | skip)
  clear c15
  obtain ⟨⟨t511, t512, t513⟩, A16, H⟩ := sqD H
  try dsimp only at H
  obtain ⟨rfl, rfl, rfl⟩ := sqO3 H
  go_wp2_with (first | ((with_reducible refine gate_callee (f := 107) rfl ?_); refine sqC (some 24) Tryz.func107 #[.string a1_1] ?_; (with_reducible refine (spec_ReadFraction.calls k a1_1 t511 t512 t513 _ A16.out).mono ?_); rintro e w23 ⟨rfl, hb⟩; refine ⟨_, rfl, ?_⟩; replace BK505 := sqT BK505 hb; replace BK506 := sqT BK506 hb; replace BK507 := sqT BK507 hb; replace HB := sqS (sqB3 HB GE505 GE506 GE507) hb; (try clear hb); have hnb24 := NB507_505.out; have hnc24 := NB505_507.out; obtain ⟨hcz25_0, hcz25_1, hfz25_0, hfz25_1⟩ := sqY2 BK507))
  refine bodyPost_ret (results_ct rfl _ _ gb507 31 #[.int .i64 t511, .int .i64 t512] (0, 0) _ rfl (by refine sqPut (cs := #[.int .i64 t511, .int .i64 0]) ?_ 1; refine sqPut (cs := #[.int .i64 0, .int .i64 0]) ?_ 0; exact sqK BK507) Tryz.underlying31 rfl (by kernel_rfl)) rfl ?_
  exact ⟨Z6, sqB3 HB GE505 GE506 GE507⟩
 rw [if_neg c15] at H
 have c15b0 : (a1_0 == 1) = false := beq_eq_false_iff_ne.mpr c15
 have c15b1 : (a1_0 != 1) = true := bne_iff_ne.mpr c15
 (first | rw [c15b0] | rw [c15b1] | simp only [i64_w, i32_w, c15b0, c15b1] | skip)
 go_upto_if 27 with fail
 by_cases c26 : (a1_0 == 2 && (a1_1.toList == ([] : List UInt8))) = true
 ·rw [if_pos c26] at H
  have c26b0 : (a1_0 == 2 && (a1_1.toList == ([] : List UInt8))) = true := c26
  try have c26b8 : (a1_0 == 2 && a1_1.toList.isEmpty) = true := by (have h_ := c26b0; (repeat rw [show ∀ z : List UInt8, (z == ([] : List UInt8)) = z.isEmpty from fun z => by cases z <;> rfl] at h_); exact h_)
  (try (have c26b1 : decide (a1_0 = 2 && (a1_1.toList == ([] : List UInt8))) = true := by simpa using c26))
  (try (have c26b2 : (a1_0 == 2 && (a1_1.toList == ([] : List UInt8))) = true := by simpa using c26))
  (first | rw [c26b0] | rw [c26b1] | rw [c26b2] | rw [c26b8] | simp only [i64_w, i32_w, c26b0, c26b1] | skip)
  clear c26
  obtain ⟨⟨t514, t515⟩, A27, H⟩ := sqD H
  try dsimp only at H
  obtain ⟨rfl, rfl, rfl⟩ := sqO3 H
  go_wp2_with (first | ((with_reducible refine gate_callee (f := 108) rfl ?_); refine sqC (some 32) Tryz.func108 #[.agg #[.int .i64 a0_0, .int .i64 a0_1]] ?_; (with_reducible refine (spec_MirrorOf.calls k a0_0 a0_1 t514 t515 _ A27.out).mono ?_); rintro e w36 ⟨rfl, hb⟩; refine ⟨_, rfl, ?_⟩; replace BK505 := sqT BK505 hb; replace BK506 := sqT BK506 hb; replace BK507 := sqT BK507 hb; replace HB := sqS (sqB3 HB GE505 GE506 GE507) hb; (try clear hb); obtain ⟨hcz37_0, hcz37_1, hfz37_0, hfz37_1⟩ := sqY2 BK507))
  refine bodyPost_ret (results_ct rfl _ _ gb507 31 #[.int .i64 t514, .int .i64 t515] (0, 0) _ rfl (by refine sqPut (cs := #[.int .i64 t514, .int .i64 0]) ?_ 1; refine sqPut (cs := #[.int .i64 0, .int .i64 0]) ?_ 0; exact sqK BK507) Tryz.underlying31 rfl (by kernel_rfl)) rfl ?_
  exact ⟨Z6, sqB3 HB GE505 GE506 GE507⟩
 rw [if_neg c26] at H
 have c26b0 : (a1_0 == 2 && (a1_1.toList == ([] : List UInt8))) = false := by simpa using c26
 try have c26b8 : (a1_0 == 2 && a1_1.toList.isEmpty) = false := by (have h_ := c26b0; (repeat rw [show ∀ z : List UInt8, (z == ([] : List UInt8)) = z.isEmpty from fun z => by cases z <;> rfl] at h_); exact h_)
 (try (have c26b1 : decide (a1_0 = 2 && (a1_1.toList == ([] : List UInt8))) = false := by simpa using c26))
 (try (have c26b2 : (a1_0 == 2 && (a1_1.toList == ([] : List UInt8))) = false := by simpa using c26))
 (try (have c26b3 : ¬ (a1_0 = 2 && (a1_1.toList == ([] : List UInt8))) := by simpa using c26))
 (first | rw [c26b0] | rw [c26b1] | rw [c26b2] | rw [c26b3] | rw [c26b8] | simp only [i64_w, i32_w, c26b0, c26b1] | skip)
 clear c26
 go_upto_if 33 with fail
 by_cases c38 : (a1_0 == 3 && (a1_1.toList == ([] : List UInt8))) = true
 ·rw [if_pos c38] at H
  have c38b0 : (a1_0 == 3 && (a1_1.toList == ([] : List UInt8))) = true := c38
  try have c38b8 : (a1_0 == 3 && a1_1.toList.isEmpty) = true := by (have h_ := c38b0; (repeat rw [show ∀ z : List UInt8, (z == ([] : List UInt8)) = z.isEmpty from fun z => by cases z <;> rfl] at h_); exact h_)
  (try (have c38b1 : decide (a1_0 = 3 && (a1_1.toList == ([] : List UInt8))) = true := by simpa using c38))
  (try (have c38b2 : (a1_0 == 3 && (a1_1.toList == ([] : List UInt8))) = true := by simpa using c38))
  (first | rw [c38b0] | rw [c38b1] | rw [c38b2] | rw [c38b8] | simp only [i64_w, i32_w, c38b0, c38b1] | skip)
  clear c38
  obtain ⟨⟨t516, t517⟩, A39, H⟩ := sqD H
  try dsimp only at H
  obtain ⟨rfl, rfl, rfl⟩ := sqO3 H
  go_wp2_with (first | ((with_reducible refine gate_callee (f := 90) rfl ?_); refine sqC (some 39) Tryz.func90 #[.agg #[.int .i64 a0_0, .int .i64 a0_1]] ?_; (with_reducible refine (spec_UntiedOf.calls k a0_0 a0_1 t516 t517 _ A39.out).mono ?_); rintro e w48 ⟨rfl, hb⟩; refine ⟨_, rfl, ?_⟩; replace BK505 := sqT BK505 hb; replace BK506 := sqT BK506 hb; replace BK507 := sqT BK507 hb; replace HB := sqS (sqB3 HB GE505 GE506 GE507) hb; (try clear hb); obtain ⟨hcz49_0, hcz49_1, hfz49_0, hfz49_1⟩ := sqY2 BK507))
  refine bodyPost_ret (results_ct rfl _ _ gb507 31 #[.int .i64 0, .int .i64 1] (0, 0) _ rfl (Z27 BK507) Tryz.underlying31 rfl (by kernel_rfl)) rfl ?_
  exact ⟨Z6, sqB3 HB GE505 GE506 GE507⟩
 rw [if_neg c38] at H
 have c38b0 : (a1_0 == 3 && (a1_1.toList == ([] : List UInt8))) = false := by simpa using c38
 try have c38b8 : (a1_0 == 3 && a1_1.toList.isEmpty) = false := by (have h_ := c38b0; (repeat rw [show ∀ z : List UInt8, (z == ([] : List UInt8)) = z.isEmpty from fun z => by cases z <;> rfl] at h_); exact h_)
 (try (have c38b1 : decide (a1_0 = 3 && (a1_1.toList == ([] : List UInt8))) = false := by simpa using c38))
 (try (have c38b2 : (a1_0 == 3 && (a1_1.toList == ([] : List UInt8))) = false := by simpa using c38))
 (try (have c38b3 : ¬ (a1_0 = 3 && (a1_1.toList == ([] : List UInt8))) := by simpa using c38))
 (first | rw [c38b0] | rw [c38b1] | rw [c38b2] | rw [c38b3] | rw [c38b8] | simp only [i64_w, i32_w, c38b0, c38b1] | skip)
 clear c38
 obtain ⟨rfl, rfl, rfl⟩ := sqO3 H
 go_wp2_with fail
 refine bodyPost_ret (results_ct rfl _ _ gb507 31 #[.int .i64 a0_0, .int .i64 a0_1] (0, 0) _ rfl (Z5 BK507) Tryz.underlying31 rfl (by kernel_rfl)) rfl ?_
 exact ⟨Z6, sqB3 HB GE505 GE506 GE507⟩

end Go.Proofs.YtofmlbgfcohhoaaGreatDoor.PFnExactDeskLine
