/- Lean functions of the Go functions that the law FnDeskDo reaches, each with its contract: made by a program of this session. -/
import Derived.Test.YtofmlbgfcohhoaaGreatDoorPFnDeskDox2
import Derived.Test.YtofmlbgfcohhoaaGreatDoorPFnDeskDox6
import Derived.Test.YtofmlbgfcohhoaaGreatDoorPFnDeskDox7
namespace Go.Proofs.YtofmlbgfcohhoaaGreatDoor.PFnDeskDo
open Go.RowKit Go.Proofs.YtofmlbgfcohhoaaGreatDoorW.PrintWords Go.Proofs.YtofmlbgfcohhoaaGreatDoorW.PrintLast Go.Proofs.YtofmlbgfcohhoaaGreatDoorW.PrintMore Go.Proofs.YtofmlbgfcohhoaaGreatDoor.Lib
attribute [local go_sem] max2_int min2_int max_two min_two max_three min_three max_four min_four   -- for this text's walks alone
set_option linter.unusedVariables false
set_option linter.unusedSimpArgs false

attribute [local go_sem high] eqA38
/-! ### spec_l1Digits: function 100 -/
mutual
def spec_l1Digits.j0 : Nat → ByteArray → Bool → Option (Int × Bool)
 | 0, _, _ => none
 | k + 1, x0, x15 => if x15 = true then (if 1 ≤ (x0.size : Int) then ((spec_l1Digits.f k (x0.extract 1 x0.size)).bind fun bt185 => (if bt185.2 = true then (some (wrap64 (-bt185.1), decide (bt185.1 > 0))) else (some (wrap64 (-bt185.1), false)))) else (none)) else ((spec_l1In.f (x0.size : Int) 1 7).bind fun t187 => (if t187 = true then (if (x0.size : Int) > 1 then (if 0 < (x0.size : Int) then (spec_l1Digits.j1 k x0 ((bt x0 0) == 48)) else (none)) else (spec_l1Digits.j1 k x0 false)) else (spec_l1Digits.j1 k x0 true)))
def spec_l1Digits.j1 : Nat → ByteArray → Bool → Option (Int × Bool)
 | 0, _, _ => none
 | k + 1, x0, x42 => if x42 = true then (some (0, false)) else (spec_l1Digits.l0 k x0 0 0)
def spec_l1Digits.l0 : Nat → ByteArray → Int → Int → Option (Int × Bool)
 | 0, _, _, _ => none
 | k + 1, x0, x6, x7 => if x7 < (x0.size : Int) then (if 0 ≤ x7 then (if (bt x0 x7) < 48 then (some (0, false)) else (if (bt x0 x7) > 57 then (some (0, false)) else (spec_l1Digits.l0 k x0 (wrap64 ((wrap64 (10 * x6)) + (((bt x0 x7) - 48) % 256))) (wrap64 (x7 + 1))))) else (none)) else (some (x6, true))
def spec_l1Digits.f : Nat → ByteArray → Option (Int × Bool)
 | 0, _ => none
 | k + 1, a0 => if (a0.size : Int) > 1 then (if 0 < (a0.size : Int) then (spec_l1Digits.j0 k a0 ((bt a0 0) == 45)) else (none)) else (spec_l1Digits.j0 k a0 false)
end
theorem spec_l1Digits.mono_l : ∀ k, (∀ y0, LeO (spec_l1Digits.f k y0) (spec_l1Digits.f (k + 1) y0)) ∧ (∀ y0 y1, LeO (spec_l1Digits.j0 k y0 y1) (spec_l1Digits.j0 (k + 1) y0 y1)) ∧ (∀ y0 y1, LeO (spec_l1Digits.j1 k y0 y1) (spec_l1Digits.j1 (k + 1) y0 y1)) ∧ (∀ y0 y1 y2, LeO (spec_l1Digits.l0 k y0 y1 y2) (spec_l1Digits.l0 (k + 1) y0 y1 y2))
 | 0 => ⟨fun _ r h => by simp [spec_l1Digits.f] at h, fun _ _ r h => by simp [spec_l1Digits.j0] at h, fun _ _ r h => by simp [spec_l1Digits.j1] at h, fun _ _ _ r h => by simp [spec_l1Digits.l0] at h⟩
 | k + 1 => by
  obtain ⟨ih0, ih1, ih2, ih3⟩ := spec_l1Digits.mono_l k
  refine ⟨?_, ?_, ?_, ?_⟩
  ·intro y0
   unfold spec_l1Digits.f
   repeat' first
   | (with_reducible exact ih0 _)
   | (with_reducible exact ih1 _ _)
   | (with_reducible exact ih2 _ _)
   | (with_reducible exact ih3 _ _ _)
   | (with_reducible exact LeO.refl _)
   | (with_reducible exact LeO.none _)
   | (with_reducible refine LeO.ite ?_ ?_)
   | (with_reducible refine LeO.bind ?_ (fun _ => ?_))
  ·intro y0 y1
   unfold spec_l1Digits.j0
   repeat' first
   | (with_reducible exact ih0 _)
   | (with_reducible exact ih1 _ _)
   | (with_reducible exact ih2 _ _)
   | (with_reducible exact ih3 _ _ _)
   | (with_reducible exact LeO.refl _)
   | (with_reducible exact LeO.none _)
   | (with_reducible refine LeO.ite ?_ ?_)
   | (with_reducible refine LeO.bind ?_ (fun _ => ?_))
  ·intro y0 y1
   unfold spec_l1Digits.j1
   repeat' first
   | (with_reducible exact ih0 _)
   | (with_reducible exact ih1 _ _)
   | (with_reducible exact ih2 _ _)
   | (with_reducible exact ih3 _ _ _)
   | (with_reducible exact LeO.refl _)
   | (with_reducible exact LeO.none _)
   | (with_reducible refine LeO.ite ?_ ?_)
   | (with_reducible refine LeO.bind ?_ (fun _ => ?_))
  ·intro y0 y1 y2
   unfold spec_l1Digits.l0
   repeat' first
   | (with_reducible exact ih0 _)
   | (with_reducible exact ih1 _ _)
   | (with_reducible exact ih2 _ _)
   | (with_reducible exact ih3 _ _ _)
   | (with_reducible exact LeO.refl _)
   | (with_reducible exact LeO.none _)
   | (with_reducible refine LeO.ite ?_ ?_)
   | (with_reducible refine LeO.bind ?_ (fun _ => ?_))
theorem spec_l1Digits.mono : ∀ a0 k, LeO (spec_l1Digits.f k a0) (spec_l1Digits.f (k + 1) a0) := by
 intro a0 k
 obtain ⟨ih0, ih1, ih2, ih3⟩ := spec_l1Digits.mono_l k
 exact ih0 a0
set_option maxHeartbeats 8000000 in
set_option maxRecDepth 100000 in
theorem spec_l1Digits.calls (k : Nat) : ∀ (a0 : ByteArray) (r1 : Int) (r2 : Bool) (w : World) (h : spec_l1Digits.f k a0 = some (r1, r2)),
  Calls Tryz.prog 100 #[.string a0] w fun e w' => e = .returned (.tuple #[.int .i64 r1, .bool r2]) ∧ Drawn0 w w' := by
 induction k using Nat.strongRecOn with
 | _ k ih =>
 intro a0 r1 r2 w h
 cases k with
 | zero => exact absurd h (by simp [spec_l1Digits.f])
 | succ k =>
 simp only [spec_l1Digits.f] at h
 have H : (if (a0.size : Int) > 1 then (if 0 < (a0.size : Int) then (spec_l1Digits.j0 k a0 ((bt a0 0) == 45)) else (none)) else (spec_l1Digits.j0 k a0 false)) = some (r1, r2) := h
 clear h
 have HC2 := Aside0.mk H
 clear H
 go_enter Tryz.func100, Tryz.ntmps100
 go_upto_region 1 with (fail)
 go_cut [15] (fun v15 wc => ∃ (kq : Nat) (x15_1 : Bool), v15 = .bool x15_1 ∧ Aside0 (spec_l1Digits.j0 kq a0 x15_1 = some (r1, r2)) ∧ Aside0 (kq ≤ k) ∧ Drawn0 w wc)
 case first =>
  have H := HC2.out
  clear HC2
  by_cases c3 : (a0.size : Int) > 1
  ·rw [if_pos c3] at H
   have c3b0 : decide (1 < (a0.size : Int)) = true := decide_eq_true c3
   have c3b1 : decide (1 < a0.size) = true := decide_eq_true (by omega)
   clear c3
   (first | rw [c3b0] | (simp only [i64_w, i32_w]; rw [c3b0]) | skip)
   obtain ⟨c4, H⟩ := sqI H
   have c4b0 : decide (0 < (a0.size : Int)) = true := decide_eq_true c4
   have c4b1 : decide (0 < a0.size) = true := decide_eq_true (by omega)
   clear c4
   have H' := Aside0.mk H
   clear H
   have p5 : 0 ≤ (0 : Int) := (by omega)
   have q5 : 0 < a0.size := (by have : (0 : Int) < (a0.size : Int) := of_decide_eq_true Z2; omega)
   have hx5 : ∀ h : 0 < a0.size, ((a0[0]'h).toNat : Int) = bt a0 0 := bt_at a0 0
   clear p5
   have qi5 : (0 < (a0.size : Int)) = True := eq_true (of_decide_eq_true Z2)
   replace q5 := eq_true q5
   go_wp2
   go_meet
   case rel => exact ⟨_, (((bt a0 0) == 45)), Z1, H', ⟨Z16⟩, Z58⟩
  ·rw [if_neg c3] at H
   have c3b0 : decide (1 < (a0.size : Int)) = false := decide_eq_false c3
   have c3b1 : decide (1 < a0.size) = false := decide_eq_false (by omega)
   clear c3
   (first | rw [c3b0] | (simp only [i64_w, i32_w]; rw [c3b0]) | skip)
   have H' := Aside0.mk H
   clear H
   go_wp2
   go_meet
   case rel => exact ⟨_, (false), Z1, H', ⟨Z16⟩, Z58⟩
 case rest =>
  clear HC2
  try clear c1; try clear p2; try clear c3; try clear c3b0; try clear c3b1; try clear c4; try clear c4b0; try clear c4b1; try clear p5; try clear q5; try clear hx5; try clear qi5; try clear p5; try clear q5
  obtain ⟨kq, x15_1, rfl, HA, HJ1, ⟨mc1, rfl⟩⟩ := hcut
  cases kq with
  | zero => exact absurd HA.out (by simp [spec_l1Digits.j0])
  | succ kj1 =>
   have H := HA.out
   clear HA
   simp only [spec_l1Digits.j0] at H
   by_cases c6 : x15_1 = true
   ·subst c6
    rw [if_pos rfl] at H
    obtain ⟨c7, H⟩ := sqI H
    have c7b0 := eq_true c7
    have c7b1 : decide (1 ≤ (a0.size : Int)) = true := decide_eq_true c7
    clear c7
    obtain ⟨⟨t185, t186⟩, A8, H⟩ := sqD H
    try dsimp only at H
    by_cases c9 : t186 = true
    ·subst c9
     rw [if_pos rfl] at H
     obtain ⟨rfl, rfl⟩ := sqO2 H
     go_wp2_with (first | ((with_reducible refine gate_callee (f := 100) rfl ?_); refine goesL_ (some 19) rfl rfl Tryz.func100 (by kernel_rfl) rfl #[.string (a0.extract 1 a0.size)] rfl sqA ?_; (with_reducible refine (ih kj1 Z62 (a0.extract 1 a0.size) t185 true _ A8.out).mono ?_); rintro e w' ⟨rfl, ⟨nd, rfl⟩⟩; refine ⟨_, rfl, ?_⟩))
     go_ret2
     exact ⟨Z1, Z58⟩
    ·replace c9 := Bool.eq_false_iff.mpr c9
     subst c9
     rw [if_neg sqF] at H
     obtain ⟨rfl, rfl⟩ := sqO2 H
     go_wp2_with (first | ((with_reducible refine gate_callee (f := 100) rfl ?_); refine goesL_ (some 19) rfl rfl Tryz.func100 (by kernel_rfl) rfl #[.string (a0.extract 1 a0.size)] rfl sqA ?_; (with_reducible refine (ih kj1 Z62 (a0.extract 1 a0.size) t185 false _ A8.out).mono ?_); rintro e w' ⟨rfl, ⟨nd, rfl⟩⟩; refine ⟨_, rfl, ?_⟩))
     go_ret2
     exact ⟨Z1, Z58⟩
   ·replace c6 := Bool.eq_false_iff.mpr c6
    subst c6
    rw [if_neg sqF] at H
    have HC10 := Aside0.mk H
    clear H
    go_upto_region 4 with (fail)
    go_cut [42] (fun v42 wc => ∃ (kq : Nat) (x42_9 : Bool), v42 = .bool x42_9 ∧ Aside0 (spec_l1Digits.j1 kq a0 x42_9 = some (r1, r2)) ∧ Aside0 (kq ≤ kj1) ∧ Drawn0 w wc)
    case first =>
     have H := HC10.out
     clear HC10
     obtain ⟨t187, A11, H⟩ := sqD H
     by_cases c12 : t187 = true
     ·subst c12
      rw [if_pos rfl] at H
      by_cases c13 : (a0.size : Int) > 1
      ·rw [if_pos c13] at H
       have c13b0 : decide (1 < (a0.size : Int)) = true := decide_eq_true c13
       have c13b1 : decide (1 < a0.size) = true := decide_eq_true (by omega)
       clear c13
       (first | rw [c13b0] | (simp only [i64_w, i32_w]; rw [c13b0]) | skip)
       obtain ⟨c14, H⟩ := sqI H
       have c14b0 : decide (0 < (a0.size : Int)) = true := decide_eq_true c14
       have c14b1 : decide (0 < a0.size) = true := decide_eq_true (by omega)
       clear c14
       have H' := Aside0.mk H
       clear H
       go_wp2_with (first | ((with_reducible refine gate_callee (f := 101) rfl ?_); refine goesL_ (some 31) rfl rfl Tryz.func101 (by kernel_rfl) rfl #[.int .i64 (a0.size : Int), .int .i64 1, .int .i64 7] rfl sqA ?_; (with_reducible refine (spec_l1In.calls (a0.size : Int) 1 7 true _ A11.out).mono ?_); rintro e w' ⟨rfl, ⟨nd, rfl⟩⟩; refine ⟨_, rfl, ?_⟩; have p15 : 0 ≤ (0 : Int) := (by omega); have q15 : 0 < a0.size := (by have : (0 : Int) < (a0.size : Int) := of_decide_eq_true Z2; omega); have hx15 : ∀ h : 0 < a0.size, ((a0[0]'h).toNat : Int) = bt a0 0 := bt_at a0 0; clear p15; have qi15 : (0 < (a0.size : Int)) = True := eq_true (of_decide_eq_true Z2); replace q15 := eq_true q15))
       go_meet
       case rel => exact ⟨_, (((bt a0 0) == 48)), Z1, H', ⟨Z64⟩, Z58⟩
      ·rw [if_neg c13] at H
       have c13b0 : decide (1 < (a0.size : Int)) = false := decide_eq_false c13
       have c13b1 : decide (1 < a0.size) = false := decide_eq_false (by omega)
       clear c13
       (first | rw [c13b0] | (simp only [i64_w, i32_w]; rw [c13b0]) | skip)
       have H' := Aside0.mk H
       clear H
       go_wp2_with (first | ((with_reducible refine gate_callee (f := 101) rfl ?_); refine goesL_ (some 31) rfl rfl Tryz.func101 (by kernel_rfl) rfl #[.int .i64 (a0.size : Int), .int .i64 1, .int .i64 7] rfl sqA ?_; (with_reducible refine (spec_l1In.calls (a0.size : Int) 1 7 true _ A11.out).mono ?_); rintro e w' ⟨rfl, ⟨nd, rfl⟩⟩; refine ⟨_, rfl, ?_⟩))
       go_meet
       case rel => exact ⟨_, (false), Z1, H', ⟨Z64⟩, Z58⟩
     ·replace c12 := Bool.eq_false_iff.mpr c12
      subst c12
      rw [if_neg sqF] at H
      have H' := Aside0.mk H
      clear H
      go_wp2_with (first | ((with_reducible refine gate_callee (f := 101) rfl ?_); refine goesL_ (some 31) rfl rfl Tryz.func101 (by kernel_rfl) rfl #[.int .i64 (a0.size : Int), .int .i64 1, .int .i64 7] rfl sqA ?_; (with_reducible refine (spec_l1In.calls (a0.size : Int) 1 7 false _ A11.out).mono ?_); rintro e w' ⟨rfl, ⟨nd, rfl⟩⟩; refine ⟨_, rfl, ?_⟩))
      go_meet
      case rel => exact ⟨_, (true), Z1, H', ⟨Z64⟩, Z58⟩
    case rest =>
     clear HC10
     try clear c1; try clear p1; try clear q1; try clear hx1; try clear qi1; try clear p2; try clear c3; try clear c3b0; try clear c3b1; try clear c4; try clear c4b0; try clear c4b1; try clear p5; try clear q5; try clear hx5; try clear qi5; try clear c6; try clear p6; try clear c7; try clear c7b0; try clear c7b1; try clear c9; try clear c10; try clear c12; try clear c13; try clear c13b0; try clear c13b1; try clear c14; try clear c14b0; try clear c14b1; try clear p15; try clear q15; try clear hx15; try clear qi15; try clear p15; try clear p2; try clear p5; try clear q15; try clear q5
     obtain ⟨kq, x42_9, rfl, HA, HJ9, ⟨mc9, rfl⟩⟩ := hcut
     cases kq with
     | zero => exact absurd HA.out (by simp [spec_l1Digits.j1])
     | succ kj9 =>
      have H := HA.out
      clear HA
      simp only [spec_l1Digits.j1] at H
      by_cases c16 : x42_9 = true
      ·subst c16
       rw [if_pos rfl] at H
       obtain ⟨rfl, rfl⟩ := sqO2 H
       go_wp2
       go_ret2
       exact ⟨Z1, Z58⟩
      ·replace c16 := Bool.eq_false_iff.mpr c16
       subst c16
       rw [if_neg sqF] at H
       have H' := Aside0.mk H
       clear H
       go_wp2
       go_loopg [6, 7] kj9 (fun kq v6 v7 w' => ∃ (x6_3 : Int) (x7_3 : Int), v6 = .int .i64 x6_3 ∧ v7 = .int .i64 x7_3 ∧ Aside0 (spec_l1Digits.l0 kq a0 x6_3 x7_3 = some (r1, r2)) ∧ Aside0 (kq ≤ kj9) ∧ Drawn0 w w')
       case atStart => exact ⟨(0), (0), Z1, Z1, H', ⟨Nat.le_refl _⟩, Z58⟩
       case round =>
        clear H'
        try clear c1; try clear p1; try clear q1; try clear hx1; try clear qi1; try clear p2; try clear c3; try clear c3b0; try clear c3b1; try clear c4; try clear c4b0; try clear c4b1; try clear p5; try clear q5; try clear hx5; try clear qi5; try clear c6; try clear p6; try clear c7; try clear c7b0; try clear c7b1; try clear c9; try clear c10; try clear c12; try clear c13; try clear c13b0; try clear c13b1; try clear c14; try clear c14b0; try clear c14b1; try clear p15; try clear q15; try clear hx15; try clear qi15; try clear c16; try clear p1; try clear p15; try clear p2; try clear p5; try clear p6; try clear q1; try clear q15; try clear q5
        obtain ⟨x6_3, x7_3, rfl, rfl, HA, HK3, ⟨m3, rfl⟩⟩ := hrel
        cases gk with
        | zero => exact absurd HA.out (by simp [spec_l1Digits.l0])
        | succ k3 =>
         have H := HA.out
         clear HA
         simp only [spec_l1Digits.l0] at H
         by_cases c17 : x7_3 < (a0.size : Int)
         ·rw [if_pos c17] at H
          have c17b0 : decide (x7_3 < (a0.size : Int)) = true := decide_eq_true c17
          clear c17
          obtain ⟨c18, H⟩ := sqI H
          have c18b0 : decide (0 ≤ x7_3) = true := decide_eq_true c18
          clear c18
          by_cases c20 : (bt a0 x7_3) < 48
          ·rw [if_pos c20] at H
           have c20b0 : decide ((bt a0 x7_3) < 48) = true := decide_eq_true c20
           clear c20
           obtain ⟨rfl, rfl⟩ := sqO2 H
           have p19 : 0 ≤ (x7_3 : Int) := of_decide_eq_true Z2
           have q19 : x7_3 < (a0.size : Int) := of_decide_eq_true Z2
           have hx19 := bt_at a0 x7_3
           replace p19 := eq_true p19
           replace q19 := eq_true q19
           go_wp2
           go_ret2
           exact ⟨Z1, Z58⟩
          ·rw [if_neg c20] at H
           have c20b0 : decide ((bt a0 x7_3) < 48) = false := decide_eq_false c20
           clear c20
           by_cases c22 : (bt a0 x7_3) > 57
           ·rw [if_pos c22] at H
            have c22b0 : decide (57 < (bt a0 x7_3)) = true := decide_eq_true c22
            clear c22
            obtain ⟨rfl, rfl⟩ := sqO2 H
            have p19 : 0 ≤ (x7_3 : Int) := of_decide_eq_true Z2
            have q19 : x7_3 < (a0.size : Int) := of_decide_eq_true Z2
            have hx19 := bt_at a0 x7_3
            replace p19 := eq_true p19
            replace q19 := eq_true q19
            have p21 : 0 ≤ (x7_3 : Int) := of_decide_eq_true Z2
            have q21 : x7_3 < (a0.size : Int) := of_decide_eq_true Z2
            have hx21 := bt_at a0 x7_3
            replace p21 := eq_true p21
            replace q21 := eq_true q21
            go_wp2
            go_ret2
            exact ⟨Z1, Z58⟩
           ·rw [if_neg c22] at H
            have c22b0 : decide (57 < (bt a0 x7_3)) = false := decide_eq_false c22
            clear c22
            have H' := Aside0.mk H
            clear H
            have p19 : 0 ≤ (x7_3 : Int) := of_decide_eq_true Z2
            have q19 : x7_3 < (a0.size : Int) := of_decide_eq_true Z2
            have hx19 := bt_at a0 x7_3
            replace p19 := eq_true p19
            replace q19 := eq_true q19
            have p21 : 0 ≤ (x7_3 : Int) := of_decide_eq_true Z2
            have q21 : x7_3 < (a0.size : Int) := of_decide_eq_true Z2
            have hx21 := bt_at a0 x7_3
            replace p21 := eq_true p21
            replace q21 := eq_true q21
            have p23 : 0 ≤ (x7_3 : Int) := of_decide_eq_true Z2
            have q23 : x7_3 < (a0.size : Int) := of_decide_eq_true Z2
            have hx23 := bt_at a0 x7_3
            replace p23 := eq_true p23
            replace q23 := eq_true q23
            go_wp2
            go_roundg k3
            case measure => have := HJ1.out; have := HJ9.out; have := HK3.out; omega
            case rel => exact ⟨(wrap64 ((wrap64 (10 * x6_3)) + (((bt a0 x7_3) - 48) % 256))), (wrap64 (x7_3 + 1)), Z1, Z1, H', ⟨by have := HJ1.out; have := HJ9.out; have := HK3.out; omega⟩, Z58⟩
         ·rw [if_neg c17] at H
          have c17b0 : decide (x7_3 < (a0.size : Int)) = false := decide_eq_false c17
          clear c17
          obtain ⟨rfl, rfl⟩ := sqO2 H
          go_wp2
          go_ret2
          exact ⟨Z1, Z58⟩

/-! ### spec_ReadFraction: function 107 -/
def spec_ReadFraction.f (k : Nat) (a0 : ByteArray) : Option (Int × Int × Bool) := (spec_l1Cut.f k a0 47).bind fun t189 => (if 0 < (t189.length : Int) then ((spec_l1Digits.f k (rdOf ByteArray.empty t189 0)).bind fun bt193 => (if (t189.length : Int) = 2 then (if 1 < (t189.length : Int) then ((spec_l1Digits.f k (rdOf ByteArray.empty t189 1)).bind fun bt196 => (if bt193.2 = true then (if bt196.2 = true then (if (t189.length : Int) > 2 then (some (0, 0, false)) else ((spec_FractionText.f k bt193.1 bt196.1).bind fun t199 => (if t199.toList = a0.toList then (some (bt193.1, bt196.1, true)) else (some (0, 0, false))))) else (some (0, 0, false))) else (some (0, 0, false)))) else (none)) else (if bt193.2 = true then (if (t189.length : Int) > 2 then (some (0, 0, false)) else ((spec_FractionText.f k bt193.1 1).bind fun t202 => (if t202.toList = a0.toList then (some (bt193.1, 1, true)) else (some (0, 0, false))))) else (some (0, 0, false))))) else (none))
theorem spec_ReadFraction.mono : ∀ a0 k, LeO (spec_ReadFraction.f k a0) (spec_ReadFraction.f (k + 1) a0) := by
 intro a0 k
 unfold spec_ReadFraction.f
 repeat' first
   | (with_reducible exact spec_FractionText.mono _ _ _)
   | (with_reducible exact spec_l1Cut.mono _ _ _)
   | (with_reducible exact spec_l1Digits.mono _ _)
   | (with_reducible exact LeO.refl _)
   | (with_reducible exact LeO.none _)
   | (with_reducible refine LeO.ite ?_ ?_)
   | (with_reducible refine LeO.bind ?_ (fun _ => ?_))
set_option maxHeartbeats 8000000 in
set_option maxRecDepth 100000 in
theorem spec_ReadFraction.calls (k : Nat) (a0 : ByteArray) (r1 : Int) (r2 : Int) (r3 : Bool) (w : World) (h : spec_ReadFraction.f k a0 = some (r1, r2, r3)) :
  Calls Tryz.prog 107 #[.string a0] w fun e w' => e = .returned (.tuple #[.agg #[.int .i64 r1, .int .i64 r2], .bool r3]) ∧ Below w.heap.size w w' := by
 have hu31 := Tryz.underlying31
 have HB := Aside0.mk (Below.refl w.heap.size w)
 have H : ((spec_l1Cut.f k a0 47).bind fun t189 => (if 0 < (t189.length : Int) then ((spec_l1Digits.f k (rdOf ByteArray.empty t189 0)).bind fun bt193 => (if (t189.length : Int) = 2 then (if 1 < (t189.length : Int) then ((spec_l1Digits.f k (rdOf ByteArray.empty t189 1)).bind fun bt196 => (if bt193.2 = true then (if bt196.2 = true then (if (t189.length : Int) > 2 then (some (0, 0, false)) else ((spec_FractionText.f k bt193.1 bt196.1).bind fun t199 => (if t199.toList = a0.toList then (some (bt193.1, bt196.1, true)) else (some (0, 0, false))))) else (some (0, 0, false))) else (some (0, 0, false)))) else (none)) else (if bt193.2 = true then (if (t189.length : Int) > 2 then (some (0, 0, false)) else ((spec_FractionText.f k bt193.1 1).bind fun t202 => (if t202.toList = a0.toList then (some (bt193.1, 1, true)) else (some (0, 0, false))))) else (some (0, 0, false))))) else (none))) = some (r1, r2, r3) := h
 clear h
 obtain ⟨t189, A2, H⟩ := sqD H
 obtain ⟨c3, H⟩ := sqI H
 have c3b0 : decide (0 < (t189.length : Int)) = true := decide_eq_true c3
 have c3b1 : decide (0 < t189.length) = true := decide_eq_true (by omega)
 clear c3
 obtain ⟨⟨t193, t194⟩, A4, H⟩ := sqD H
 try dsimp only at H
 by_cases c5 : (t189.length : Int) = 2
 ·rw [if_pos c5] at H
  have c5b0 : ((t189.length : Int) == 2) = true := beq_iff_eq.mpr c5
  have c5b1 : ((t189.length : Int) != 2) = false := bne_eq_false_iff_eq.mpr c5
  clear c5
  obtain ⟨c6, H⟩ := sqI H
  have c6b0 : decide (1 < (t189.length : Int)) = true := decide_eq_true c6
  have c6b1 : decide (1 < t189.length) = true := decide_eq_true (by omega)
  clear c6
  obtain ⟨⟨t196, t197⟩, A7, H⟩ := sqD H
  try dsimp only at H
  by_cases c8 : t194 = true
  ·subst c8
   rw [if_pos rfl] at H
   by_cases c9 : t197 = true
   ·subst c9
    rw [if_pos rfl] at H
    by_cases c10 : (t189.length : Int) > 2
    ·rw [if_pos c10] at H
     have c10b0 : decide (2 < (t189.length : Int)) = true := decide_eq_true c10
     have c10b1 : decide (2 < t189.length) = true := decide_eq_true (by omega)
     clear c10
     obtain ⟨rfl, rfl, rfl⟩ := sqO3 H
     go_enter Tryz.func107, Tryz.ntmps107
     go_wp2_with (first | ((with_reducible refine gate_dst (N := 2) rfl ?_); (try (refine gate_guard (by rfl) ?_; dsimp only)); refine sqBox (N := 2) (cs := #[.int .i64 0, .int .i64 0]) (t := 31) ?_; intro gb188 hg w11 BK188 hb; have GW188 := Aside0.mk ((sqG hg (sqB HB))); have GE188 := GW188; replace HB := sqS (sqB HB) hb; clear hb hg) | ((with_reducible refine gate_callee (f := 99) rfl ?_); refine goesL_ (some 12) rfl rfl Tryz.func99 (by kernel_rfl) rfl #[.string a0, .int .u8 47] rfl sqA ?_; (with_reducible refine (spec_l1Cut.calls k a0 47 t189 _ A2.out).mono ?_); rintro e w12 ⟨v190, rfl, ho0, hb⟩; refine ⟨_, rfl, ?_⟩; have HO191 := sqL ho0 (sqB1 HB GE188); replace BK188 := sqT BK188 hb; replace HB := sqS (sqB1 HB GE188) hb; (try clear hb); (try clear ho0); obtain ⟨Ao13, co13, eo13⟩ := Kd.R_slice HO191.out; subst eo13; have p192 : 0 ≤ (0 : Int) := (by omega); have q192 : 0 < (t189.length : Int) := of_decide_eq_true Z2; obtain ⟨ad192, e192, hx192_0⟩ := Kd.at_string (Kd.R_reads' HO191.out).2.2 0 p192 q192; cases e192; have qi192 : (0 < t189.length) = True := eq_true (by omega); (try rw [show ((0 : Int)).toNat = 0 from rfl] at hx192_0); (try rw [Addr.add_zero'] at hx192_0); replace p192 := eq_true p192; replace q192 := eq_true q192) | ((with_reducible refine gate_callee (f := 100) rfl ?_); refine goesL_ (some 17) rfl rfl Tryz.func100 (by kernel_rfl) rfl #[.string (rdOf ByteArray.empty t189 0)] rfl sqA ?_; (with_reducible refine (spec_l1Digits.calls k (rdOf ByteArray.empty t189 0) t193 true _ A4.out).mono ?_); rintro e w' ⟨rfl, ⟨nd, rfl⟩⟩; refine ⟨_, rfl, ?_⟩; (try (rw [drewN_self w12]; generalize hq_ : World.drewN w12 _ = w12; have n0_ : Aside0 (Kd.R Kd.string 9 w12 w.heap.size (fun _ => True) (.slice (some ad192) t189.length co13) t189) := ⟨Z65 HO191⟩; have n1_ : Aside0 (w12.heap[gb188]? = some (.cells #[.int .i64 0, .int .i64 0] 31 (0, 0))) := ⟨Z59 BK188⟩; have n2_ : Aside0 (Below w.heap.size w w12) := ⟨Z66 GE188⟩; clear HO191 BK188 HB hq_; have HO191 := n0_; have BK188 := n1_; have HB := n2_; clear n0_ n1_ n2_)); have p195 : 0 ≤ (1 : Int) := (by omega); have q195 : 1 < (t189.length : Int) := of_decide_eq_true Z2; obtain ⟨ad195, e195, hx195_0⟩ := Kd.at_string (Kd.R_reads' HO191.out).2.2 1 p195 q195; obtain rfl : ad192 = ad195 := (by injection e195); (try simp only [show (1 : Int).toNat = 1 from rfl, Nat.reduceMul, Nat.reduceEqDiff, Go.Addr.add, ↓reduceIte] at hx195_0); have qi195 : (1 < t189.length) = True := eq_true (by omega); (try rw [show ((1 : Int)).toNat = 1 from rfl] at hx195_0); replace p195 := eq_true p195; replace q195 := eq_true q195) | ((with_reducible refine gate_callee (f := 100) rfl ?_); refine goesL_ (some 27) rfl rfl Tryz.func100 (by kernel_rfl) rfl #[.string (rdOf ByteArray.empty t189 1)] rfl sqA ?_; (with_reducible refine (spec_l1Digits.calls k (rdOf ByteArray.empty t189 1) t196 true _ A7.out).mono ?_); rintro e w' ⟨rfl, ⟨nd, rfl⟩⟩; refine ⟨_, rfl, ?_⟩; (try (rw [drewN_self w12]; generalize hq_ : World.drewN w12 _ = w12; have n0_ : Aside0 (Kd.R Kd.string 9 w12 w.heap.size (fun _ => True) (.slice (some ad192) t189.length co13) t189) := ⟨Z65 HO191⟩; have n1_ : Aside0 (w12.heap[gb188]? = some (.cells #[.int .i64 0, .int .i64 0] 31 (0, 0))) := ⟨Z59 BK188⟩; have n2_ : Aside0 (Below w.heap.size w w12) := ⟨Z66 GE188⟩; clear HO191 BK188 HB hq_; have HO191 := n0_; have BK188 := n1_; have HB := n2_; clear n0_ n1_ n2_))) | ((with_reducible refine gate_dst (N := 10) rfl ?_); (try (refine gate_guard (by rfl) ?_; dsimp only)); refine sqBox (N := 10) (cs := #[.int .i64 0, .int .i64 0]) (t := 31) ?_; intro gb198 hg w14 BK198 hb; replace HO191 := sqU HO191 hb; have GW198 := Aside0.mk ((sqG hg (sqB1 HB GE188))); have GE198 := GW198; replace HB := sqS (sqB1 HB GE188) hb; obtain ⟨NB188_198, NB198_188⟩ := sqM hg BK188; replace BK188 := sqT BK188 hb; clear hb hg; have hnb15 := NB198_188.out; have hnc15 := NB188_198.out; obtain ⟨hcz16_0, hcz16_1, hfz16_0, hfz16_1⟩ := sqY2 BK198; obtain ⟨hcz17_0, hcz17_1, hfz17_0, hfz17_1⟩ := sqY2 BK188))
     refine bodyPost_ret (results_ct rfl _ _ gb188 31 #[.int .i64 0, .int .i64 0] (0, 0) _ rfl (Z67 NB188_198 BK188) Tryz.underlying31 rfl (by kernel_rfl)) rfl ?_
     exact ⟨Z3, sqB2 HB GE188 GE198⟩
    ·rw [if_neg c10] at H
     have c10b0 : decide (2 < (t189.length : Int)) = false := decide_eq_false c10
     have c10b1 : decide (2 < t189.length) = false := decide_eq_false (by omega)
     clear c10
     obtain ⟨t199, A18, H⟩ := sqD H
     by_cases c19 : t199.toList = a0.toList
     ·rw [if_pos c19] at H
      have c19b0 : (t199.toList == a0.toList) = true := beq_iff_eq.mpr c19
      have c19b1 : (t199.toList != a0.toList) = false := bne_eq_false_iff_eq.mpr c19
      clear c19
      obtain ⟨rfl, rfl, rfl⟩ := sqO3 H
      go_enter Tryz.func107, Tryz.ntmps107
      go_wp2_with (first | ((with_reducible refine gate_dst (N := 2) rfl ?_); (try (refine gate_guard (by rfl) ?_; dsimp only)); refine sqBox (N := 2) (cs := #[.int .i64 0, .int .i64 0]) (t := 31) ?_; intro gb188 hg w20 BK188 hb; have GW188 := Aside0.mk ((sqG hg (sqB HB))); have GE188 := GW188; replace HB := sqS (sqB HB) hb; clear hb hg) | ((with_reducible refine gate_callee (f := 99) rfl ?_); refine goesL_ (some 12) rfl rfl Tryz.func99 (by kernel_rfl) rfl #[.string a0, .int .u8 47] rfl sqA ?_; (with_reducible refine (spec_l1Cut.calls k a0 47 t189 _ A2.out).mono ?_); rintro e w21 ⟨v190, rfl, ho0, hb⟩; refine ⟨_, rfl, ?_⟩; have HO191 := sqL ho0 (sqB1 HB GE188); replace BK188 := sqT BK188 hb; replace HB := sqS (sqB1 HB GE188) hb; (try clear hb); (try clear ho0); obtain ⟨Ao22, co22, eo22⟩ := Kd.R_slice HO191.out; subst eo22; have p192 : 0 ≤ (0 : Int) := (by omega); have q192 : 0 < (t189.length : Int) := of_decide_eq_true Z2; obtain ⟨ad192, e192, hx192_0⟩ := Kd.at_string (Kd.R_reads' HO191.out).2.2 0 p192 q192; cases e192; have qi192 : (0 < t189.length) = True := eq_true (by omega); (try rw [show ((0 : Int)).toNat = 0 from rfl] at hx192_0); (try rw [Addr.add_zero'] at hx192_0); replace p192 := eq_true p192; replace q192 := eq_true q192) | ((with_reducible refine gate_callee (f := 100) rfl ?_); refine goesL_ (some 17) rfl rfl Tryz.func100 (by kernel_rfl) rfl #[.string (rdOf ByteArray.empty t189 0)] rfl sqA ?_; (with_reducible refine (spec_l1Digits.calls k (rdOf ByteArray.empty t189 0) t193 true _ A4.out).mono ?_); rintro e w' ⟨rfl, ⟨nd, rfl⟩⟩; refine ⟨_, rfl, ?_⟩; (try (rw [drewN_self w21]; generalize hq_ : World.drewN w21 _ = w21; have n0_ : Aside0 (Kd.R Kd.string 9 w21 w.heap.size (fun _ => True) (.slice (some ad192) t189.length co22) t189) := ⟨Z65 HO191⟩; have n1_ : Aside0 (w21.heap[gb188]? = some (.cells #[.int .i64 0, .int .i64 0] 31 (0, 0))) := ⟨Z59 BK188⟩; have n2_ : Aside0 (Below w.heap.size w w21) := ⟨Z66 GE188⟩; clear HO191 BK188 HB hq_; have HO191 := n0_; have BK188 := n1_; have HB := n2_; clear n0_ n1_ n2_)); have p195 : 0 ≤ (1 : Int) := (by omega); have q195 : 1 < (t189.length : Int) := of_decide_eq_true Z2; obtain ⟨ad195, e195, hx195_0⟩ := Kd.at_string (Kd.R_reads' HO191.out).2.2 1 p195 q195; obtain rfl : ad192 = ad195 := (by injection e195); (try simp only [show (1 : Int).toNat = 1 from rfl, Nat.reduceMul, Nat.reduceEqDiff, Go.Addr.add, ↓reduceIte] at hx195_0); have qi195 : (1 < t189.length) = True := eq_true (by omega); (try rw [show ((1 : Int)).toNat = 1 from rfl] at hx195_0); replace p195 := eq_true p195; replace q195 := eq_true q195) | ((with_reducible refine gate_callee (f := 100) rfl ?_); refine goesL_ (some 27) rfl rfl Tryz.func100 (by kernel_rfl) rfl #[.string (rdOf ByteArray.empty t189 1)] rfl sqA ?_; (with_reducible refine (spec_l1Digits.calls k (rdOf ByteArray.empty t189 1) t196 true _ A7.out).mono ?_); rintro e w' ⟨rfl, ⟨nd, rfl⟩⟩; refine ⟨_, rfl, ?_⟩; (try (rw [drewN_self w21]; generalize hq_ : World.drewN w21 _ = w21; have n0_ : Aside0 (Kd.R Kd.string 9 w21 w.heap.size (fun _ => True) (.slice (some ad192) t189.length co22) t189) := ⟨Z65 HO191⟩; have n1_ : Aside0 (w21.heap[gb188]? = some (.cells #[.int .i64 0, .int .i64 0] 31 (0, 0))) := ⟨Z59 BK188⟩; have n2_ : Aside0 (Below w.heap.size w w21) := ⟨Z66 GE188⟩; clear HO191 BK188 HB hq_; have HO191 := n0_; have BK188 := n1_; have HB := n2_; clear n0_ n1_ n2_))) | ((with_reducible refine gate_dst (N := 10) rfl ?_); (try (refine gate_guard (by rfl) ?_; dsimp only)); refine sqBox (N := 10) (cs := #[.int .i64 0, .int .i64 0]) (t := 31) ?_; intro gb198 hg w23 BK198 hb; replace HO191 := sqU HO191 hb; have GW198 := Aside0.mk ((sqG hg (sqB1 HB GE188))); have GE198 := GW198; replace HB := sqS (sqB1 HB GE188) hb; obtain ⟨NB188_198, NB198_188⟩ := sqM hg BK188; replace BK188 := sqT BK188 hb; clear hb hg; have hnb24 := NB198_188.out; have hnc24 := NB188_198.out; obtain ⟨hcz25_0, hcz25_1, hfz25_0, hfz25_1⟩ := sqY2 BK198) | (go_at_call 89; (with_reducible refine (spec_FractionText.calls k t193 t196 t199 _ A18.out).mono ?_); rintro e w26 ⟨rfl, hb⟩; replace HO191 := Aside0.mk (Kd.R_below (Z68 HO191 BK198) hb); replace BK188 := Aside0.mk (blk_below (g := gb188) (o := .cells #[.int .i64 0, .int .i64 0] 31 (0, 0)) (Z14 NB188_198 BK188) hb); replace BK198 := Aside0.mk (blk_below (g := gb198) (o := .cells #[.int .i64 t193, .int .i64 t196] 31 (0, 0)) (Z69 BK198) hb); replace HB := sqS (sqB2 HB GE188 GE198) hb; (try clear hb); obtain ⟨hcz27_0, hcz27_1, hfz27_0, hfz27_1⟩ := sqY2 BK198; obtain ⟨hcz28_0, hcz28_1, hfz28_0, hfz28_1⟩ := sqY2 BK188))
      refine bodyPost_ret (results_ct rfl _ _ gb188 31 #[.int .i64 t193, .int .i64 t196] (0, 0) _ rfl (Z69 BK188) Tryz.underlying31 rfl (by kernel_rfl)) rfl ?_
      exact ⟨Z3, sqB2 HB GE188 GE198⟩
     ·rw [if_neg c19] at H
      have c19b0 : (t199.toList == a0.toList) = false := beq_eq_false_iff_ne.mpr c19
      have c19b1 : (t199.toList != a0.toList) = true := bne_iff_ne.mpr c19
      obtain ⟨rfl, rfl, rfl⟩ := sqO3 H
      go_enter Tryz.func107, Tryz.ntmps107
      go_wp2_with (first | ((with_reducible refine gate_dst (N := 2) rfl ?_); (try (refine gate_guard (by rfl) ?_; dsimp only)); refine sqBox (N := 2) (cs := #[.int .i64 0, .int .i64 0]) (t := 31) ?_; intro gb188 hg w29 BK188 hb; have GW188 := Aside0.mk ((sqG hg (sqB HB))); have GE188 := GW188; replace HB := sqS (sqB HB) hb; clear hb hg) | ((with_reducible refine gate_callee (f := 99) rfl ?_); refine goesL_ (some 12) rfl rfl Tryz.func99 (by kernel_rfl) rfl #[.string a0, .int .u8 47] rfl sqA ?_; (with_reducible refine (spec_l1Cut.calls k a0 47 t189 _ A2.out).mono ?_); rintro e w30 ⟨v190, rfl, ho0, hb⟩; refine ⟨_, rfl, ?_⟩; have HO191 := sqL ho0 (sqB1 HB GE188); replace BK188 := sqT BK188 hb; replace HB := sqS (sqB1 HB GE188) hb; (try clear hb); (try clear ho0); obtain ⟨Ao31, co31, eo31⟩ := Kd.R_slice HO191.out; subst eo31; have p192 : 0 ≤ (0 : Int) := (by omega); have q192 : 0 < (t189.length : Int) := of_decide_eq_true Z2; obtain ⟨ad192, e192, hx192_0⟩ := Kd.at_string (Kd.R_reads' HO191.out).2.2 0 p192 q192; cases e192; have qi192 : (0 < t189.length) = True := eq_true (by omega); (try rw [show ((0 : Int)).toNat = 0 from rfl] at hx192_0); (try rw [Addr.add_zero'] at hx192_0); replace p192 := eq_true p192; replace q192 := eq_true q192) | ((with_reducible refine gate_callee (f := 100) rfl ?_); refine goesL_ (some 17) rfl rfl Tryz.func100 (by kernel_rfl) rfl #[.string (rdOf ByteArray.empty t189 0)] rfl sqA ?_; (with_reducible refine (spec_l1Digits.calls k (rdOf ByteArray.empty t189 0) t193 true _ A4.out).mono ?_); rintro e w' ⟨rfl, ⟨nd, rfl⟩⟩; refine ⟨_, rfl, ?_⟩; (try (rw [drewN_self w30]; generalize hq_ : World.drewN w30 _ = w30; have n0_ : Aside0 (Kd.R Kd.string 9 w30 w.heap.size (fun _ => True) (.slice (some ad192) t189.length co31) t189) := ⟨Z65 HO191⟩; have n1_ : Aside0 (w30.heap[gb188]? = some (.cells #[.int .i64 0, .int .i64 0] 31 (0, 0))) := ⟨Z59 BK188⟩; have n2_ : Aside0 (Below w.heap.size w w30) := ⟨Z66 GE188⟩; clear HO191 BK188 HB hq_; have HO191 := n0_; have BK188 := n1_; have HB := n2_; clear n0_ n1_ n2_)); have p195 : 0 ≤ (1 : Int) := (by omega); have q195 : 1 < (t189.length : Int) := of_decide_eq_true Z2; obtain ⟨ad195, e195, hx195_0⟩ := Kd.at_string (Kd.R_reads' HO191.out).2.2 1 p195 q195; obtain rfl : ad192 = ad195 := (by injection e195); (try simp only [show (1 : Int).toNat = 1 from rfl, Nat.reduceMul, Nat.reduceEqDiff, Go.Addr.add, ↓reduceIte] at hx195_0); have qi195 : (1 < t189.length) = True := eq_true (by omega); (try rw [show ((1 : Int)).toNat = 1 from rfl] at hx195_0); replace p195 := eq_true p195; replace q195 := eq_true q195) | ((with_reducible refine gate_callee (f := 100) rfl ?_); refine goesL_ (some 27) rfl rfl Tryz.func100 (by kernel_rfl) rfl #[.string (rdOf ByteArray.empty t189 1)] rfl sqA ?_; (with_reducible refine (spec_l1Digits.calls k (rdOf ByteArray.empty t189 1) t196 true _ A7.out).mono ?_); rintro e w' ⟨rfl, ⟨nd, rfl⟩⟩; refine ⟨_, rfl, ?_⟩; (try (rw [drewN_self w30]; generalize hq_ : World.drewN w30 _ = w30; have n0_ : Aside0 (Kd.R Kd.string 9 w30 w.heap.size (fun _ => True) (.slice (some ad192) t189.length co31) t189) := ⟨Z65 HO191⟩; have n1_ : Aside0 (w30.heap[gb188]? = some (.cells #[.int .i64 0, .int .i64 0] 31 (0, 0))) := ⟨Z59 BK188⟩; have n2_ : Aside0 (Below w.heap.size w w30) := ⟨Z66 GE188⟩; clear HO191 BK188 HB hq_; have HO191 := n0_; have BK188 := n1_; have HB := n2_; clear n0_ n1_ n2_))) | ((with_reducible refine gate_dst (N := 10) rfl ?_); (try (refine gate_guard (by rfl) ?_; dsimp only)); refine sqBox (N := 10) (cs := #[.int .i64 0, .int .i64 0]) (t := 31) ?_; intro gb198 hg w32 BK198 hb; replace HO191 := sqU HO191 hb; have GW198 := Aside0.mk ((sqG hg (sqB1 HB GE188))); have GE198 := GW198; replace HB := sqS (sqB1 HB GE188) hb; obtain ⟨NB188_198, NB198_188⟩ := sqM hg BK188; replace BK188 := sqT BK188 hb; clear hb hg; have hnb33 := NB198_188.out; have hnc33 := NB188_198.out; obtain ⟨hcz34_0, hcz34_1, hfz34_0, hfz34_1⟩ := sqY2 BK198) | (go_at_call 89; (with_reducible refine (spec_FractionText.calls k t193 t196 t199 _ A18.out).mono ?_); rintro e w35 ⟨rfl, hb⟩; replace HO191 := Aside0.mk (Kd.R_below (Z68 HO191 BK198) hb); replace BK188 := Aside0.mk (blk_below (g := gb188) (o := .cells #[.int .i64 0, .int .i64 0] 31 (0, 0)) (Z14 NB188_198 BK188) hb); replace BK198 := Aside0.mk (blk_below (g := gb198) (o := .cells #[.int .i64 t193, .int .i64 t196] 31 (0, 0)) (Z69 BK198) hb); replace HB := sqS (sqB2 HB GE188 GE198) hb; (try clear hb); obtain ⟨hcz36_0, hcz36_1, hfz36_0, hfz36_1⟩ := sqY2 BK188))
      refine bodyPost_ret (results_ct rfl _ _ gb188 31 #[.int .i64 0, .int .i64 0] (0, 0) _ rfl (Z11 BK188) Tryz.underlying31 rfl (by kernel_rfl)) rfl ?_
      exact ⟨Z3, sqB2 HB GE188 GE198⟩
   ·replace c9 := Bool.eq_false_iff.mpr c9
    subst c9
    rw [if_neg sqF] at H
    obtain ⟨rfl, rfl, rfl⟩ := sqO3 H
    go_enter Tryz.func107, Tryz.ntmps107
    go_wp2_with (first | ((with_reducible refine gate_dst (N := 2) rfl ?_); (try (refine gate_guard (by rfl) ?_; dsimp only)); refine sqBox (N := 2) (cs := #[.int .i64 0, .int .i64 0]) (t := 31) ?_; intro gb188 hg w37 BK188 hb; have GW188 := Aside0.mk ((sqG hg (sqB HB))); have GE188 := GW188; replace HB := sqS (sqB HB) hb; clear hb hg) | ((with_reducible refine gate_callee (f := 99) rfl ?_); refine goesL_ (some 12) rfl rfl Tryz.func99 (by kernel_rfl) rfl #[.string a0, .int .u8 47] rfl sqA ?_; (with_reducible refine (spec_l1Cut.calls k a0 47 t189 _ A2.out).mono ?_); rintro e w38 ⟨v190, rfl, ho0, hb⟩; refine ⟨_, rfl, ?_⟩; have HO191 := sqL ho0 (sqB1 HB GE188); replace BK188 := sqT BK188 hb; replace HB := sqS (sqB1 HB GE188) hb; (try clear hb); (try clear ho0); obtain ⟨Ao39, co39, eo39⟩ := Kd.R_slice HO191.out; subst eo39; have p192 : 0 ≤ (0 : Int) := (by omega); have q192 : 0 < (t189.length : Int) := of_decide_eq_true Z2; obtain ⟨ad192, e192, hx192_0⟩ := Kd.at_string (Kd.R_reads' HO191.out).2.2 0 p192 q192; cases e192; have qi192 : (0 < t189.length) = True := eq_true (by omega); (try rw [show ((0 : Int)).toNat = 0 from rfl] at hx192_0); (try rw [Addr.add_zero'] at hx192_0); replace p192 := eq_true p192; replace q192 := eq_true q192) | ((with_reducible refine gate_callee (f := 100) rfl ?_); refine goesL_ (some 17) rfl rfl Tryz.func100 (by kernel_rfl) rfl #[.string (rdOf ByteArray.empty t189 0)] rfl sqA ?_; (with_reducible refine (spec_l1Digits.calls k (rdOf ByteArray.empty t189 0) t193 true _ A4.out).mono ?_); rintro e w' ⟨rfl, ⟨nd, rfl⟩⟩; refine ⟨_, rfl, ?_⟩; (try (rw [drewN_self w38]; generalize hq_ : World.drewN w38 _ = w38; have n0_ : Aside0 (Kd.R Kd.string 9 w38 w.heap.size (fun _ => True) (.slice (some ad192) t189.length co39) t189) := ⟨Z65 HO191⟩; have n1_ : Aside0 (w38.heap[gb188]? = some (.cells #[.int .i64 0, .int .i64 0] 31 (0, 0))) := ⟨Z59 BK188⟩; have n2_ : Aside0 (Below w.heap.size w w38) := ⟨Z66 GE188⟩; clear HO191 BK188 HB hq_; have HO191 := n0_; have BK188 := n1_; have HB := n2_; clear n0_ n1_ n2_)); have p195 : 0 ≤ (1 : Int) := (by omega); have q195 : 1 < (t189.length : Int) := of_decide_eq_true Z2; obtain ⟨ad195, e195, hx195_0⟩ := Kd.at_string (Kd.R_reads' HO191.out).2.2 1 p195 q195; obtain rfl : ad192 = ad195 := (by injection e195); (try simp only [show (1 : Int).toNat = 1 from rfl, Nat.reduceMul, Nat.reduceEqDiff, Go.Addr.add, ↓reduceIte] at hx195_0); have qi195 : (1 < t189.length) = True := eq_true (by omega); (try rw [show ((1 : Int)).toNat = 1 from rfl] at hx195_0); replace p195 := eq_true p195; replace q195 := eq_true q195) | ((with_reducible refine gate_callee (f := 100) rfl ?_); refine goesL_ (some 27) rfl rfl Tryz.func100 (by kernel_rfl) rfl #[.string (rdOf ByteArray.empty t189 1)] rfl sqA ?_; (with_reducible refine (spec_l1Digits.calls k (rdOf ByteArray.empty t189 1) t196 false _ A7.out).mono ?_); rintro e w' ⟨rfl, ⟨nd, rfl⟩⟩; refine ⟨_, rfl, ?_⟩; (try (rw [drewN_self w38]; generalize hq_ : World.drewN w38 _ = w38; have n0_ : Aside0 (Kd.R Kd.string 9 w38 w.heap.size (fun _ => True) (.slice (some ad192) t189.length co39) t189) := ⟨Z65 HO191⟩; have n1_ : Aside0 (w38.heap[gb188]? = some (.cells #[.int .i64 0, .int .i64 0] 31 (0, 0))) := ⟨Z59 BK188⟩; have n2_ : Aside0 (Below w.heap.size w w38) := ⟨Z66 GE188⟩; clear HO191 BK188 HB hq_; have HO191 := n0_; have BK188 := n1_; have HB := n2_; clear n0_ n1_ n2_))) | ((with_reducible refine gate_dst (N := 10) rfl ?_); (try (refine gate_guard (by rfl) ?_; dsimp only)); refine sqBox (N := 10) (cs := #[.int .i64 0, .int .i64 0]) (t := 31) ?_; intro gb198 hg w40 BK198 hb; replace HO191 := sqU HO191 hb; have GW198 := Aside0.mk ((sqG hg (sqB1 HB GE188))); have GE198 := GW198; replace HB := sqS (sqB1 HB GE188) hb; obtain ⟨NB188_198, NB198_188⟩ := sqM hg BK188; replace BK188 := sqT BK188 hb; clear hb hg; have hnb41 := NB198_188.out; have hnc41 := NB188_198.out; obtain ⟨hcz42_0, hcz42_1, hfz42_0, hfz42_1⟩ := sqY2 BK198; obtain ⟨hcz43_0, hcz43_1, hfz43_0, hfz43_1⟩ := sqY2 BK188))
    refine bodyPost_ret (results_ct rfl _ _ gb188 31 #[.int .i64 0, .int .i64 0] (0, 0) _ rfl (Z67 NB188_198 BK188) Tryz.underlying31 rfl (by kernel_rfl)) rfl ?_
    exact ⟨Z3, sqB2 HB GE188 GE198⟩
  ·replace c8 := Bool.eq_false_iff.mpr c8
   subst c8
   rw [if_neg sqF] at H
   obtain ⟨rfl, rfl, rfl⟩ := sqO3 H
   go_enter Tryz.func107, Tryz.ntmps107
   go_wp2_with (first | ((with_reducible refine gate_dst (N := 2) rfl ?_); (try (refine gate_guard (by rfl) ?_; dsimp only)); refine sqBox (N := 2) (cs := #[.int .i64 0, .int .i64 0]) (t := 31) ?_; intro gb188 hg w44 BK188 hb; have GW188 := Aside0.mk ((sqG hg (sqB HB))); have GE188 := GW188; replace HB := sqS (sqB HB) hb; clear hb hg) | ((with_reducible refine gate_callee (f := 99) rfl ?_); refine goesL_ (some 12) rfl rfl Tryz.func99 (by kernel_rfl) rfl #[.string a0, .int .u8 47] rfl sqA ?_; (with_reducible refine (spec_l1Cut.calls k a0 47 t189 _ A2.out).mono ?_); rintro e w45 ⟨v190, rfl, ho0, hb⟩; refine ⟨_, rfl, ?_⟩; have HO191 := sqL ho0 (sqB1 HB GE188); replace BK188 := sqT BK188 hb; replace HB := sqS (sqB1 HB GE188) hb; (try clear hb); (try clear ho0); obtain ⟨Ao46, co46, eo46⟩ := Kd.R_slice HO191.out; subst eo46; have p192 : 0 ≤ (0 : Int) := (by omega); have q192 : 0 < (t189.length : Int) := of_decide_eq_true Z2; obtain ⟨ad192, e192, hx192_0⟩ := Kd.at_string (Kd.R_reads' HO191.out).2.2 0 p192 q192; cases e192; have qi192 : (0 < t189.length) = True := eq_true (by omega); (try rw [show ((0 : Int)).toNat = 0 from rfl] at hx192_0); (try rw [Addr.add_zero'] at hx192_0); replace p192 := eq_true p192; replace q192 := eq_true q192) | ((with_reducible refine gate_callee (f := 100) rfl ?_); refine goesL_ (some 17) rfl rfl Tryz.func100 (by kernel_rfl) rfl #[.string (rdOf ByteArray.empty t189 0)] rfl sqA ?_; (with_reducible refine (spec_l1Digits.calls k (rdOf ByteArray.empty t189 0) t193 false _ A4.out).mono ?_); rintro e w' ⟨rfl, ⟨nd, rfl⟩⟩; refine ⟨_, rfl, ?_⟩; (try (rw [drewN_self w45]; generalize hq_ : World.drewN w45 _ = w45; have n0_ : Aside0 (Kd.R Kd.string 9 w45 w.heap.size (fun _ => True) (.slice (some ad192) t189.length co46) t189) := ⟨Z65 HO191⟩; have n1_ : Aside0 (w45.heap[gb188]? = some (.cells #[.int .i64 0, .int .i64 0] 31 (0, 0))) := ⟨Z59 BK188⟩; have n2_ : Aside0 (Below w.heap.size w w45) := ⟨Z66 GE188⟩; clear HO191 BK188 HB hq_; have HO191 := n0_; have BK188 := n1_; have HB := n2_; clear n0_ n1_ n2_)); have p195 : 0 ≤ (1 : Int) := (by omega); have q195 : 1 < (t189.length : Int) := of_decide_eq_true Z2; obtain ⟨ad195, e195, hx195_0⟩ := Kd.at_string (Kd.R_reads' HO191.out).2.2 1 p195 q195; obtain rfl : ad192 = ad195 := (by injection e195); (try simp only [show (1 : Int).toNat = 1 from rfl, Nat.reduceMul, Nat.reduceEqDiff, Go.Addr.add, ↓reduceIte] at hx195_0); have qi195 : (1 < t189.length) = True := eq_true (by omega); (try rw [show ((1 : Int)).toNat = 1 from rfl] at hx195_0); replace p195 := eq_true p195; replace q195 := eq_true q195) | ((with_reducible refine gate_callee (f := 100) rfl ?_); refine goesL_ (some 27) rfl rfl Tryz.func100 (by kernel_rfl) rfl #[.string (rdOf ByteArray.empty t189 1)] rfl sqA ?_; (with_reducible refine (spec_l1Digits.calls k (rdOf ByteArray.empty t189 1) t196 t197 _ A7.out).mono ?_); rintro e w' ⟨rfl, ⟨nd, rfl⟩⟩; refine ⟨_, rfl, ?_⟩; (try (rw [drewN_self w45]; generalize hq_ : World.drewN w45 _ = w45; have n0_ : Aside0 (Kd.R Kd.string 9 w45 w.heap.size (fun _ => True) (.slice (some ad192) t189.length co46) t189) := ⟨Z65 HO191⟩; have n1_ : Aside0 (w45.heap[gb188]? = some (.cells #[.int .i64 0, .int .i64 0] 31 (0, 0))) := ⟨Z59 BK188⟩; have n2_ : Aside0 (Below w.heap.size w w45) := ⟨Z66 GE188⟩; clear HO191 BK188 HB hq_; have HO191 := n0_; have BK188 := n1_; have HB := n2_; clear n0_ n1_ n2_))) | ((with_reducible refine gate_dst (N := 10) rfl ?_); (try (refine gate_guard (by rfl) ?_; dsimp only)); refine sqBox (N := 10) (cs := #[.int .i64 0, .int .i64 0]) (t := 31) ?_; intro gb200 hg w47 BK200 hb; replace HO191 := sqU HO191 hb; have GW200 := Aside0.mk ((sqG hg (sqB1 HB GE188))); have GE200 := GW200; replace HB := sqS (sqB1 HB GE188) hb; obtain ⟨NB188_200, NB200_188⟩ := sqM hg BK188; replace BK188 := sqT BK188 hb; clear hb hg; have hnb48 := NB200_188.out; have hnc48 := NB188_200.out; obtain ⟨hcz49_0, hcz49_1, hfz49_0, hfz49_1⟩ := sqY2 BK200; obtain ⟨hcz50_0, hcz50_1, hfz50_0, hfz50_1⟩ := sqY2 BK188))
   refine bodyPost_ret (results_ct rfl _ _ gb188 31 #[.int .i64 0, .int .i64 0] (0, 0) _ rfl (Z67 NB188_200 BK188) Tryz.underlying31 rfl (by kernel_rfl)) rfl ?_
   exact ⟨Z3, sqB2 HB GE188 GE200⟩
 ·rw [if_neg c5] at H
  have c5b0 : ((t189.length : Int) == 2) = false := beq_eq_false_iff_ne.mpr c5
  have c5b1 : ((t189.length : Int) != 2) = true := bne_iff_ne.mpr c5
  by_cases c51 : t194 = true
  ·subst c51
   rw [if_pos rfl] at H
   by_cases c52 : (t189.length : Int) > 2
   ·rw [if_pos c52] at H
    have c52b0 : decide (2 < (t189.length : Int)) = true := decide_eq_true c52
    have c52b1 : decide (2 < t189.length) = true := decide_eq_true (by omega)
    clear c52
    obtain ⟨rfl, rfl, rfl⟩ := sqO3 H
    go_enter Tryz.func107, Tryz.ntmps107
    go_wp2_with (first | ((with_reducible refine gate_dst (N := 2) rfl ?_); (try (refine gate_guard (by rfl) ?_; dsimp only)); refine sqBox (N := 2) (cs := #[.int .i64 0, .int .i64 0]) (t := 31) ?_; intro gb188 hg w53 BK188 hb; have GW188 := Aside0.mk ((sqG hg (sqB HB))); have GE188 := GW188; replace HB := sqS (sqB HB) hb; clear hb hg) | ((with_reducible refine gate_callee (f := 99) rfl ?_); refine goesL_ (some 12) rfl rfl Tryz.func99 (by kernel_rfl) rfl #[.string a0, .int .u8 47] rfl sqA ?_; (with_reducible refine (spec_l1Cut.calls k a0 47 t189 _ A2.out).mono ?_); rintro e w54 ⟨v190, rfl, ho0, hb⟩; refine ⟨_, rfl, ?_⟩; have HO191 := sqL ho0 (sqB1 HB GE188); replace BK188 := sqT BK188 hb; replace HB := sqS (sqB1 HB GE188) hb; (try clear hb); (try clear ho0); obtain ⟨Ao55, co55, eo55⟩ := Kd.R_slice HO191.out; subst eo55; have p192 : 0 ≤ (0 : Int) := (by omega); have q192 : 0 < (t189.length : Int) := of_decide_eq_true Z2; obtain ⟨ad192, e192, hx192_0⟩ := Kd.at_string (Kd.R_reads' HO191.out).2.2 0 p192 q192; cases e192; have qi192 : (0 < t189.length) = True := eq_true (by omega); (try rw [show ((0 : Int)).toNat = 0 from rfl] at hx192_0); (try rw [Addr.add_zero'] at hx192_0); replace p192 := eq_true p192; replace q192 := eq_true q192) | ((with_reducible refine gate_callee (f := 100) rfl ?_); refine goesL_ (some 17) rfl rfl Tryz.func100 (by kernel_rfl) rfl #[.string (rdOf ByteArray.empty t189 0)] rfl sqA ?_; (with_reducible refine (spec_l1Digits.calls k (rdOf ByteArray.empty t189 0) t193 true _ A4.out).mono ?_); rintro e w' ⟨rfl, ⟨nd, rfl⟩⟩; refine ⟨_, rfl, ?_⟩; (try (rw [drewN_self w54]; generalize hq_ : World.drewN w54 _ = w54; have n0_ : Aside0 (Kd.R Kd.string 9 w54 w.heap.size (fun _ => True) (.slice (some ad192) t189.length co55) t189) := ⟨Z65 HO191⟩; have n1_ : Aside0 (w54.heap[gb188]? = some (.cells #[.int .i64 0, .int .i64 0] 31 (0, 0))) := ⟨Z59 BK188⟩; have n2_ : Aside0 (Below w.heap.size w w54) := ⟨Z66 GE188⟩; clear HO191 BK188 HB hq_; have HO191 := n0_; have BK188 := n1_; have HB := n2_; clear n0_ n1_ n2_))) | ((with_reducible refine gate_dst (N := 10) rfl ?_); (try (refine gate_guard (by rfl) ?_; dsimp only)); refine sqBox (N := 10) (cs := #[.int .i64 0, .int .i64 0]) (t := 31) ?_; intro gb201 hg w56 BK201 hb; replace HO191 := sqU HO191 hb; have GW201 := Aside0.mk ((sqG hg (sqB1 HB GE188))); have GE201 := GW201; replace HB := sqS (sqB1 HB GE188) hb; obtain ⟨NB188_201, NB201_188⟩ := sqM hg BK188; replace BK188 := sqT BK188 hb; clear hb hg; have hnb57 := NB201_188.out; have hnc57 := NB188_201.out; obtain ⟨hcz58_0, hcz58_1, hfz58_0, hfz58_1⟩ := sqY2 BK201; obtain ⟨hcz59_0, hcz59_1, hfz59_0, hfz59_1⟩ := sqY2 BK188))
    refine bodyPost_ret (results_ct rfl _ _ gb188 31 #[.int .i64 0, .int .i64 0] (0, 0) _ rfl (Z67 NB188_201 BK188) Tryz.underlying31 rfl (by kernel_rfl)) rfl ?_
    exact ⟨Z3, sqB2 HB GE188 GE201⟩
   ·rw [if_neg c52] at H
    have c52b0 : decide (2 < (t189.length : Int)) = false := decide_eq_false c52
    have c52b1 : decide (2 < t189.length) = false := decide_eq_false (by omega)
    clear c52
    obtain ⟨t202, A60, H⟩ := sqD H
    by_cases c61 : t202.toList = a0.toList
    ·rw [if_pos c61] at H
     have c61b0 : (t202.toList == a0.toList) = true := beq_iff_eq.mpr c61
     have c61b1 : (t202.toList != a0.toList) = false := bne_eq_false_iff_eq.mpr c61
     clear c61
     obtain ⟨rfl, rfl, rfl⟩ := sqO3 H
     go_enter Tryz.func107, Tryz.ntmps107
     go_wp2_with (first | ((with_reducible refine gate_dst (N := 2) rfl ?_); (try (refine gate_guard (by rfl) ?_; dsimp only)); refine sqBox (N := 2) (cs := #[.int .i64 0, .int .i64 0]) (t := 31) ?_; intro gb188 hg w62 BK188 hb; have GW188 := Aside0.mk ((sqG hg (sqB HB))); have GE188 := GW188; replace HB := sqS (sqB HB) hb; clear hb hg) | ((with_reducible refine gate_callee (f := 99) rfl ?_); refine goesL_ (some 12) rfl rfl Tryz.func99 (by kernel_rfl) rfl #[.string a0, .int .u8 47] rfl sqA ?_; (with_reducible refine (spec_l1Cut.calls k a0 47 t189 _ A2.out).mono ?_); rintro e w63 ⟨v190, rfl, ho0, hb⟩; refine ⟨_, rfl, ?_⟩; have HO191 := sqL ho0 (sqB1 HB GE188); replace BK188 := sqT BK188 hb; replace HB := sqS (sqB1 HB GE188) hb; (try clear hb); (try clear ho0); obtain ⟨Ao64, co64, eo64⟩ := Kd.R_slice HO191.out; subst eo64; have p192 : 0 ≤ (0 : Int) := (by omega); have q192 : 0 < (t189.length : Int) := of_decide_eq_true Z2; obtain ⟨ad192, e192, hx192_0⟩ := Kd.at_string (Kd.R_reads' HO191.out).2.2 0 p192 q192; cases e192; have qi192 : (0 < t189.length) = True := eq_true (by omega); (try rw [show ((0 : Int)).toNat = 0 from rfl] at hx192_0); (try rw [Addr.add_zero'] at hx192_0); replace p192 := eq_true p192; replace q192 := eq_true q192) | ((with_reducible refine gate_callee (f := 100) rfl ?_); refine goesL_ (some 17) rfl rfl Tryz.func100 (by kernel_rfl) rfl #[.string (rdOf ByteArray.empty t189 0)] rfl sqA ?_; (with_reducible refine (spec_l1Digits.calls k (rdOf ByteArray.empty t189 0) t193 true _ A4.out).mono ?_); rintro e w' ⟨rfl, ⟨nd, rfl⟩⟩; refine ⟨_, rfl, ?_⟩; (try (rw [drewN_self w63]; generalize hq_ : World.drewN w63 _ = w63; have n0_ : Aside0 (Kd.R Kd.string 9 w63 w.heap.size (fun _ => True) (.slice (some ad192) t189.length co64) t189) := ⟨Z65 HO191⟩; have n1_ : Aside0 (w63.heap[gb188]? = some (.cells #[.int .i64 0, .int .i64 0] 31 (0, 0))) := ⟨Z59 BK188⟩; have n2_ : Aside0 (Below w.heap.size w w63) := ⟨Z66 GE188⟩; clear HO191 BK188 HB hq_; have HO191 := n0_; have BK188 := n1_; have HB := n2_; clear n0_ n1_ n2_))) | ((with_reducible refine gate_dst (N := 10) rfl ?_); (try (refine gate_guard (by rfl) ?_; dsimp only)); refine sqBox (N := 10) (cs := #[.int .i64 0, .int .i64 0]) (t := 31) ?_; intro gb201 hg w65 BK201 hb; replace HO191 := sqU HO191 hb; have GW201 := Aside0.mk ((sqG hg (sqB1 HB GE188))); have GE201 := GW201; replace HB := sqS (sqB1 HB GE188) hb; obtain ⟨NB188_201, NB201_188⟩ := sqM hg BK188; replace BK188 := sqT BK188 hb; clear hb hg; have hnb66 := NB201_188.out; have hnc66 := NB188_201.out; obtain ⟨hcz67_0, hcz67_1, hfz67_0, hfz67_1⟩ := sqY2 BK201) | (go_at_call 89; (with_reducible refine (spec_FractionText.calls k t193 1 t202 _ A60.out).mono ?_); rintro e w68 ⟨rfl, hb⟩; replace HO191 := Aside0.mk (Kd.R_below (Z70 HO191 BK201) hb); replace BK188 := Aside0.mk (blk_below (g := gb188) (o := .cells #[.int .i64 0, .int .i64 0] 31 (0, 0)) (Z14 NB188_201 BK188) hb); replace BK201 := Aside0.mk (blk_below (g := gb201) (o := .cells #[.int .i64 t193, .int .i64 1] 31 (0, 0)) (Z69 BK201) hb); replace HB := sqS (sqB2 HB GE188 GE201) hb; (try clear hb); obtain ⟨hcz69_0, hcz69_1, hfz69_0, hfz69_1⟩ := sqY2 BK201; obtain ⟨hcz70_0, hcz70_1, hfz70_0, hfz70_1⟩ := sqY2 BK188))
     refine bodyPost_ret (results_ct rfl _ _ gb188 31 #[.int .i64 t193, .int .i64 1] (0, 0) _ rfl (Z69 BK188) Tryz.underlying31 rfl (by kernel_rfl)) rfl ?_
     exact ⟨Z3, sqB2 HB GE188 GE201⟩
    ·rw [if_neg c61] at H
     have c61b0 : (t202.toList == a0.toList) = false := beq_eq_false_iff_ne.mpr c61
     have c61b1 : (t202.toList != a0.toList) = true := bne_iff_ne.mpr c61
     obtain ⟨rfl, rfl, rfl⟩ := sqO3 H
     go_enter Tryz.func107, Tryz.ntmps107
     go_wp2_with (first | ((with_reducible refine gate_dst (N := 2) rfl ?_); (try (refine gate_guard (by rfl) ?_; dsimp only)); refine sqBox (N := 2) (cs := #[.int .i64 0, .int .i64 0]) (t := 31) ?_; intro gb188 hg w71 BK188 hb; have GW188 := Aside0.mk ((sqG hg (sqB HB))); have GE188 := GW188; replace HB := sqS (sqB HB) hb; clear hb hg) | ((with_reducible refine gate_callee (f := 99) rfl ?_); refine goesL_ (some 12) rfl rfl Tryz.func99 (by kernel_rfl) rfl #[.string a0, .int .u8 47] rfl sqA ?_; (with_reducible refine (spec_l1Cut.calls k a0 47 t189 _ A2.out).mono ?_); rintro e w72 ⟨v190, rfl, ho0, hb⟩; refine ⟨_, rfl, ?_⟩; have HO191 := sqL ho0 (sqB1 HB GE188); replace BK188 := sqT BK188 hb; replace HB := sqS (sqB1 HB GE188) hb; (try clear hb); (try clear ho0); obtain ⟨Ao73, co73, eo73⟩ := Kd.R_slice HO191.out; subst eo73; have p192 : 0 ≤ (0 : Int) := (by omega); have q192 : 0 < (t189.length : Int) := of_decide_eq_true Z2; obtain ⟨ad192, e192, hx192_0⟩ := Kd.at_string (Kd.R_reads' HO191.out).2.2 0 p192 q192; cases e192; have qi192 : (0 < t189.length) = True := eq_true (by omega); (try rw [show ((0 : Int)).toNat = 0 from rfl] at hx192_0); (try rw [Addr.add_zero'] at hx192_0); replace p192 := eq_true p192; replace q192 := eq_true q192) | ((with_reducible refine gate_callee (f := 100) rfl ?_); refine goesL_ (some 17) rfl rfl Tryz.func100 (by kernel_rfl) rfl #[.string (rdOf ByteArray.empty t189 0)] rfl sqA ?_; (with_reducible refine (spec_l1Digits.calls k (rdOf ByteArray.empty t189 0) t193 true _ A4.out).mono ?_); rintro e w' ⟨rfl, ⟨nd, rfl⟩⟩; refine ⟨_, rfl, ?_⟩; (try (rw [drewN_self w72]; generalize hq_ : World.drewN w72 _ = w72; have n0_ : Aside0 (Kd.R Kd.string 9 w72 w.heap.size (fun _ => True) (.slice (some ad192) t189.length co73) t189) := ⟨Z65 HO191⟩; have n1_ : Aside0 (w72.heap[gb188]? = some (.cells #[.int .i64 0, .int .i64 0] 31 (0, 0))) := ⟨Z59 BK188⟩; have n2_ : Aside0 (Below w.heap.size w w72) := ⟨Z66 GE188⟩; clear HO191 BK188 HB hq_; have HO191 := n0_; have BK188 := n1_; have HB := n2_; clear n0_ n1_ n2_))) | ((with_reducible refine gate_dst (N := 10) rfl ?_); (try (refine gate_guard (by rfl) ?_; dsimp only)); refine sqBox (N := 10) (cs := #[.int .i64 0, .int .i64 0]) (t := 31) ?_; intro gb201 hg w74 BK201 hb; replace HO191 := sqU HO191 hb; have GW201 := Aside0.mk ((sqG hg (sqB1 HB GE188))); have GE201 := GW201; replace HB := sqS (sqB1 HB GE188) hb; obtain ⟨NB188_201, NB201_188⟩ := sqM hg BK188; replace BK188 := sqT BK188 hb; clear hb hg; have hnb75 := NB201_188.out; have hnc75 := NB188_201.out; obtain ⟨hcz76_0, hcz76_1, hfz76_0, hfz76_1⟩ := sqY2 BK201) | (go_at_call 89; (with_reducible refine (spec_FractionText.calls k t193 1 t202 _ A60.out).mono ?_); rintro e w77 ⟨rfl, hb⟩; replace HO191 := Aside0.mk (Kd.R_below (Z70 HO191 BK201) hb); replace BK188 := Aside0.mk (blk_below (g := gb188) (o := .cells #[.int .i64 0, .int .i64 0] 31 (0, 0)) (Z14 NB188_201 BK188) hb); replace BK201 := Aside0.mk (blk_below (g := gb201) (o := .cells #[.int .i64 t193, .int .i64 1] 31 (0, 0)) (Z69 BK201) hb); replace HB := sqS (sqB2 HB GE188 GE201) hb; (try clear hb); obtain ⟨hcz78_0, hcz78_1, hfz78_0, hfz78_1⟩ := sqY2 BK188))
     refine bodyPost_ret (results_ct rfl _ _ gb188 31 #[.int .i64 0, .int .i64 0] (0, 0) _ rfl (Z11 BK188) Tryz.underlying31 rfl (by kernel_rfl)) rfl ?_
     exact ⟨Z3, sqB2 HB GE188 GE201⟩
  ·replace c51 := Bool.eq_false_iff.mpr c51
   subst c51
   rw [if_neg sqF] at H
   obtain ⟨rfl, rfl, rfl⟩ := sqO3 H
   go_enter Tryz.func107, Tryz.ntmps107
   go_wp2_with (first | ((with_reducible refine gate_dst (N := 2) rfl ?_); (try (refine gate_guard (by rfl) ?_; dsimp only)); refine sqBox (N := 2) (cs := #[.int .i64 0, .int .i64 0]) (t := 31) ?_; intro gb188 hg w79 BK188 hb; have GW188 := Aside0.mk ((sqG hg (sqB HB))); have GE188 := GW188; replace HB := sqS (sqB HB) hb; clear hb hg) | ((with_reducible refine gate_callee (f := 99) rfl ?_); refine goesL_ (some 12) rfl rfl Tryz.func99 (by kernel_rfl) rfl #[.string a0, .int .u8 47] rfl sqA ?_; (with_reducible refine (spec_l1Cut.calls k a0 47 t189 _ A2.out).mono ?_); rintro e w80 ⟨v190, rfl, ho0, hb⟩; refine ⟨_, rfl, ?_⟩; have HO191 := sqL ho0 (sqB1 HB GE188); replace BK188 := sqT BK188 hb; replace HB := sqS (sqB1 HB GE188) hb; (try clear hb); (try clear ho0); obtain ⟨Ao81, co81, eo81⟩ := Kd.R_slice HO191.out; subst eo81; have p192 : 0 ≤ (0 : Int) := (by omega); have q192 : 0 < (t189.length : Int) := of_decide_eq_true Z2; obtain ⟨ad192, e192, hx192_0⟩ := Kd.at_string (Kd.R_reads' HO191.out).2.2 0 p192 q192; cases e192; have qi192 : (0 < t189.length) = True := eq_true (by omega); (try rw [show ((0 : Int)).toNat = 0 from rfl] at hx192_0); (try rw [Addr.add_zero'] at hx192_0); replace p192 := eq_true p192; replace q192 := eq_true q192) | ((with_reducible refine gate_callee (f := 100) rfl ?_); refine goesL_ (some 17) rfl rfl Tryz.func100 (by kernel_rfl) rfl #[.string (rdOf ByteArray.empty t189 0)] rfl sqA ?_; (with_reducible refine (spec_l1Digits.calls k (rdOf ByteArray.empty t189 0) t193 false _ A4.out).mono ?_); rintro e w' ⟨rfl, ⟨nd, rfl⟩⟩; refine ⟨_, rfl, ?_⟩; (try (rw [drewN_self w80]; generalize hq_ : World.drewN w80 _ = w80; have n0_ : Aside0 (Kd.R Kd.string 9 w80 w.heap.size (fun _ => True) (.slice (some ad192) t189.length co81) t189) := ⟨Z65 HO191⟩; have n1_ : Aside0 (w80.heap[gb188]? = some (.cells #[.int .i64 0, .int .i64 0] 31 (0, 0))) := ⟨Z59 BK188⟩; have n2_ : Aside0 (Below w.heap.size w w80) := ⟨Z66 GE188⟩; clear HO191 BK188 HB hq_; have HO191 := n0_; have BK188 := n1_; have HB := n2_; clear n0_ n1_ n2_))) | ((with_reducible refine gate_dst (N := 10) rfl ?_); (try (refine gate_guard (by rfl) ?_; dsimp only)); refine sqBox (N := 10) (cs := #[.int .i64 0, .int .i64 0]) (t := 31) ?_; intro gb201 hg w82 BK201 hb; replace HO191 := sqU HO191 hb; have GW201 := Aside0.mk ((sqG hg (sqB1 HB GE188))); have GE201 := GW201; replace HB := sqS (sqB1 HB GE188) hb; obtain ⟨NB188_201, NB201_188⟩ := sqM hg BK188; replace BK188 := sqT BK188 hb; clear hb hg; have hnb83 := NB201_188.out; have hnc83 := NB188_201.out; obtain ⟨hcz84_0, hcz84_1, hfz84_0, hfz84_1⟩ := sqY2 BK201; obtain ⟨hcz85_0, hcz85_1, hfz85_0, hfz85_1⟩ := sqY2 BK188))
   refine bodyPost_ret (results_ct rfl _ _ gb188 31 #[.int .i64 0, .int .i64 0] (0, 0) _ rfl (Z67 NB188_201 BK188) Tryz.underlying31 rfl (by kernel_rfl)) rfl ?_
   exact ⟨Z3, sqB2 HB GE188 GE201⟩

/-! ### spec_MirrorOf: function 108 -/
def spec_MirrorOf.f (k : Nat) (a0_0 : Int) (a0_1 : Int) : Option (Int × Int) := (spec_FractionOk.f k a0_0 a0_1).bind fun t205 => (if t205 = true then ((spec_LowestOf.f k (wrap64 (-a0_0)) a0_1).bind fun bt206 => (some (bt206.1, bt206.2.1))) else (some (0, 0)))
theorem spec_MirrorOf.mono : ∀ a0 a1 k, LeO (spec_MirrorOf.f k a0 a1) (spec_MirrorOf.f (k + 1) a0 a1) := by
 intro a0 a1 k
 unfold spec_MirrorOf.f
 repeat' first
   | (with_reducible exact spec_FractionOk.mono _ _ _)
   | (with_reducible exact spec_LowestOf.mono _ _ _)
   | (with_reducible exact LeO.refl _)
   | (with_reducible exact LeO.none _)
   | (with_reducible refine LeO.ite ?_ ?_)
   | (with_reducible refine LeO.bind ?_ (fun _ => ?_))
set_option maxHeartbeats 8000000 in
set_option maxRecDepth 100000 in
theorem spec_MirrorOf.calls (k : Nat) (a0_0 : Int) (a0_1 : Int) (r1 : Int) (r2 : Int) (w : World) (h : spec_MirrorOf.f k a0_0 a0_1 = some (r1, r2)) :
  Calls Tryz.prog 108 #[.agg #[.int .i64 a0_0, .int .i64 a0_1]] w fun e w' => e = .returned (.agg #[.int .i64 r1, .int .i64 r2]) ∧ Below w.heap.size w w' := by
 have hu31 := Tryz.underlying31
 have HB := Aside0.mk (Below.refl w.heap.size w)
 have H : ((spec_FractionOk.f k a0_0 a0_1).bind fun t205 => (if t205 = true then ((spec_LowestOf.f k (wrap64 (-a0_0)) a0_1).bind fun bt206 => (some (bt206.1, bt206.2.1))) else (some (0, 0)))) = some (r1, r2) := h
 clear h
 obtain ⟨t205, A2, H⟩ := sqD H
 by_cases c3 : t205 = true
 ·subst c3
  rw [if_pos rfl] at H
  obtain ⟨⟨t206, t207, t208⟩, A4, H⟩ := sqD H
  try dsimp only at H
  obtain ⟨rfl, rfl⟩ := sqO2 H
  go_enter Tryz.func108, Tryz.ntmps108
  go_wp2_with (first | ((with_reducible refine gate_dst (N := 1) rfl ?_); refine sqBox (N := 1) (cs := #[.int .i64 a0_0, .int .i64 a0_1]) (t := 31) ?_; intro gb203 hg w5 BK203 hb; have GW203 := Aside0.mk ((sqG hg (sqB HB))); have GE203 := GW203; replace HB := sqS (sqB HB) hb; clear hb hg) | ((with_reducible refine gate_dst (N := 2) rfl ?_); refine sqBox (N := 2) (cs := #[.int .i64 0, .int .i64 0]) (t := 31) ?_; intro gb204 hg w6 BK204 hb; have GW204 := Aside0.mk ((sqG hg (sqB1 HB GE203))); have GE204 := GW204; replace HB := sqS (sqB1 HB GE203) hb; obtain ⟨NB203_204, NB204_203⟩ := sqM hg BK203; replace BK203 := sqT BK203 hb; clear hb hg; have hnb7 := NB203_204.out; have hnc7 := NB204_203.out; obtain ⟨hcz8_0, hcz8_1, hfz8_0, hfz8_1⟩ := sqY2 BK203) | ((with_reducible refine gate_callee (f := 77) rfl ?_); refine goesL_ (some 6) rfl rfl Tryz.func77 (by kernel_rfl) rfl #[.agg #[.int .i64 a0_0, .int .i64 a0_1]] rfl sqA ?_; (with_reducible refine (spec_FractionOk.calls k a0_0 a0_1 true _ A2.out).mono ?_); rintro e w9 ⟨rfl, hb⟩; refine ⟨_, rfl, ?_⟩; replace BK203 := sqT BK203 hb; replace BK204 := sqT BK204 hb; replace HB := sqS (sqB2 HB GE203 GE204) hb; (try clear hb); obtain ⟨hcz10_0, hcz10_1, hfz10_0, hfz10_1⟩ := sqY2 BK203) | ((with_reducible refine gate_callee (f := 136) rfl ?_); refine goesL_ (some 15) rfl rfl Tryz.func136 (by kernel_rfl) rfl #[.int .i64 (wrap64 (-a0_0)), .int .i64 a0_1] rfl sqA ?_; (with_reducible refine (spec_LowestOf.calls k (wrap64 (-a0_0)) a0_1 t206 t207 t208 _ A4.out).mono ?_); rintro e w11 ⟨rfl, hb⟩; refine ⟨_, rfl, ?_⟩; replace BK203 := sqT BK203 hb; replace BK204 := sqT BK204 hb; replace HB := sqS (sqB2 HB GE203 GE204) hb; (try clear hb)) | ((with_reducible refine gate_dst (N := 3) rfl ?_); refine sqBox (N := 3) (cs := #[.int .i64 0, .int .i64 0]) (t := 31) ?_; intro gb209 hg w12 BK209 hb; have GW209 := Aside0.mk ((sqG hg (sqB2 HB GE203 GE204))); have GE209 := GW209; replace HB := sqS (sqB2 HB GE203 GE204) hb; obtain ⟨NB203_209, NB209_203⟩ := sqM hg BK203; replace BK203 := sqT BK203 hb; obtain ⟨NB204_209, NB209_204⟩ := sqM hg BK204; replace BK204 := sqT BK204 hb; clear hb hg; have hnb13 := NB209_203.out; have hnc13 := NB203_209.out; have hnb14 := NB209_204.out; have hnc14 := NB204_209.out; obtain ⟨hcz15_0, hcz15_1, hfz15_0, hfz15_1⟩ := sqY2 BK209; obtain ⟨hcz16_0, hcz16_1, hfz16_0, hfz16_1⟩ := sqY2 BK204))
  refine bodyPost_ret (results_cell_row rfl _ _ gb204 31 #[.int .i64 t206, .int .i64 t207] (0, 0) _ rfl (by refine sqPut (cs := #[.int .i64 t206, .int .i64 0]) ?_ 1; refine sqPut (cs := #[.int .i64 0, .int .i64 0]) ?_ 0; refine sqFar ?_ NB204_209; refine sqFar ?_ NB204_209; exact sqK BK204) Tryz.underlying31 rfl (by kernel_rfl)) rfl ?_
  exact ⟨Z3, sqB3 HB GE203 GE204 GE209⟩
 ·replace c3 := Bool.eq_false_iff.mpr c3
  subst c3
  rw [if_neg sqF] at H
  obtain ⟨rfl, rfl⟩ := sqO2 H
  go_enter Tryz.func108, Tryz.ntmps108
  go_wp2_with (first | ((with_reducible refine gate_dst (N := 1) rfl ?_); refine sqBox (N := 1) (cs := #[.int .i64 a0_0, .int .i64 a0_1]) (t := 31) ?_; intro gb203 hg w17 BK203 hb; have GW203 := Aside0.mk ((sqG hg (sqB HB))); have GE203 := GW203; replace HB := sqS (sqB HB) hb; clear hb hg) | ((with_reducible refine gate_dst (N := 2) rfl ?_); refine sqBox (N := 2) (cs := #[.int .i64 0, .int .i64 0]) (t := 31) ?_; intro gb204 hg w18 BK204 hb; have GW204 := Aside0.mk ((sqG hg (sqB1 HB GE203))); have GE204 := GW204; replace HB := sqS (sqB1 HB GE203) hb; obtain ⟨NB203_204, NB204_203⟩ := sqM hg BK203; replace BK203 := sqT BK203 hb; clear hb hg; have hnb19 := NB203_204.out; have hnc19 := NB204_203.out; obtain ⟨hcz20_0, hcz20_1, hfz20_0, hfz20_1⟩ := sqY2 BK203) | ((with_reducible refine gate_callee (f := 77) rfl ?_); refine goesL_ (some 6) rfl rfl Tryz.func77 (by kernel_rfl) rfl #[.agg #[.int .i64 a0_0, .int .i64 a0_1]] rfl sqA ?_; (with_reducible refine (spec_FractionOk.calls k a0_0 a0_1 false _ A2.out).mono ?_); rintro e w21 ⟨rfl, hb⟩; refine ⟨_, rfl, ?_⟩; replace BK203 := sqT BK203 hb; replace BK204 := sqT BK204 hb; replace HB := sqS (sqB2 HB GE203 GE204) hb; (try clear hb); obtain ⟨hcz22_0, hcz22_1, hfz22_0, hfz22_1⟩ := sqY2 BK204))
  refine bodyPost_ret (results_cell_row rfl _ _ gb204 31 #[.int .i64 0, .int .i64 0] (0, 0) _ rfl (Z11 BK204) Tryz.underlying31 rfl (by kernel_rfl)) rfl ?_
  exact ⟨Z3, sqB2 HB GE203 GE204⟩

/-! ### spec_l11Made: function 57 -/
def spec_l11Made.f (k : Nat) (a0_0 : Int) (a0_1 : Int) (a1_0 : Int) (a1_1 : ByteArray) : Option (Int × Int × Bool) := if a1_0 = 0 then ((spec_DancedFrom.f k a0_0 a0_1 a1_1).bind fun bt213 => (some (bt213.1, bt213.2.1, bt213.2.2))) else (if a1_0 = 1 then ((spec_ReadFraction.f k a1_1).bind fun bt216 => (some (bt216.1, bt216.2.1, bt216.2.2))) else (if (a1_0 == 2 && (a1_1.toList == ([] : List UInt8))) = true then ((spec_MirrorOf.f k a0_0 a0_1).bind fun bt219 => (some (bt219.1, bt219.2, true))) else (if (a1_0 == 3 && (a1_1.toList == ([] : List UInt8))) = true then ((spec_UntiedOf.f k a0_0 a0_1).bind fun bt221 => (some (0, 1, bt221.2))) else (some (a0_0, a0_1, false)))))
theorem spec_l11Made.mono : ∀ a0 a1 a2 a3 k, LeO (spec_l11Made.f k a0 a1 a2 a3) (spec_l11Made.f (k + 1) a0 a1 a2 a3) := by
 intro a0 a1 a2 a3 k
 unfold spec_l11Made.f
 repeat' first
   | (with_reducible exact spec_DancedFrom.mono _ _ _ _)
   | (with_reducible exact spec_MirrorOf.mono _ _ _)
   | (with_reducible exact spec_ReadFraction.mono _ _)
   | (with_reducible exact spec_UntiedOf.mono _ _ _)
   | (with_reducible exact LeO.refl _)
   | (with_reducible exact LeO.none _)
   | (with_reducible refine LeO.ite ?_ ?_)
   | (with_reducible refine LeO.bind ?_ (fun _ => ?_))
set_option maxHeartbeats 8000000 in
set_option maxRecDepth 100000 in
theorem spec_l11Made.calls (k : Nat) (a0_0 : Int) (a0_1 : Int) (a1_0 : Int) (a1_1 : ByteArray) (r1 : Int) (r2 : Int) (r3 : Bool) (w : World) (h : spec_l11Made.f k a0_0 a0_1 a1_0 a1_1 = some (r1, r2, r3)) :
  Calls Tryz.prog 57 #[.agg #[.int .i64 a0_0, .int .i64 a0_1], .agg #[.int .i64 a1_0, .string a1_1]] w fun e w' => e = .returned (.tuple #[.agg #[.int .i64 r1, .int .i64 r2], .bool r3]) ∧ Below w.heap.size w w' := by
 have hu31 := Tryz.underlying31
 have hu38 := Tryz.underlying38
 have HB := Aside0.mk (Below.refl w.heap.size w)
 have H : (if a1_0 = 0 then ((spec_DancedFrom.f k a0_0 a0_1 a1_1).bind fun bt213 => (some (bt213.1, bt213.2.1, bt213.2.2))) else (if a1_0 = 1 then ((spec_ReadFraction.f k a1_1).bind fun bt216 => (some (bt216.1, bt216.2.1, bt216.2.2))) else (if (a1_0 == 2 && (a1_1.toList == ([] : List UInt8))) = true then ((spec_MirrorOf.f k a0_0 a0_1).bind fun bt219 => (some (bt219.1, bt219.2, true))) else (if (a1_0 == 3 && (a1_1.toList == ([] : List UInt8))) = true then ((spec_UntiedOf.f k a0_0 a0_1).bind fun bt221 => (some (0, 1, bt221.2))) else (some (a0_0, a0_1, false)))))) = some (r1, r2, r3) := h
 clear h
 by_cases c3 : a1_0 = 0
 ·rw [if_pos c3] at H
  have c3b0 : (a1_0 == 0) = true := beq_iff_eq.mpr c3
  have c3b1 : (a1_0 != 0) = false := bne_eq_false_iff_eq.mpr c3
  clear c3
  obtain ⟨⟨t213, t214, t215⟩, A4, H⟩ := sqD H
  try dsimp only at H
  obtain ⟨rfl, rfl, rfl⟩ := sqO3 H
  go_enter Tryz.func57, Tryz.ntmps57
  go_wp2_with (first | ((with_reducible refine gate_dst (N := 2) rfl ?_); refine sqBox (N := 2) (cs := #[.int .i64 a0_0, .int .i64 a0_1]) (t := 31) ?_; intro gb210 hg w5 BK210 hb; have GW210 := Aside0.mk ((sqG hg (sqB HB))); have GE210 := GW210; replace HB := sqS (sqB HB) hb; clear hb hg) | ((with_reducible refine gate_dst (N := 3) rfl ?_); refine sqBox (N := 3) (cs := #[.int .i64 a1_0, .string a1_1]) (t := 38) ?_; intro gb211 hg w6 BK211 hb; have GW211 := Aside0.mk ((sqG hg (sqB1 HB GE210))); have GE211 := GW211; replace HB := sqS (sqB1 HB GE210) hb; obtain ⟨NB210_211, NB211_210⟩ := sqM hg BK210; replace BK210 := sqT BK210 hb; clear hb hg) | ((with_reducible refine gate_dst (N := 4) rfl ?_); refine sqBox (N := 4) (cs := #[.int .i64 0, .int .i64 0]) (t := 31) ?_; intro gb212 hg w7 BK212 hb; have GW212 := Aside0.mk ((sqG hg (sqB2 HB GE210 GE211))); have GE212 := GW212; replace HB := sqS (sqB2 HB GE210 GE211) hb; obtain ⟨NB210_212, NB212_210⟩ := sqM hg BK210; replace BK210 := sqT BK210 hb; obtain ⟨NB211_212, NB212_211⟩ := sqM hg BK211; replace BK211 := sqT BK211 hb; clear hb hg; have hnb8 := NB211_210.out; have hnc8 := NB210_211.out; have hnb9 := NB211_212.out; have hnc9 := NB212_211.out; obtain ⟨hcz10_0, hcz10_1, hfz10_0, hfz10_1⟩ := sqY2 BK211; have hnb11 := NB210_212.out; have hnc11 := NB212_210.out; obtain ⟨hcz12_0, hcz12_1, hfz12_0, hfz12_1⟩ := sqY2 BK210) | ((with_reducible refine gate_callee (f := 106) rfl ?_); refine goesL_ (some 15) rfl rfl Tryz.func106 (by kernel_rfl) rfl #[.agg #[.int .i64 a0_0, .int .i64 a0_1], .string a1_1] rfl sqA ?_; (with_reducible refine (spec_DancedFrom.calls k a0_0 a0_1 a1_1 t213 t214 t215 _ A4.out).mono ?_); rintro e w13 ⟨rfl, hb⟩; refine ⟨_, rfl, ?_⟩; replace BK210 := sqT BK210 hb; replace BK211 := sqT BK211 hb; replace BK212 := sqT BK212 hb; replace HB := sqS (sqB3 HB GE210 GE211 GE212) hb; (try clear hb); obtain ⟨hcz14_0, hcz14_1, hfz14_0, hfz14_1⟩ := sqY2 BK212))
  refine bodyPost_ret (results_ct rfl _ _ gb212 31 #[.int .i64 t213, .int .i64 t214] (0, 0) _ rfl (by refine sqPut (cs := #[.int .i64 t213, .int .i64 0]) ?_ 1; refine sqPut (cs := #[.int .i64 0, .int .i64 0]) ?_ 0; exact sqK BK212) Tryz.underlying31 rfl (by kernel_rfl)) rfl ?_
  exact ⟨Z3, sqB3 HB GE210 GE211 GE212⟩
 ·rw [if_neg c3] at H
  have c3b0 : (a1_0 == 0) = false := beq_eq_false_iff_ne.mpr c3
  have c3b1 : (a1_0 != 0) = true := bne_iff_ne.mpr c3
  by_cases c15 : a1_0 = 1
  ·rw [if_pos c15] at H
   have c15b0 : (a1_0 == 1) = true := beq_iff_eq.mpr c15
   have c15b1 : (a1_0 != 1) = false := bne_eq_false_iff_eq.mpr c15
   clear c15
   obtain ⟨⟨t216, t217, t218⟩, A16, H⟩ := sqD H
   try dsimp only at H
   obtain ⟨rfl, rfl, rfl⟩ := sqO3 H
   go_enter Tryz.func57, Tryz.ntmps57
   go_wp2_with (first | ((with_reducible refine gate_dst (N := 2) rfl ?_); refine sqBox (N := 2) (cs := #[.int .i64 a0_0, .int .i64 a0_1]) (t := 31) ?_; intro gb210 hg w17 BK210 hb; have GW210 := Aside0.mk ((sqG hg (sqB HB))); have GE210 := GW210; replace HB := sqS (sqB HB) hb; clear hb hg) | ((with_reducible refine gate_dst (N := 3) rfl ?_); refine sqBox (N := 3) (cs := #[.int .i64 a1_0, .string a1_1]) (t := 38) ?_; intro gb211 hg w18 BK211 hb; have GW211 := Aside0.mk ((sqG hg (sqB1 HB GE210))); have GE211 := GW211; replace HB := sqS (sqB1 HB GE210) hb; obtain ⟨NB210_211, NB211_210⟩ := sqM hg BK210; replace BK210 := sqT BK210 hb; clear hb hg) | ((with_reducible refine gate_dst (N := 4) rfl ?_); refine sqBox (N := 4) (cs := #[.int .i64 0, .int .i64 0]) (t := 31) ?_; intro gb212 hg w19 BK212 hb; have GW212 := Aside0.mk ((sqG hg (sqB2 HB GE210 GE211))); have GE212 := GW212; replace HB := sqS (sqB2 HB GE210 GE211) hb; obtain ⟨NB210_212, NB212_210⟩ := sqM hg BK210; replace BK210 := sqT BK210 hb; obtain ⟨NB211_212, NB212_211⟩ := sqM hg BK211; replace BK211 := sqT BK211 hb; clear hb hg; have hnb20 := NB211_210.out; have hnc20 := NB210_211.out; have hnb21 := NB211_212.out; have hnc21 := NB212_211.out; obtain ⟨hcz22_0, hcz22_1, hfz22_0, hfz22_1⟩ := sqY2 BK211) | ((with_reducible refine gate_callee (f := 107) rfl ?_); refine goesL_ (some 24) rfl rfl Tryz.func107 (by kernel_rfl) rfl #[.string a1_1] rfl sqA ?_; (with_reducible refine (spec_ReadFraction.calls k a1_1 t216 t217 t218 _ A16.out).mono ?_); rintro e w23 ⟨rfl, hb⟩; refine ⟨_, rfl, ?_⟩; replace BK210 := sqT BK210 hb; replace BK211 := sqT BK211 hb; replace BK212 := sqT BK212 hb; replace HB := sqS (sqB3 HB GE210 GE211 GE212) hb; (try clear hb); have hnb24 := NB212_210.out; have hnc24 := NB210_212.out; obtain ⟨hcz25_0, hcz25_1, hfz25_0, hfz25_1⟩ := sqY2 BK212))
   refine bodyPost_ret (results_ct rfl _ _ gb212 31 #[.int .i64 t216, .int .i64 t217] (0, 0) _ rfl (by refine sqPut (cs := #[.int .i64 t216, .int .i64 0]) ?_ 1; refine sqPut (cs := #[.int .i64 0, .int .i64 0]) ?_ 0; exact sqK BK212) Tryz.underlying31 rfl (by kernel_rfl)) rfl ?_
   exact ⟨Z3, sqB3 HB GE210 GE211 GE212⟩
  ·rw [if_neg c15] at H
   have c15b0 : (a1_0 == 1) = false := beq_eq_false_iff_ne.mpr c15
   have c15b1 : (a1_0 != 1) = true := bne_iff_ne.mpr c15
   by_cases c26 : (a1_0 == 2 && (a1_1.toList == ([] : List UInt8))) = true
   ·rw [if_pos c26] at H
    have c26b0 : (a1_0 == 2 && (a1_1.toList == ([] : List UInt8))) = true := c26
    try have c26b8 : (a1_0 == 2 && a1_1.toList.isEmpty) = true := by (have h_ := c26b0; (repeat rw [show ∀ z : List UInt8, (z == ([] : List UInt8)) = z.isEmpty from fun z => by cases z <;> rfl] at h_); exact h_)
    (try (have c26b1 : decide (a1_0 = 2 && (a1_1.toList == ([] : List UInt8))) = true := by simpa using c26))
    (try (have c26b2 : (a1_0 == 2 && (a1_1.toList == ([] : List UInt8))) = true := by simpa using c26))
    clear c26
    obtain ⟨⟨t219, t220⟩, A27, H⟩ := sqD H
    try dsimp only at H
    obtain ⟨rfl, rfl, rfl⟩ := sqO3 H
    go_enter Tryz.func57, Tryz.ntmps57
    go_wp2_with (first | ((with_reducible refine gate_dst (N := 2) rfl ?_); refine sqBox (N := 2) (cs := #[.int .i64 a0_0, .int .i64 a0_1]) (t := 31) ?_; intro gb210 hg w28 BK210 hb; have GW210 := Aside0.mk ((sqG hg (sqB HB))); have GE210 := GW210; replace HB := sqS (sqB HB) hb; clear hb hg) | ((with_reducible refine gate_dst (N := 3) rfl ?_); refine sqBox (N := 3) (cs := #[.int .i64 a1_0, .string a1_1]) (t := 38) ?_; intro gb211 hg w29 BK211 hb; have GW211 := Aside0.mk ((sqG hg (sqB1 HB GE210))); have GE211 := GW211; replace HB := sqS (sqB1 HB GE210) hb; obtain ⟨NB210_211, NB211_210⟩ := sqM hg BK210; replace BK210 := sqT BK210 hb; clear hb hg) | ((with_reducible refine gate_dst (N := 4) rfl ?_); refine sqBox (N := 4) (cs := #[.int .i64 0, .int .i64 0]) (t := 31) ?_; intro gb212 hg w30 BK212 hb; have GW212 := Aside0.mk ((sqG hg (sqB2 HB GE210 GE211))); have GE212 := GW212; replace HB := sqS (sqB2 HB GE210 GE211) hb; obtain ⟨NB210_212, NB212_210⟩ := sqM hg BK210; replace BK210 := sqT BK210 hb; obtain ⟨NB211_212, NB212_211⟩ := sqM hg BK211; replace BK211 := sqT BK211 hb; clear hb hg; have hnb31 := NB211_210.out; have hnc31 := NB210_211.out; have hnb32 := NB211_212.out; have hnc32 := NB212_211.out; obtain ⟨hcz33_0, hcz33_1, hfz33_0, hfz33_1⟩ := sqY2 BK211; have hnb34 := NB210_212.out; have hnc34 := NB212_210.out; obtain ⟨hcz35_0, hcz35_1, hfz35_0, hfz35_1⟩ := sqY2 BK210) | ((with_reducible refine gate_callee (f := 108) rfl ?_); refine goesL_ (some 32) rfl rfl Tryz.func108 (by kernel_rfl) rfl #[.agg #[.int .i64 a0_0, .int .i64 a0_1]] rfl sqA ?_; (with_reducible refine (spec_MirrorOf.calls k a0_0 a0_1 t219 t220 _ A27.out).mono ?_); rintro e w36 ⟨rfl, hb⟩; refine ⟨_, rfl, ?_⟩; replace BK210 := sqT BK210 hb; replace BK211 := sqT BK211 hb; replace BK212 := sqT BK212 hb; replace HB := sqS (sqB3 HB GE210 GE211 GE212) hb; (try clear hb); obtain ⟨hcz37_0, hcz37_1, hfz37_0, hfz37_1⟩ := sqY2 BK212))
    refine bodyPost_ret (results_ct rfl _ _ gb212 31 #[.int .i64 t219, .int .i64 t220] (0, 0) _ rfl (by refine sqPut (cs := #[.int .i64 t219, .int .i64 0]) ?_ 1; refine sqPut (cs := #[.int .i64 0, .int .i64 0]) ?_ 0; exact sqK BK212) Tryz.underlying31 rfl (by kernel_rfl)) rfl ?_
    exact ⟨Z3, sqB3 HB GE210 GE211 GE212⟩
   ·rw [if_neg c26] at H
    have c26b0 : (a1_0 == 2 && (a1_1.toList == ([] : List UInt8))) = false := by simpa using c26
    try have c26b8 : (a1_0 == 2 && a1_1.toList.isEmpty) = false := by (have h_ := c26b0; (repeat rw [show ∀ z : List UInt8, (z == ([] : List UInt8)) = z.isEmpty from fun z => by cases z <;> rfl] at h_); exact h_)
    (try (have c26b1 : decide (a1_0 = 2 && (a1_1.toList == ([] : List UInt8))) = false := by simpa using c26))
    (try (have c26b2 : (a1_0 == 2 && (a1_1.toList == ([] : List UInt8))) = false := by simpa using c26))
    (try (have c26b3 : ¬ (a1_0 = 2 && (a1_1.toList == ([] : List UInt8))) := by simpa using c26))
    clear c26
    by_cases c38 : (a1_0 == 3 && (a1_1.toList == ([] : List UInt8))) = true
    ·rw [if_pos c38] at H
     have c38b0 : (a1_0 == 3 && (a1_1.toList == ([] : List UInt8))) = true := c38
     try have c38b8 : (a1_0 == 3 && a1_1.toList.isEmpty) = true := by (have h_ := c38b0; (repeat rw [show ∀ z : List UInt8, (z == ([] : List UInt8)) = z.isEmpty from fun z => by cases z <;> rfl] at h_); exact h_)
     (try (have c38b1 : decide (a1_0 = 3 && (a1_1.toList == ([] : List UInt8))) = true := by simpa using c38))
     (try (have c38b2 : (a1_0 == 3 && (a1_1.toList == ([] : List UInt8))) = true := by simpa using c38))
     clear c38
     obtain ⟨⟨t221, t222⟩, A39, H⟩ := sqD H
     try dsimp only at H
     obtain ⟨rfl, rfl, rfl⟩ := sqO3 H
     go_enter Tryz.func57, Tryz.ntmps57
     go_wp2_with (first | ((with_reducible refine gate_dst (N := 2) rfl ?_); refine sqBox (N := 2) (cs := #[.int .i64 a0_0, .int .i64 a0_1]) (t := 31) ?_; intro gb210 hg w40 BK210 hb; have GW210 := Aside0.mk ((sqG hg (sqB HB))); have GE210 := GW210; replace HB := sqS (sqB HB) hb; clear hb hg) | ((with_reducible refine gate_dst (N := 3) rfl ?_); refine sqBox (N := 3) (cs := #[.int .i64 a1_0, .string a1_1]) (t := 38) ?_; intro gb211 hg w41 BK211 hb; have GW211 := Aside0.mk ((sqG hg (sqB1 HB GE210))); have GE211 := GW211; replace HB := sqS (sqB1 HB GE210) hb; obtain ⟨NB210_211, NB211_210⟩ := sqM hg BK210; replace BK210 := sqT BK210 hb; clear hb hg) | ((with_reducible refine gate_dst (N := 4) rfl ?_); refine sqBox (N := 4) (cs := #[.int .i64 0, .int .i64 0]) (t := 31) ?_; intro gb212 hg w42 BK212 hb; have GW212 := Aside0.mk ((sqG hg (sqB2 HB GE210 GE211))); have GE212 := GW212; replace HB := sqS (sqB2 HB GE210 GE211) hb; obtain ⟨NB210_212, NB212_210⟩ := sqM hg BK210; replace BK210 := sqT BK210 hb; obtain ⟨NB211_212, NB212_211⟩ := sqM hg BK211; replace BK211 := sqT BK211 hb; clear hb hg; have hnb43 := NB211_210.out; have hnc43 := NB210_211.out; have hnb44 := NB211_212.out; have hnc44 := NB212_211.out; obtain ⟨hcz45_0, hcz45_1, hfz45_0, hfz45_1⟩ := sqY2 BK211; have hnb46 := NB210_212.out; have hnc46 := NB212_210.out; obtain ⟨hcz47_0, hcz47_1, hfz47_0, hfz47_1⟩ := sqY2 BK210) | ((with_reducible refine gate_callee (f := 90) rfl ?_); refine goesL_ (some 39) rfl rfl Tryz.func90 (by kernel_rfl) rfl #[.agg #[.int .i64 a0_0, .int .i64 a0_1]] rfl sqA ?_; (with_reducible refine (spec_UntiedOf.calls k a0_0 a0_1 t221 t222 _ A39.out).mono ?_); rintro e w48 ⟨rfl, hb⟩; refine ⟨_, rfl, ?_⟩; replace BK210 := sqT BK210 hb; replace BK211 := sqT BK211 hb; replace BK212 := sqT BK212 hb; replace HB := sqS (sqB3 HB GE210 GE211 GE212) hb; (try clear hb); obtain ⟨hcz49_0, hcz49_1, hfz49_0, hfz49_1⟩ := sqY2 BK212))
     refine bodyPost_ret (results_ct rfl _ _ gb212 31 #[.int .i64 0, .int .i64 1] (0, 0) _ rfl (Z11 BK212) Tryz.underlying31 rfl (by kernel_rfl)) rfl ?_
     exact ⟨Z3, sqB3 HB GE210 GE211 GE212⟩
    ·rw [if_neg c38] at H
     have c38b0 : (a1_0 == 3 && (a1_1.toList == ([] : List UInt8))) = false := by simpa using c38
     try have c38b8 : (a1_0 == 3 && a1_1.toList.isEmpty) = false := by (have h_ := c38b0; (repeat rw [show ∀ z : List UInt8, (z == ([] : List UInt8)) = z.isEmpty from fun z => by cases z <;> rfl] at h_); exact h_)
     (try (have c38b1 : decide (a1_0 = 3 && (a1_1.toList == ([] : List UInt8))) = false := by simpa using c38))
     (try (have c38b2 : (a1_0 == 3 && (a1_1.toList == ([] : List UInt8))) = false := by simpa using c38))
     (try (have c38b3 : ¬ (a1_0 = 3 && (a1_1.toList == ([] : List UInt8))) := by simpa using c38))
     clear c38
     obtain ⟨rfl, rfl, rfl⟩ := sqO3 H
     go_enter Tryz.func57, Tryz.ntmps57
     go_wp2_with (first | ((with_reducible refine gate_dst (N := 2) rfl ?_); refine sqBox (N := 2) (cs := #[.int .i64 a0_0, .int .i64 a0_1]) (t := 31) ?_; intro gb210 hg w50 BK210 hb; have GW210 := Aside0.mk ((sqG hg (sqB HB))); have GE210 := GW210; replace HB := sqS (sqB HB) hb; clear hb hg) | ((with_reducible refine gate_dst (N := 3) rfl ?_); refine sqBox (N := 3) (cs := #[.int .i64 a1_0, .string a1_1]) (t := 38) ?_; intro gb211 hg w51 BK211 hb; have GW211 := Aside0.mk ((sqG hg (sqB1 HB GE210))); have GE211 := GW211; replace HB := sqS (sqB1 HB GE210) hb; obtain ⟨NB210_211, NB211_210⟩ := sqM hg BK210; replace BK210 := sqT BK210 hb; clear hb hg) | ((with_reducible refine gate_dst (N := 4) rfl ?_); refine sqBox (N := 4) (cs := #[.int .i64 0, .int .i64 0]) (t := 31) ?_; intro gb212 hg w52 BK212 hb; have GW212 := Aside0.mk ((sqG hg (sqB2 HB GE210 GE211))); have GE212 := GW212; replace HB := sqS (sqB2 HB GE210 GE211) hb; obtain ⟨NB210_212, NB212_210⟩ := sqM hg BK210; replace BK210 := sqT BK210 hb; obtain ⟨NB211_212, NB212_211⟩ := sqM hg BK211; replace BK211 := sqT BK211 hb; clear hb hg; have hnb53 := NB211_210.out; have hnc53 := NB210_211.out; have hnb54 := NB211_212.out; have hnc54 := NB212_211.out; obtain ⟨hcz55_0, hcz55_1, hfz55_0, hfz55_1⟩ := sqY2 BK211; have hnb56 := NB210_212.out; have hnc56 := NB212_210.out; obtain ⟨hcz57_0, hcz57_1, hfz57_0, hfz57_1⟩ := sqY2 BK210; obtain ⟨hcz58_0, hcz58_1, hfz58_0, hfz58_1⟩ := sqY2 BK212))
     refine bodyPost_ret (results_ct rfl _ _ gb212 31 #[.int .i64 a0_0, .int .i64 a0_1] (0, 0) _ rfl (Z19 BK212) Tryz.underlying31 rfl (by kernel_rfl)) rfl ?_
     exact ⟨Z3, sqB3 HB GE210 GE211 GE212⟩

end Go.Proofs.YtofmlbgfcohhoaaGreatDoor.PFnDeskDo
