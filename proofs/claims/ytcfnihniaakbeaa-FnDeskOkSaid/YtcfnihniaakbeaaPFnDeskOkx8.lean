/- Lean functions of the Go functions that the law FnDeskOk reaches, each with its contract: made by a program of this session. -/
import Derived.Test.YtcfnihniaakbeaaPFnDeskOkx0
import Derived.Test.YtcfnihniaakbeaaPFnDeskOkx3
import Derived.Test.YtcfnihniaakbeaaPFnDeskOkx4
import Derived.Test.YtcfnihniaakbeaaPFnDeskOkx7
namespace Go.Proofs.Ytcfnihniaakbeaa.PFnDeskOk
open Go.RowKit Go.Proofs.YtcfnihniaakbeaaW.PrintWords Go.Proofs.YtcfnihniaakbeaaW.PrintLast Go.Proofs.YtcfnihniaakbeaaW.PrintMore
attribute [local go_sem] max2_int min2_int max_two min_two max_three min_three max_four min_four   -- for this text's walks alone
set_option linter.unusedVariables false
set_option linter.unusedSimpArgs false

/-! ### spec_l1Digits: function 41 -/
mutual
def spec_l1Digits.j0 : Nat → ByteArray → Bool → Option (Int × Bool)
 | 0, _, _ => none
 | k + 1, x0, x15 => if x15 = true then (if 1 ≤ (x0.size : Int) then ((spec_l1Digits.f k (x0.extract 1 x0.size)).bind fun bt209 => (if bt209.2 = true then (some (wrap64 (-bt209.1), decide (bt209.1 > 0))) else (some (wrap64 (-bt209.1), false)))) else (none)) else ((spec_l1In.f (x0.size : Int) 1 7).bind fun t211 => (if t211 = true then (if (x0.size : Int) > 1 then (if 0 < (x0.size : Int) then (spec_l1Digits.j1 k x0 ((bt x0 0) == 48)) else (none)) else (spec_l1Digits.j1 k x0 false)) else (spec_l1Digits.j1 k x0 true)))
def spec_l1Digits.j1 : Nat → ByteArray → Bool → Option (Int × Bool)
 | 0, _, _ => none
 | k + 1, x0, x42 => if x42 = true then (some (0, false)) else (spec_l1Digits.l0 k x0 0 0)
def spec_l1Digits.l0 : Nat → ByteArray → Int → Int → Option (Int × Bool)
 | 0, _, _, _ => none
 | k + 1, x0, x6, x7 => if x7 < (x0.size : Int) then (if 0 ≤ x7 then (if (bt x0 x7) < 48 then (some (0, false)) else (if (bt x0 x7) > 57 then (some (0, false)) else (spec_l1Digits.l0 k x0 (wrap64 ((wrap64 (10 * x6)) + (((bt x0 x7) - 48) % 256))) (wrap64 (x7 + 1))))) else (none)) else (some (x6, true))
def spec_l1Digits.f : Nat → ByteArray → Option (Int × Bool)
 | 0, _ => none
 | k + 1, a0 => if (a0.size : Int) > 1 then (if 0 < (a0.size : Int) then (spec_l1Digits.j0 k a0 ((bt a0 0) == 45)) else (none)) else (spec_l1Digits.j0 k a0 false)
end
theorem spec_l1Digits.mono_l : ∀ k, (∀ y0, LeO (spec_l1Digits.f k y0) (spec_l1Digits.f (k + 1) y0)) ∧ (∀ y0 y1, LeO (spec_l1Digits.j0 k y0 y1) (spec_l1Digits.j0 (k + 1) y0 y1)) ∧ (∀ y0 y1, LeO (spec_l1Digits.j1 k y0 y1) (spec_l1Digits.j1 (k + 1) y0 y1)) ∧ (∀ y0 y1 y2, LeO (spec_l1Digits.l0 k y0 y1 y2) (spec_l1Digits.l0 (k + 1) y0 y1 y2))
 | 0 => ⟨fun _ r h => by simp [spec_l1Digits.f] at h, fun _ _ r h => by simp [spec_l1Digits.j0] at h, fun _ _ r h => by simp [spec_l1Digits.j1] at h, fun _ _ _ r h => by simp [spec_l1Digits.l0] at h⟩
 | k + 1 => by
  obtain ⟨ih0, ih1, ih2, ih3⟩ := spec_l1Digits.mono_l k
  refine ⟨?_, ?_, ?_, ?_⟩
  ·intro y0
   unfold spec_l1Digits.f
   repeat' first
   | (with_reducible exact ih0 _)
   | (with_reducible exact ih1 _ _)
   | (with_reducible exact ih2 _ _)
   | (with_reducible exact ih3 _ _ _)
   | (with_reducible exact LeO.refl _)
   | (with_reducible exact LeO.none _)
   | (with_reducible refine LeO.ite ?_ ?_)
   | (with_reducible refine LeO.bind ?_ (fun _ => ?_))
  ·intro y0 y1
   unfold spec_l1Digits.j0
   repeat' first
   | (with_reducible exact ih0 _)
   | (with_reducible exact ih1 _ _)
   | (with_reducible exact ih2 _ _)
   | (with_reducible exact ih3 _ _ _)
   | (with_reducible exact LeO.refl _)
   | (with_reducible exact LeO.none _)
   | (with_reducible refine LeO.ite ?_ ?_)
   | (with_reducible refine LeO.bind ?_ (fun _ => ?_))
  ·intro y0 y1
   unfold spec_l1Digits.j1
   repeat' first
   | (with_reducible exact ih0 _)
   | (with_reducible exact ih1 _ _)
   | (with_reducible exact ih2 _ _)
   | (with_reducible exact ih3 _ _ _)
   | (with_reducible exact LeO.refl _)
   | (with_reducible exact LeO.none _)
   | (with_reducible refine LeO.ite ?_ ?_)
   | (with_reducible refine LeO.bind ?_ (fun _ => ?_))
  ·intro y0 y1 y2
   unfold spec_l1Digits.l0
   repeat' first
   | (with_reducible exact ih0 _)
   | (with_reducible exact ih1 _ _)
   | (with_reducible exact ih2 _ _)
   | (with_reducible exact ih3 _ _ _)
   | (with_reducible exact LeO.refl _)
   | (with_reducible exact LeO.none _)
   | (with_reducible refine LeO.ite ?_ ?_)
   | (with_reducible refine LeO.bind ?_ (fun _ => ?_))
theorem spec_l1Digits.mono : ∀ a0 k, LeO (spec_l1Digits.f k a0) (spec_l1Digits.f (k + 1) a0) := by
 intro a0 k
 obtain ⟨ih0, ih1, ih2, ih3⟩ := spec_l1Digits.mono_l k
 exact ih0 a0
set_option maxHeartbeats 8000000 in
set_option maxRecDepth 100000 in
theorem spec_l1Digits.calls (k : Nat) : ∀ (a0 : ByteArray) (r1 : Int) (r2 : Bool) (w : World) (h : spec_l1Digits.f k a0 = some (r1, r2)),
  Calls Try.prog 41 #[.string a0] w fun e w' => e = .returned (.tuple #[.int .i64 r1, .bool r2]) ∧ Drawn0 w w' := by
 induction k using Nat.strongRecOn with
 | _ k ih =>
 intro a0 r1 r2 w h
 cases k with
 | zero => exact absurd h (by simp [spec_l1Digits.f])
 | succ k =>
 simp only [spec_l1Digits.f] at h
 have H : (if (a0.size : Int) > 1 then (if 0 < (a0.size : Int) then (spec_l1Digits.j0 k a0 ((bt a0 0) == 45)) else (none)) else (spec_l1Digits.j0 k a0 false)) = some (r1, r2) := h
 clear h
 have HC2 := Aside0.mk H
 clear H
 go_enter Try.func41, Try.ntmps41
 go_upto_region 1 with (fail)
 go_cut [15] (fun v15 wc => ∃ (kq : Nat) (x15_1 : Bool), v15 = .bool x15_1 ∧ Aside0 (spec_l1Digits.j0 kq a0 x15_1 = some (r1, r2)) ∧ Aside0 (kq ≤ k) ∧ Drawn0 w wc)
 case first =>
  have H := HC2.out
  clear HC2
  by_cases c3 : (a0.size : Int) > 1
  ·rw [if_pos c3] at H
   have c3b0 : decide (1 < (a0.size : Int)) = true := decide_eq_true c3
   have c3b1 : decide (1 < a0.size) = true := decide_eq_true (by omega)
   clear c3
   (first | rw [c3b0] | (simp only [i64_w, i32_w]; rw [c3b0]) | skip)
   by_cases c4 : 0 < (a0.size : Int)
   ·rw [if_pos c4] at H
    have c4b0 : decide (0 < (a0.size : Int)) = true := decide_eq_true c4
    have c4b1 : decide (0 < a0.size) = true := decide_eq_true (by omega)
    clear c4
    have H' := Aside0.mk H
    clear H
    have p5 : 0 ≤ (0 : Int) := (by omega)
    have q5 : 0 < a0.size := (by have : (0 : Int) < (a0.size : Int) := of_decide_eq_true Z7; omega)
    have hx5 : ∀ h : 0 < a0.size, ((a0[0]'h).toNat : Int) = bt a0 0 := bt_at a0 0
    clear p5
    have qi5 : (0 < (a0.size : Int)) = True := eq_true (of_decide_eq_true Z7)
    replace q5 := eq_true q5
    go_wp2
    go_meet
    case rel => exact ⟨_, (((bt a0 0) == 45)), Z2, H', ⟨Z3⟩, Z23⟩
   ·rw [if_neg c4] at H
    exact absurd H (by simp)
  ·rw [if_neg c3] at H
   have c3b0 : decide (1 < (a0.size : Int)) = false := decide_eq_false c3
   have c3b1 : decide (1 < a0.size) = false := decide_eq_false (by omega)
   clear c3
   (first | rw [c3b0] | (simp only [i64_w, i32_w]; rw [c3b0]) | skip)
   have H' := Aside0.mk H
   clear H
   go_wp2
   go_meet
   case rel => exact ⟨_, (false), Z2, H', ⟨Z3⟩, Z23⟩
 case rest =>
  clear HC2
  try clear p2; try clear c3; try clear c3b0; try clear c3b1; try clear c4; try clear c4b0; try clear c4b1; try clear p5; try clear q5; try clear hx5; try clear qi5; try clear p5; try clear q5
  obtain ⟨kq, x15_1, rfl, HA, HJ1, ⟨mc1, rfl⟩⟩ := hcut
  cases kq with
  | zero => exact absurd HA.out (by simp [spec_l1Digits.j0])
  | succ kj1 =>
   have H := HA.out
   clear HA
   simp only [spec_l1Digits.j0] at H
   by_cases c6 : x15_1 = true
   ·subst c6
    have H1 : (if 1 ≤ (a0.size : Int) then ((spec_l1Digits.f kj1 (a0.extract 1 a0.size)).bind fun bt209 => (if bt209.2 = true then (some (wrap64 (-bt209.1), decide (bt209.1 > 0))) else (some (wrap64 (-bt209.1), false)))) else (none)) = some (r1, r2) := by rw [if_pos rfl] at H; exact H
    clear H
    have H := H1
    clear H1
    by_cases c7 : 1 ≤ (a0.size : Int)
    ·rw [if_pos c7] at H
     have c7b0 := eq_true c7
     have c7b1 : decide (1 ≤ (a0.size : Int)) = true := decide_eq_true c7
     clear c7
     replace H := Option.bind_eq_some_iff.mp H
     obtain ⟨⟨t209, t210⟩, A80, H⟩ := H
     replace H : (if t210 = true then (some (wrap64 (-t209), decide (t209 > 0))) else (some (wrap64 (-t209), false))) = some (r1, r2) := H
     have A8 := Aside0.mk A80
     clear A80
     by_cases c9 : t210 = true
     ·subst c9
      have H1 : (some (wrap64 (-t209), decide (t209 > 0))) = some (r1, r2) := by rw [if_pos rfl] at H; exact H
      clear H
      have H := H1
      clear H1
      simp only [Option.some.injEq, Prod.mk.injEq] at H
      obtain ⟨rfl, rfl⟩ := H
      go_wp2_with (first | ((with_reducible refine gate_callee (f := 41) rfl ?_); refine goesL_ (some 19) rfl rfl Try.func41 (by kernel_rfl) rfl #[.string (a0.extract 1 a0.size)] rfl sqA ?_; (with_reducible refine (ih kj1 Z55 (a0.extract 1 a0.size) t209 true _ A8.out).mono ?_); rintro e w' ⟨rfl, ⟨nd, rfl⟩⟩; refine ⟨_, rfl, ?_⟩))
      go_ret2
      exact ⟨Z2, Z23⟩
     ·replace c9 := Bool.eq_false_iff.mpr c9
      subst c9
      have H1 : (some (wrap64 (-t209), false)) = some (r1, r2) := by rw [if_neg (show ¬ (false = true) by decide)] at H; exact H
      clear H
      have H := H1
      clear H1
      simp only [Option.some.injEq, Prod.mk.injEq] at H
      obtain ⟨rfl, rfl⟩ := H
      go_wp2_with (first | ((with_reducible refine gate_callee (f := 41) rfl ?_); refine goesL_ (some 19) rfl rfl Try.func41 (by kernel_rfl) rfl #[.string (a0.extract 1 a0.size)] rfl sqA ?_; (with_reducible refine (ih kj1 Z55 (a0.extract 1 a0.size) t209 false _ A8.out).mono ?_); rintro e w' ⟨rfl, ⟨nd, rfl⟩⟩; refine ⟨_, rfl, ?_⟩))
      go_ret2
      exact ⟨Z2, Z23⟩
    ·rw [if_neg c7] at H
     exact absurd H (by simp)
   ·replace c6 := Bool.eq_false_iff.mpr c6
    subst c6
    have H1 : ((spec_l1In.f (a0.size : Int) 1 7).bind fun t211 => (if t211 = true then (if (a0.size : Int) > 1 then (if 0 < (a0.size : Int) then (spec_l1Digits.j1 kj1 a0 ((bt a0 0) == 48)) else (none)) else (spec_l1Digits.j1 kj1 a0 false)) else (spec_l1Digits.j1 kj1 a0 true))) = some (r1, r2) := by rw [if_neg (show ¬ (false = true) by decide)] at H; exact H
    clear H
    have H := H1
    clear H1
    have HC10 := Aside0.mk H
    clear H
    go_upto_region 4 with (fail)
    go_cut [42] (fun v42 wc => ∃ (kq : Nat) (x42_9 : Bool), v42 = .bool x42_9 ∧ Aside0 (spec_l1Digits.j1 kq a0 x42_9 = some (r1, r2)) ∧ Aside0 (kq ≤ kj1) ∧ Drawn0 w wc)
    case first =>
     have H := HC10.out
     clear HC10
     obtain ⟨t211, A11, H⟩ := sqD H
     by_cases c12 : t211 = true
     ·subst c12
      have H1 : (if (a0.size : Int) > 1 then (if 0 < (a0.size : Int) then (spec_l1Digits.j1 kj1 a0 ((bt a0 0) == 48)) else (none)) else (spec_l1Digits.j1 kj1 a0 false)) = some (r1, r2) := by rw [if_pos rfl] at H; exact H
      clear H
      have H := H1
      clear H1
      by_cases c13 : (a0.size : Int) > 1
      ·rw [if_pos c13] at H
       have c13b0 : decide (1 < (a0.size : Int)) = true := decide_eq_true c13
       have c13b1 : decide (1 < a0.size) = true := decide_eq_true (by omega)
       clear c13
       (first | rw [c13b0] | (simp only [i64_w, i32_w]; rw [c13b0]) | skip)
       by_cases c14 : 0 < (a0.size : Int)
       ·rw [if_pos c14] at H
        have c14b0 : decide (0 < (a0.size : Int)) = true := decide_eq_true c14
        have c14b1 : decide (0 < a0.size) = true := decide_eq_true (by omega)
        clear c14
        have H' := Aside0.mk H
        clear H
        go_wp2_with (first | ((with_reducible refine gate_callee (f := 22) rfl ?_); refine goesL_ (some 31) rfl rfl Try.func22 (by kernel_rfl) rfl #[.int .i64 (a0.size : Int), .int .i64 1, .int .i64 7] rfl sqA ?_; (with_reducible refine (spec_l1In.calls (a0.size : Int) 1 7 true _ A11.out).mono ?_); rintro e w' ⟨rfl, ⟨nd, rfl⟩⟩; refine ⟨_, rfl, ?_⟩; have p15 : 0 ≤ (0 : Int) := (by omega); have q15 : 0 < a0.size := (by have : (0 : Int) < (a0.size : Int) := of_decide_eq_true Z7; omega); have hx15 : ∀ h : 0 < a0.size, ((a0[0]'h).toNat : Int) = bt a0 0 := bt_at a0 0; clear p15; have qi15 : (0 < (a0.size : Int)) = True := eq_true (of_decide_eq_true Z7); replace q15 := eq_true q15))
        go_meet
        case rel => exact ⟨_, (((bt a0 0) == 48)), Z2, H', ⟨Z57⟩, Z23⟩
       ·rw [if_neg c14] at H
        exact absurd H (by simp)
      ·rw [if_neg c13] at H
       have c13b0 : decide (1 < (a0.size : Int)) = false := decide_eq_false c13
       have c13b1 : decide (1 < a0.size) = false := decide_eq_false (by omega)
       clear c13
       (first | rw [c13b0] | (simp only [i64_w, i32_w]; rw [c13b0]) | skip)
       have H' := Aside0.mk H
       clear H
       go_wp2_with (first | ((with_reducible refine gate_callee (f := 22) rfl ?_); refine goesL_ (some 31) rfl rfl Try.func22 (by kernel_rfl) rfl #[.int .i64 (a0.size : Int), .int .i64 1, .int .i64 7] rfl sqA ?_; (with_reducible refine (spec_l1In.calls (a0.size : Int) 1 7 true _ A11.out).mono ?_); rintro e w' ⟨rfl, ⟨nd, rfl⟩⟩; refine ⟨_, rfl, ?_⟩))
       go_meet
       case rel => exact ⟨_, (false), Z2, H', ⟨Z57⟩, Z23⟩
     ·replace c12 := Bool.eq_false_iff.mpr c12
      subst c12
      have H1 : (spec_l1Digits.j1 kj1 a0 true) = some (r1, r2) := by rw [if_neg (show ¬ (false = true) by decide)] at H; exact H
      clear H
      have H := H1
      clear H1
      have H' := Aside0.mk H
      clear H
      go_wp2_with (first | ((with_reducible refine gate_callee (f := 22) rfl ?_); refine goesL_ (some 31) rfl rfl Try.func22 (by kernel_rfl) rfl #[.int .i64 (a0.size : Int), .int .i64 1, .int .i64 7] rfl sqA ?_; (with_reducible refine (spec_l1In.calls (a0.size : Int) 1 7 false _ A11.out).mono ?_); rintro e w' ⟨rfl, ⟨nd, rfl⟩⟩; refine ⟨_, rfl, ?_⟩))
      go_meet
      case rel => exact ⟨_, (true), Z2, H', ⟨Z57⟩, Z23⟩
    case rest =>
     clear HC10
     try clear c1; try clear p1; try clear q1; try clear hx1; try clear qi1; try clear c2; try clear p2; try clear c3; try clear c3b0; try clear c3b1; try clear c4; try clear c4b0; try clear c4b1; try clear p5; try clear q5; try clear hx5; try clear qi5; try clear c6; try clear p6; try clear c7; try clear c7b0; try clear c7b1; try clear c9; try clear c12; try clear c13; try clear c13b0; try clear c13b1; try clear c14; try clear c14b0; try clear c14b1; try clear p15; try clear q15; try clear hx15; try clear qi15; try clear p15; try clear p2; try clear p5; try clear q15; try clear q5
     obtain ⟨kq, x42_9, rfl, HA, HJ9, ⟨mc9, rfl⟩⟩ := hcut
     cases kq with
     | zero => exact absurd HA.out (by simp [spec_l1Digits.j1])
     | succ kj9 =>
      have H := HA.out
      clear HA
      simp only [spec_l1Digits.j1] at H
      by_cases c16 : x42_9 = true
      ·subst c16
       have H1 : (some (0, false)) = some (r1, r2) := by rw [if_pos rfl] at H; exact H
       clear H
       have H := H1
       clear H1
       simp only [Option.some.injEq, Prod.mk.injEq] at H
       obtain ⟨rfl, rfl⟩ := H
       go_wp2
       go_ret2
       exact ⟨Z2, Z23⟩
      ·replace c16 := Bool.eq_false_iff.mpr c16
       subst c16
       have H1 : (spec_l1Digits.l0 kj9 a0 0 0) = some (r1, r2) := by rw [if_neg (show ¬ (false = true) by decide)] at H; exact H
       clear H
       have H := H1
       clear H1
       have H' := Aside0.mk H
       clear H
       go_wp2
       go_loopg [6, 7] kj9 (fun kq v6 v7 w' => ∃ (x6_3 : Int) (x7_3 : Int), v6 = .int .i64 x6_3 ∧ v7 = .int .i64 x7_3 ∧ Aside0 (spec_l1Digits.l0 kq a0 x6_3 x7_3 = some (r1, r2)) ∧ Aside0 (kq ≤ kj9) ∧ Drawn0 w w')
       case atStart => exact ⟨(0), (0), Z2, Z2, H', ⟨Nat.le_refl _⟩, Z23⟩
       case round =>
        clear H'
        try clear c1; try clear p1; try clear q1; try clear hx1; try clear qi1; try clear c2; try clear p2; try clear c3; try clear c3b0; try clear c3b1; try clear c4; try clear c4b0; try clear c4b1; try clear p5; try clear q5; try clear hx5; try clear qi5; try clear c6; try clear p6; try clear c7; try clear c7b0; try clear c7b1; try clear c9; try clear c12; try clear c13; try clear c13b0; try clear c13b1; try clear c14; try clear c14b0; try clear c14b1; try clear p15; try clear q15; try clear hx15; try clear qi15; try clear c16; try clear p1; try clear p15; try clear p2; try clear p5; try clear p6; try clear q1; try clear q15; try clear q5
        obtain ⟨x6_3, x7_3, rfl, rfl, HA, HK3, ⟨m3, rfl⟩⟩ := hrel
        cases gk with
        | zero => exact absurd HA.out (by simp [spec_l1Digits.l0])
        | succ k3 =>
         have H := HA.out
         clear HA
         simp only [spec_l1Digits.l0] at H
         by_cases c17 : x7_3 < (a0.size : Int)
         ·rw [if_pos c17] at H
          have c17b0 : decide (x7_3 < (a0.size : Int)) = true := decide_eq_true c17
          clear c17
          by_cases c18 : 0 ≤ x7_3
          ·rw [if_pos c18] at H
           have c18b0 : decide (0 ≤ x7_3) = true := decide_eq_true c18
           clear c18
           by_cases c20 : (bt a0 x7_3) < 48
           ·rw [if_pos c20] at H
            have c20b0 : decide ((bt a0 x7_3) < 48) = true := decide_eq_true c20
            clear c20
            simp only [Option.some.injEq, Prod.mk.injEq] at H
            obtain ⟨rfl, rfl⟩ := H
            have p19 : 0 ≤ (x7_3 : Int) := of_decide_eq_true Z7
            have q19 : x7_3 < (a0.size : Int) := of_decide_eq_true Z7
            have hx19 := bt_at a0 x7_3
            replace p19 := eq_true p19
            replace q19 := eq_true q19
            go_wp2
            go_ret2
            exact ⟨Z2, Z23⟩
           ·rw [if_neg c20] at H
            have c20b0 : decide ((bt a0 x7_3) < 48) = false := decide_eq_false c20
            clear c20
            by_cases c22 : (bt a0 x7_3) > 57
            ·rw [if_pos c22] at H
             have c22b0 : decide (57 < (bt a0 x7_3)) = true := decide_eq_true c22
             clear c22
             simp only [Option.some.injEq, Prod.mk.injEq] at H
             obtain ⟨rfl, rfl⟩ := H
             have p19 : 0 ≤ (x7_3 : Int) := of_decide_eq_true Z7
             have q19 : x7_3 < (a0.size : Int) := of_decide_eq_true Z7
             have hx19 := bt_at a0 x7_3
             replace p19 := eq_true p19
             replace q19 := eq_true q19
             have p21 : 0 ≤ (x7_3 : Int) := of_decide_eq_true Z7
             have q21 : x7_3 < (a0.size : Int) := of_decide_eq_true Z7
             have hx21 := bt_at a0 x7_3
             replace p21 := eq_true p21
             replace q21 := eq_true q21
             go_wp2
             go_ret2
             exact ⟨Z2, Z23⟩
            ·rw [if_neg c22] at H
             have c22b0 : decide (57 < (bt a0 x7_3)) = false := decide_eq_false c22
             clear c22
             have H' := Aside0.mk H
             clear H
             have p19 : 0 ≤ (x7_3 : Int) := of_decide_eq_true Z7
             have q19 : x7_3 < (a0.size : Int) := of_decide_eq_true Z7
             have hx19 := bt_at a0 x7_3
             replace p19 := eq_true p19
             replace q19 := eq_true q19
             have p21 : 0 ≤ (x7_3 : Int) := of_decide_eq_true Z7
             have q21 : x7_3 < (a0.size : Int) := of_decide_eq_true Z7
             have hx21 := bt_at a0 x7_3
             replace p21 := eq_true p21
             replace q21 := eq_true q21
             have p23 : 0 ≤ (x7_3 : Int) := of_decide_eq_true Z7
             have q23 : x7_3 < (a0.size : Int) := of_decide_eq_true Z7
             have hx23 := bt_at a0 x7_3
             replace p23 := eq_true p23
             replace q23 := eq_true q23
             go_wp2
             go_roundg k3
             case measure => have := HJ1.out; have := HJ9.out; have := HK3.out; omega
             case rel => exact ⟨(wrap64 ((wrap64 (10 * x6_3)) + (((bt a0 x7_3) - 48) % 256))), (wrap64 (x7_3 + 1)), Z2, Z2, H', ⟨by have := HJ1.out; have := HJ9.out; have := HK3.out; omega⟩, Z23⟩
          ·rw [if_neg c18] at H
           exact absurd H (by simp)
         ·rw [if_neg c17] at H
          have c17b0 : decide (x7_3 < (a0.size : Int)) = false := decide_eq_false c17
          clear c17
          simp only [Option.some.injEq, Prod.mk.injEq] at H
          obtain ⟨rfl, rfl⟩ := H
          go_wp2
          go_ret2
          exact ⟨Z2, Z23⟩

/-! ### spec_ReadFraction: function 34 -/
def spec_ReadFraction.f (k : Nat) (a0 : ByteArray) : Option (Int × Int × Bool) := (spec_l1Cut.f k a0 47).bind fun t213 => (if 0 < (t213.length : Int) then ((spec_l1Digits.f k (rdOf ByteArray.empty t213 0)).bind fun bt217 => (if (t213.length : Int) = 2 then (if 1 < (t213.length : Int) then ((spec_l1Digits.f k (rdOf ByteArray.empty t213 1)).bind fun bt220 => (if bt217.2 = true then (if bt220.2 = true then (if (t213.length : Int) > 2 then (some (0, 0, false)) else ((spec_FractionText.f k bt217.1 bt220.1).bind fun t223 => (if t223.toList = a0.toList then (some (bt217.1, bt220.1, true)) else (some (0, 0, false))))) else (some (0, 0, false))) else (some (0, 0, false)))) else (none)) else (if bt217.2 = true then (if (t213.length : Int) > 2 then (some (0, 0, false)) else ((spec_FractionText.f k bt217.1 1).bind fun t226 => (if t226.toList = a0.toList then (some (bt217.1, 1, true)) else (some (0, 0, false))))) else (some (0, 0, false))))) else (none))
theorem spec_ReadFraction.mono : ∀ a0 k, LeO (spec_ReadFraction.f k a0) (spec_ReadFraction.f (k + 1) a0) := by
 intro a0 k
 unfold spec_ReadFraction.f
 repeat' first
   | (with_reducible exact spec_FractionText.mono _ _ _)
   | (with_reducible exact spec_l1Cut.mono _ _ _)
   | (with_reducible exact spec_l1Digits.mono _ _)
   | (with_reducible exact LeO.refl _)
   | (with_reducible exact LeO.none _)
   | (with_reducible refine LeO.ite ?_ ?_)
   | (with_reducible refine LeO.bind ?_ (fun _ => ?_))
set_option maxHeartbeats 8000000 in
set_option maxRecDepth 100000 in
theorem spec_ReadFraction.calls (k : Nat) (a0 : ByteArray) (r1 : Int) (r2 : Int) (r3 : Bool) (w : World) (h : spec_ReadFraction.f k a0 = some (r1, r2, r3)) :
  Calls Try.prog 34 #[.string a0] w fun e w' => e = .returned (.tuple #[.agg #[.int .i64 r1, .int .i64 r2], .bool r3]) ∧ Below w.heap.size w w' := by
 have hu24 := Try.underlying24
 have HB := Aside0.mk (Below.refl w.heap.size w)
 have H : ((spec_l1Cut.f k a0 47).bind fun t213 => (if 0 < (t213.length : Int) then ((spec_l1Digits.f k (rdOf ByteArray.empty t213 0)).bind fun bt217 => (if (t213.length : Int) = 2 then (if 1 < (t213.length : Int) then ((spec_l1Digits.f k (rdOf ByteArray.empty t213 1)).bind fun bt220 => (if bt217.2 = true then (if bt220.2 = true then (if (t213.length : Int) > 2 then (some (0, 0, false)) else ((spec_FractionText.f k bt217.1 bt220.1).bind fun t223 => (if t223.toList = a0.toList then (some (bt217.1, bt220.1, true)) else (some (0, 0, false))))) else (some (0, 0, false))) else (some (0, 0, false)))) else (none)) else (if bt217.2 = true then (if (t213.length : Int) > 2 then (some (0, 0, false)) else ((spec_FractionText.f k bt217.1 1).bind fun t226 => (if t226.toList = a0.toList then (some (bt217.1, 1, true)) else (some (0, 0, false))))) else (some (0, 0, false))))) else (none))) = some (r1, r2, r3) := h
 clear h
 obtain ⟨t213, A2, H⟩ := sqD H
 by_cases c3 : 0 < (t213.length : Int)
 ·rw [if_pos c3] at H
  have c3b0 : decide (0 < (t213.length : Int)) = true := decide_eq_true c3
  have c3b1 : decide (0 < t213.length) = true := decide_eq_true (by omega)
  clear c3
  replace H := Option.bind_eq_some_iff.mp H
  obtain ⟨⟨t217, t218⟩, A40, H⟩ := H
  replace H : (if (t213.length : Int) = 2 then (if 1 < (t213.length : Int) then ((spec_l1Digits.f k (rdOf ByteArray.empty t213 1)).bind fun bt220 => (if t218 = true then (if bt220.2 = true then (if (t213.length : Int) > 2 then (some (0, 0, false)) else ((spec_FractionText.f k t217 bt220.1).bind fun t223 => (if t223.toList = a0.toList then (some (t217, bt220.1, true)) else (some (0, 0, false))))) else (some (0, 0, false))) else (some (0, 0, false)))) else (none)) else (if t218 = true then (if (t213.length : Int) > 2 then (some (0, 0, false)) else ((spec_FractionText.f k t217 1).bind fun t226 => (if t226.toList = a0.toList then (some (t217, 1, true)) else (some (0, 0, false))))) else (some (0, 0, false)))) = some (r1, r2, r3) := H
  have A4 := Aside0.mk A40
  clear A40
  by_cases c5 : (t213.length : Int) = 2
  ·rw [if_pos c5] at H
   have c5b0 : ((t213.length : Int) == 2) = true := beq_iff_eq.mpr c5
   have c5b1 : ((t213.length : Int) != 2) = false := bne_eq_false_iff_eq.mpr c5
   clear c5
   by_cases c6 : 1 < (t213.length : Int)
   ·rw [if_pos c6] at H
    have c6b0 : decide (1 < (t213.length : Int)) = true := decide_eq_true c6
    have c6b1 : decide (1 < t213.length) = true := decide_eq_true (by omega)
    clear c6
    replace H := Option.bind_eq_some_iff.mp H
    obtain ⟨⟨t220, t221⟩, A70, H⟩ := H
    replace H : (if t218 = true then (if t221 = true then (if (t213.length : Int) > 2 then (some (0, 0, false)) else ((spec_FractionText.f k t217 t220).bind fun t223 => (if t223.toList = a0.toList then (some (t217, t220, true)) else (some (0, 0, false))))) else (some (0, 0, false))) else (some (0, 0, false))) = some (r1, r2, r3) := H
    have A7 := Aside0.mk A70
    clear A70
    by_cases c8 : t218 = true
    ·subst c8
     have H1 : (if t221 = true then (if (t213.length : Int) > 2 then (some (0, 0, false)) else ((spec_FractionText.f k t217 t220).bind fun t223 => (if t223.toList = a0.toList then (some (t217, t220, true)) else (some (0, 0, false))))) else (some (0, 0, false))) = some (r1, r2, r3) := by rw [if_pos rfl] at H; exact H
     clear H
     have H := H1
     clear H1
     by_cases c9 : t221 = true
     ·subst c9
      have H1 : (if (t213.length : Int) > 2 then (some (0, 0, false)) else ((spec_FractionText.f k t217 t220).bind fun t223 => (if t223.toList = a0.toList then (some (t217, t220, true)) else (some (0, 0, false))))) = some (r1, r2, r3) := by rw [if_pos rfl] at H; exact H
      clear H
      have H := H1
      clear H1
      by_cases c10 : (t213.length : Int) > 2
      ·rw [if_pos c10] at H
       have c10b0 : decide (2 < (t213.length : Int)) = true := decide_eq_true c10
       have c10b1 : decide (2 < t213.length) = true := decide_eq_true (by omega)
       clear c10
       simp only [Option.some.injEq, Prod.mk.injEq] at H
       obtain ⟨rfl, rfl, rfl⟩ := H
       go_enter Try.func34, Try.ntmps34
       go_wp2_with (first | ((with_reducible refine gate_dst (N := 2) rfl ?_); (try (refine gate_guard (by rfl) ?_; dsimp only)); refine sqBox (N := 2) (cs := #[.int .i64 0, .int .i64 0]) (t := 24) ?_; intro gb212 hg w11 BK212 hb; have GW212 := Aside0.mk ((sqG hg (sqB HB))); have GE212 := GW212; replace HB := sqS (sqB HB) hb; clear hb hg) | ((with_reducible refine gate_callee (f := 40) rfl ?_); refine goesL_ (some 12) rfl rfl Try.func40 (by kernel_rfl) rfl #[.string a0, .int .u8 47] rfl sqA ?_; (with_reducible refine (spec_l1Cut.calls k a0 47 t213 _ A2.out).mono ?_); rintro e w12 ⟨v214, rfl, ho0, hb⟩; refine ⟨_, rfl, ?_⟩; have HO215 := sqL ho0 (sqB1 HB GE212); replace BK212 := sqT BK212 hb; replace HB := sqS (sqB1 HB GE212) hb; (try clear hb); (try clear ho0); obtain ⟨Ao13, co13, eo13⟩ := Kd.R_slice HO215.out; subst eo13; have p216 : 0 ≤ (0 : Int) := (by omega); have q216 : 0 < (t213.length : Int) := of_decide_eq_true Z7; obtain ⟨ad216, e216, hx216_0⟩ := Kd.at_string (Kd.R_reads' HO215.out).2.2 0 p216 q216; cases e216; have qi216 : (0 < t213.length) = True := eq_true (by omega); (try rw [show ((0 : Int)).toNat = 0 from rfl] at hx216_0); (try rw [Addr.add_zero'] at hx216_0); replace p216 := eq_true p216; replace q216 := eq_true q216) | ((with_reducible refine gate_callee (f := 41) rfl ?_); refine goesL_ (some 17) rfl rfl Try.func41 (by kernel_rfl) rfl #[.string (rdOf ByteArray.empty t213 0)] rfl sqA ?_; (with_reducible refine (spec_l1Digits.calls k (rdOf ByteArray.empty t213 0) t217 true _ A4.out).mono ?_); rintro e w' ⟨rfl, ⟨nd, rfl⟩⟩; refine ⟨_, rfl, ?_⟩; (try (rw [drewN_self w12]; generalize hq_ : World.drewN w12 _ = w12; have n0_ : Aside0 (Kd.R Kd.string 9 w12 w.heap.size (fun _ => True) (.slice (some ad216) t213.length co13) t213) := ⟨Z58 HO215⟩; have n1_ : Aside0 (w12.heap[gb212]? = some (.cells #[.int .i64 0, .int .i64 0] 24 (0, 0))) := ⟨Z25 BK212⟩; have n2_ : Aside0 (Below w.heap.size w w12) := ⟨Z59 GE212⟩; clear HO215 BK212 HB hq_; have HO215 := n0_; have BK212 := n1_; have HB := n2_; clear n0_ n1_ n2_)); have p219 : 0 ≤ (1 : Int) := (by omega); have q219 : 1 < (t213.length : Int) := of_decide_eq_true Z7; obtain ⟨ad219, e219, hx219_0⟩ := Kd.at_string (Kd.R_reads' HO215.out).2.2 1 p219 q219; obtain rfl : ad216 = ad219 := (by injection e219); (try simp only [show (1 : Int).toNat = 1 from rfl, Nat.reduceMul, Nat.reduceEqDiff, Go.Addr.add, ↓reduceIte] at hx219_0); have qi219 : (1 < t213.length) = True := eq_true (by omega); (try rw [show ((1 : Int)).toNat = 1 from rfl] at hx219_0); replace p219 := eq_true p219; replace q219 := eq_true q219) | ((with_reducible refine gate_callee (f := 41) rfl ?_); refine goesL_ (some 27) rfl rfl Try.func41 (by kernel_rfl) rfl #[.string (rdOf ByteArray.empty t213 1)] rfl sqA ?_; (with_reducible refine (spec_l1Digits.calls k (rdOf ByteArray.empty t213 1) t220 true _ A7.out).mono ?_); rintro e w' ⟨rfl, ⟨nd, rfl⟩⟩; refine ⟨_, rfl, ?_⟩; (try (rw [drewN_self w12]; generalize hq_ : World.drewN w12 _ = w12; have n0_ : Aside0 (Kd.R Kd.string 9 w12 w.heap.size (fun _ => True) (.slice (some ad216) t213.length co13) t213) := ⟨Z58 HO215⟩; have n1_ : Aside0 (w12.heap[gb212]? = some (.cells #[.int .i64 0, .int .i64 0] 24 (0, 0))) := ⟨Z25 BK212⟩; have n2_ : Aside0 (Below w.heap.size w w12) := ⟨Z59 GE212⟩; clear HO215 BK212 HB hq_; have HO215 := n0_; have BK212 := n1_; have HB := n2_; clear n0_ n1_ n2_))) | ((with_reducible refine gate_dst (N := 10) rfl ?_); (try (refine gate_guard (by rfl) ?_; dsimp only)); refine sqBox (N := 10) (cs := #[.int .i64 0, .int .i64 0]) (t := 24) ?_; intro gb222 hg w14 BK222 hb; replace HO215 := sqU HO215 hb; have GW222 := Aside0.mk ((sqG hg (sqB1 HB GE212))); have GE222 := GW222; replace HB := sqS (sqB1 HB GE212) hb; obtain ⟨NB212_222, NB222_212⟩ := sqM hg BK212; replace BK212 := sqT BK212 hb; clear hb hg; have hnb15 := NB222_212.out; have hnc15 := NB212_222.out; obtain ⟨hcz16_0, hcz16_1, hfz16_0, hfz16_1⟩ := sqY2 BK222; obtain ⟨hcz17_0, hcz17_1, hfz17_0, hfz17_1⟩ := sqY2 BK212))
       refine bodyPost_ret (results_ct rfl _ _ gb212 24 #[.int .i64 0, .int .i64 0] (0, 0) _ rfl (Z60 NB212_222 BK212) Try.underlying24 rfl (by kernel_rfl)) rfl ?_
       exact ⟨Z14, sqB2 HB GE212 GE222⟩
      ·rw [if_neg c10] at H
       have c10b0 : decide (2 < (t213.length : Int)) = false := decide_eq_false c10
       have c10b1 : decide (2 < t213.length) = false := decide_eq_false (by omega)
       clear c10
       obtain ⟨t223, A18, H⟩ := sqD H
       by_cases c19 : t223.toList = a0.toList
       ·rw [if_pos c19] at H
        have c19b0 : (t223.toList == a0.toList) = true := beq_iff_eq.mpr c19
        have c19b1 : (t223.toList != a0.toList) = false := bne_eq_false_iff_eq.mpr c19
        clear c19
        simp only [Option.some.injEq, Prod.mk.injEq] at H
        obtain ⟨rfl, rfl, rfl⟩ := H
        go_enter Try.func34, Try.ntmps34
        go_wp2_with (first | ((with_reducible refine gate_dst (N := 2) rfl ?_); (try (refine gate_guard (by rfl) ?_; dsimp only)); refine sqBox (N := 2) (cs := #[.int .i64 0, .int .i64 0]) (t := 24) ?_; intro gb212 hg w20 BK212 hb; have GW212 := Aside0.mk ((sqG hg (sqB HB))); have GE212 := GW212; replace HB := sqS (sqB HB) hb; clear hb hg) | ((with_reducible refine gate_callee (f := 40) rfl ?_); refine goesL_ (some 12) rfl rfl Try.func40 (by kernel_rfl) rfl #[.string a0, .int .u8 47] rfl sqA ?_; (with_reducible refine (spec_l1Cut.calls k a0 47 t213 _ A2.out).mono ?_); rintro e w21 ⟨v214, rfl, ho0, hb⟩; refine ⟨_, rfl, ?_⟩; have HO215 := sqL ho0 (sqB1 HB GE212); replace BK212 := sqT BK212 hb; replace HB := sqS (sqB1 HB GE212) hb; (try clear hb); (try clear ho0); obtain ⟨Ao22, co22, eo22⟩ := Kd.R_slice HO215.out; subst eo22; have p216 : 0 ≤ (0 : Int) := (by omega); have q216 : 0 < (t213.length : Int) := of_decide_eq_true Z7; obtain ⟨ad216, e216, hx216_0⟩ := Kd.at_string (Kd.R_reads' HO215.out).2.2 0 p216 q216; cases e216; have qi216 : (0 < t213.length) = True := eq_true (by omega); (try rw [show ((0 : Int)).toNat = 0 from rfl] at hx216_0); (try rw [Addr.add_zero'] at hx216_0); replace p216 := eq_true p216; replace q216 := eq_true q216) | ((with_reducible refine gate_callee (f := 41) rfl ?_); refine goesL_ (some 17) rfl rfl Try.func41 (by kernel_rfl) rfl #[.string (rdOf ByteArray.empty t213 0)] rfl sqA ?_; (with_reducible refine (spec_l1Digits.calls k (rdOf ByteArray.empty t213 0) t217 true _ A4.out).mono ?_); rintro e w' ⟨rfl, ⟨nd, rfl⟩⟩; refine ⟨_, rfl, ?_⟩; (try (rw [drewN_self w21]; generalize hq_ : World.drewN w21 _ = w21; have n0_ : Aside0 (Kd.R Kd.string 9 w21 w.heap.size (fun _ => True) (.slice (some ad216) t213.length co22) t213) := ⟨Z58 HO215⟩; have n1_ : Aside0 (w21.heap[gb212]? = some (.cells #[.int .i64 0, .int .i64 0] 24 (0, 0))) := ⟨Z25 BK212⟩; have n2_ : Aside0 (Below w.heap.size w w21) := ⟨Z59 GE212⟩; clear HO215 BK212 HB hq_; have HO215 := n0_; have BK212 := n1_; have HB := n2_; clear n0_ n1_ n2_)); have p219 : 0 ≤ (1 : Int) := (by omega); have q219 : 1 < (t213.length : Int) := of_decide_eq_true Z7; obtain ⟨ad219, e219, hx219_0⟩ := Kd.at_string (Kd.R_reads' HO215.out).2.2 1 p219 q219; obtain rfl : ad216 = ad219 := (by injection e219); (try simp only [show (1 : Int).toNat = 1 from rfl, Nat.reduceMul, Nat.reduceEqDiff, Go.Addr.add, ↓reduceIte] at hx219_0); have qi219 : (1 < t213.length) = True := eq_true (by omega); (try rw [show ((1 : Int)).toNat = 1 from rfl] at hx219_0); replace p219 := eq_true p219; replace q219 := eq_true q219) | ((with_reducible refine gate_callee (f := 41) rfl ?_); refine goesL_ (some 27) rfl rfl Try.func41 (by kernel_rfl) rfl #[.string (rdOf ByteArray.empty t213 1)] rfl sqA ?_; (with_reducible refine (spec_l1Digits.calls k (rdOf ByteArray.empty t213 1) t220 true _ A7.out).mono ?_); rintro e w' ⟨rfl, ⟨nd, rfl⟩⟩; refine ⟨_, rfl, ?_⟩; (try (rw [drewN_self w21]; generalize hq_ : World.drewN w21 _ = w21; have n0_ : Aside0 (Kd.R Kd.string 9 w21 w.heap.size (fun _ => True) (.slice (some ad216) t213.length co22) t213) := ⟨Z58 HO215⟩; have n1_ : Aside0 (w21.heap[gb212]? = some (.cells #[.int .i64 0, .int .i64 0] 24 (0, 0))) := ⟨Z25 BK212⟩; have n2_ : Aside0 (Below w.heap.size w w21) := ⟨Z59 GE212⟩; clear HO215 BK212 HB hq_; have HO215 := n0_; have BK212 := n1_; have HB := n2_; clear n0_ n1_ n2_))) | ((with_reducible refine gate_dst (N := 10) rfl ?_); (try (refine gate_guard (by rfl) ?_; dsimp only)); refine sqBox (N := 10) (cs := #[.int .i64 0, .int .i64 0]) (t := 24) ?_; intro gb222 hg w23 BK222 hb; replace HO215 := sqU HO215 hb; have GW222 := Aside0.mk ((sqG hg (sqB1 HB GE212))); have GE222 := GW222; replace HB := sqS (sqB1 HB GE212) hb; obtain ⟨NB212_222, NB222_212⟩ := sqM hg BK212; replace BK212 := sqT BK212 hb; clear hb hg; have hnb24 := NB222_212.out; have hnc24 := NB212_222.out; obtain ⟨hcz25_0, hcz25_1, hfz25_0, hfz25_1⟩ := sqY2 BK222) | (go_at_call 28; (with_reducible refine (spec_FractionText.calls k t217 t220 t223 _ A18.out).mono ?_); rintro e w26 ⟨rfl, hb⟩; replace HO215 := Aside0.mk (Kd.R_below (Z61 HO215 BK222) hb); replace BK212 := Aside0.mk (blk_below (g := gb212) (o := .cells #[.int .i64 0, .int .i64 0] 24 (0, 0)) (Z9 NB212_222 BK212) hb); replace BK222 := Aside0.mk (blk_below (g := gb222) (o := .cells #[.int .i64 t217, .int .i64 t220] 24 (0, 0)) (Z62 BK222) hb); replace HB := sqS (sqB2 HB GE212 GE222) hb; (try clear hb); obtain ⟨hcz27_0, hcz27_1, hfz27_0, hfz27_1⟩ := sqY2 BK222; obtain ⟨hcz28_0, hcz28_1, hfz28_0, hfz28_1⟩ := sqY2 BK212))
        refine bodyPost_ret (results_ct rfl _ _ gb212 24 #[.int .i64 t217, .int .i64 t220] (0, 0) _ rfl (Z62 BK212) Try.underlying24 rfl (by kernel_rfl)) rfl ?_
        exact ⟨Z14, sqB2 HB GE212 GE222⟩
       ·rw [if_neg c19] at H
        have c19b0 : (t223.toList == a0.toList) = false := beq_eq_false_iff_ne.mpr c19
        have c19b1 : (t223.toList != a0.toList) = true := bne_iff_ne.mpr c19
        simp only [Option.some.injEq, Prod.mk.injEq] at H
        obtain ⟨rfl, rfl, rfl⟩ := H
        go_enter Try.func34, Try.ntmps34
        go_wp2_with (first | ((with_reducible refine gate_dst (N := 2) rfl ?_); (try (refine gate_guard (by rfl) ?_; dsimp only)); refine sqBox (N := 2) (cs := #[.int .i64 0, .int .i64 0]) (t := 24) ?_; intro gb212 hg w29 BK212 hb; have GW212 := Aside0.mk ((sqG hg (sqB HB))); have GE212 := GW212; replace HB := sqS (sqB HB) hb; clear hb hg) | ((with_reducible refine gate_callee (f := 40) rfl ?_); refine goesL_ (some 12) rfl rfl Try.func40 (by kernel_rfl) rfl #[.string a0, .int .u8 47] rfl sqA ?_; (with_reducible refine (spec_l1Cut.calls k a0 47 t213 _ A2.out).mono ?_); rintro e w30 ⟨v214, rfl, ho0, hb⟩; refine ⟨_, rfl, ?_⟩; have HO215 := sqL ho0 (sqB1 HB GE212); replace BK212 := sqT BK212 hb; replace HB := sqS (sqB1 HB GE212) hb; (try clear hb); (try clear ho0); obtain ⟨Ao31, co31, eo31⟩ := Kd.R_slice HO215.out; subst eo31; have p216 : 0 ≤ (0 : Int) := (by omega); have q216 : 0 < (t213.length : Int) := of_decide_eq_true Z7; obtain ⟨ad216, e216, hx216_0⟩ := Kd.at_string (Kd.R_reads' HO215.out).2.2 0 p216 q216; cases e216; have qi216 : (0 < t213.length) = True := eq_true (by omega); (try rw [show ((0 : Int)).toNat = 0 from rfl] at hx216_0); (try rw [Addr.add_zero'] at hx216_0); replace p216 := eq_true p216; replace q216 := eq_true q216) | ((with_reducible refine gate_callee (f := 41) rfl ?_); refine goesL_ (some 17) rfl rfl Try.func41 (by kernel_rfl) rfl #[.string (rdOf ByteArray.empty t213 0)] rfl sqA ?_; (with_reducible refine (spec_l1Digits.calls k (rdOf ByteArray.empty t213 0) t217 true _ A4.out).mono ?_); rintro e w' ⟨rfl, ⟨nd, rfl⟩⟩; refine ⟨_, rfl, ?_⟩; (try (rw [drewN_self w30]; generalize hq_ : World.drewN w30 _ = w30; have n0_ : Aside0 (Kd.R Kd.string 9 w30 w.heap.size (fun _ => True) (.slice (some ad216) t213.length co31) t213) := ⟨Z58 HO215⟩; have n1_ : Aside0 (w30.heap[gb212]? = some (.cells #[.int .i64 0, .int .i64 0] 24 (0, 0))) := ⟨Z25 BK212⟩; have n2_ : Aside0 (Below w.heap.size w w30) := ⟨Z59 GE212⟩; clear HO215 BK212 HB hq_; have HO215 := n0_; have BK212 := n1_; have HB := n2_; clear n0_ n1_ n2_)); have p219 : 0 ≤ (1 : Int) := (by omega); have q219 : 1 < (t213.length : Int) := of_decide_eq_true Z7; obtain ⟨ad219, e219, hx219_0⟩ := Kd.at_string (Kd.R_reads' HO215.out).2.2 1 p219 q219; obtain rfl : ad216 = ad219 := (by injection e219); (try simp only [show (1 : Int).toNat = 1 from rfl, Nat.reduceMul, Nat.reduceEqDiff, Go.Addr.add, ↓reduceIte] at hx219_0); have qi219 : (1 < t213.length) = True := eq_true (by omega); (try rw [show ((1 : Int)).toNat = 1 from rfl] at hx219_0); replace p219 := eq_true p219; replace q219 := eq_true q219) | ((with_reducible refine gate_callee (f := 41) rfl ?_); refine goesL_ (some 27) rfl rfl Try.func41 (by kernel_rfl) rfl #[.string (rdOf ByteArray.empty t213 1)] rfl sqA ?_; (with_reducible refine (spec_l1Digits.calls k (rdOf ByteArray.empty t213 1) t220 true _ A7.out).mono ?_); rintro e w' ⟨rfl, ⟨nd, rfl⟩⟩; refine ⟨_, rfl, ?_⟩; (try (rw [drewN_self w30]; generalize hq_ : World.drewN w30 _ = w30; have n0_ : Aside0 (Kd.R Kd.string 9 w30 w.heap.size (fun _ => True) (.slice (some ad216) t213.length co31) t213) := ⟨Z58 HO215⟩; have n1_ : Aside0 (w30.heap[gb212]? = some (.cells #[.int .i64 0, .int .i64 0] 24 (0, 0))) := ⟨Z25 BK212⟩; have n2_ : Aside0 (Below w.heap.size w w30) := ⟨Z59 GE212⟩; clear HO215 BK212 HB hq_; have HO215 := n0_; have BK212 := n1_; have HB := n2_; clear n0_ n1_ n2_))) | ((with_reducible refine gate_dst (N := 10) rfl ?_); (try (refine gate_guard (by rfl) ?_; dsimp only)); refine sqBox (N := 10) (cs := #[.int .i64 0, .int .i64 0]) (t := 24) ?_; intro gb222 hg w32 BK222 hb; replace HO215 := sqU HO215 hb; have GW222 := Aside0.mk ((sqG hg (sqB1 HB GE212))); have GE222 := GW222; replace HB := sqS (sqB1 HB GE212) hb; obtain ⟨NB212_222, NB222_212⟩ := sqM hg BK212; replace BK212 := sqT BK212 hb; clear hb hg; have hnb33 := NB222_212.out; have hnc33 := NB212_222.out; obtain ⟨hcz34_0, hcz34_1, hfz34_0, hfz34_1⟩ := sqY2 BK222) | (go_at_call 28; (with_reducible refine (spec_FractionText.calls k t217 t220 t223 _ A18.out).mono ?_); rintro e w35 ⟨rfl, hb⟩; replace HO215 := Aside0.mk (Kd.R_below (Z61 HO215 BK222) hb); replace BK212 := Aside0.mk (blk_below (g := gb212) (o := .cells #[.int .i64 0, .int .i64 0] 24 (0, 0)) (Z9 NB212_222 BK212) hb); replace BK222 := Aside0.mk (blk_below (g := gb222) (o := .cells #[.int .i64 t217, .int .i64 t220] 24 (0, 0)) (Z62 BK222) hb); replace HB := sqS (sqB2 HB GE212 GE222) hb; (try clear hb); obtain ⟨hcz36_0, hcz36_1, hfz36_0, hfz36_1⟩ := sqY2 BK212))
        refine bodyPost_ret (results_ct rfl _ _ gb212 24 #[.int .i64 0, .int .i64 0] (0, 0) _ rfl (Z26 BK212) Try.underlying24 rfl (by kernel_rfl)) rfl ?_
        exact ⟨Z14, sqB2 HB GE212 GE222⟩
     ·replace c9 := Bool.eq_false_iff.mpr c9
      subst c9
      have H1 : (some (0, 0, false)) = some (r1, r2, r3) := by rw [if_neg (show ¬ (false = true) by decide)] at H; exact H
      clear H
      have H := H1
      clear H1
      simp only [Option.some.injEq, Prod.mk.injEq] at H
      obtain ⟨rfl, rfl, rfl⟩ := H
      go_enter Try.func34, Try.ntmps34
      go_wp2_with (first | ((with_reducible refine gate_dst (N := 2) rfl ?_); (try (refine gate_guard (by rfl) ?_; dsimp only)); refine sqBox (N := 2) (cs := #[.int .i64 0, .int .i64 0]) (t := 24) ?_; intro gb212 hg w37 BK212 hb; have GW212 := Aside0.mk ((sqG hg (sqB HB))); have GE212 := GW212; replace HB := sqS (sqB HB) hb; clear hb hg) | ((with_reducible refine gate_callee (f := 40) rfl ?_); refine goesL_ (some 12) rfl rfl Try.func40 (by kernel_rfl) rfl #[.string a0, .int .u8 47] rfl sqA ?_; (with_reducible refine (spec_l1Cut.calls k a0 47 t213 _ A2.out).mono ?_); rintro e w38 ⟨v214, rfl, ho0, hb⟩; refine ⟨_, rfl, ?_⟩; have HO215 := sqL ho0 (sqB1 HB GE212); replace BK212 := sqT BK212 hb; replace HB := sqS (sqB1 HB GE212) hb; (try clear hb); (try clear ho0); obtain ⟨Ao39, co39, eo39⟩ := Kd.R_slice HO215.out; subst eo39; have p216 : 0 ≤ (0 : Int) := (by omega); have q216 : 0 < (t213.length : Int) := of_decide_eq_true Z7; obtain ⟨ad216, e216, hx216_0⟩ := Kd.at_string (Kd.R_reads' HO215.out).2.2 0 p216 q216; cases e216; have qi216 : (0 < t213.length) = True := eq_true (by omega); (try rw [show ((0 : Int)).toNat = 0 from rfl] at hx216_0); (try rw [Addr.add_zero'] at hx216_0); replace p216 := eq_true p216; replace q216 := eq_true q216) | ((with_reducible refine gate_callee (f := 41) rfl ?_); refine goesL_ (some 17) rfl rfl Try.func41 (by kernel_rfl) rfl #[.string (rdOf ByteArray.empty t213 0)] rfl sqA ?_; (with_reducible refine (spec_l1Digits.calls k (rdOf ByteArray.empty t213 0) t217 true _ A4.out).mono ?_); rintro e w' ⟨rfl, ⟨nd, rfl⟩⟩; refine ⟨_, rfl, ?_⟩; (try (rw [drewN_self w38]; generalize hq_ : World.drewN w38 _ = w38; have n0_ : Aside0 (Kd.R Kd.string 9 w38 w.heap.size (fun _ => True) (.slice (some ad216) t213.length co39) t213) := ⟨Z58 HO215⟩; have n1_ : Aside0 (w38.heap[gb212]? = some (.cells #[.int .i64 0, .int .i64 0] 24 (0, 0))) := ⟨Z25 BK212⟩; have n2_ : Aside0 (Below w.heap.size w w38) := ⟨Z59 GE212⟩; clear HO215 BK212 HB hq_; have HO215 := n0_; have BK212 := n1_; have HB := n2_; clear n0_ n1_ n2_)); have p219 : 0 ≤ (1 : Int) := (by omega); have q219 : 1 < (t213.length : Int) := of_decide_eq_true Z7; obtain ⟨ad219, e219, hx219_0⟩ := Kd.at_string (Kd.R_reads' HO215.out).2.2 1 p219 q219; obtain rfl : ad216 = ad219 := (by injection e219); (try simp only [show (1 : Int).toNat = 1 from rfl, Nat.reduceMul, Nat.reduceEqDiff, Go.Addr.add, ↓reduceIte] at hx219_0); have qi219 : (1 < t213.length) = True := eq_true (by omega); (try rw [show ((1 : Int)).toNat = 1 from rfl] at hx219_0); replace p219 := eq_true p219; replace q219 := eq_true q219) | ((with_reducible refine gate_callee (f := 41) rfl ?_); refine goesL_ (some 27) rfl rfl Try.func41 (by kernel_rfl) rfl #[.string (rdOf ByteArray.empty t213 1)] rfl sqA ?_; (with_reducible refine (spec_l1Digits.calls k (rdOf ByteArray.empty t213 1) t220 false _ A7.out).mono ?_); rintro e w' ⟨rfl, ⟨nd, rfl⟩⟩; refine ⟨_, rfl, ?_⟩; (try (rw [drewN_self w38]; generalize hq_ : World.drewN w38 _ = w38; have n0_ : Aside0 (Kd.R Kd.string 9 w38 w.heap.size (fun _ => True) (.slice (some ad216) t213.length co39) t213) := ⟨Z58 HO215⟩; have n1_ : Aside0 (w38.heap[gb212]? = some (.cells #[.int .i64 0, .int .i64 0] 24 (0, 0))) := ⟨Z25 BK212⟩; have n2_ : Aside0 (Below w.heap.size w w38) := ⟨Z59 GE212⟩; clear HO215 BK212 HB hq_; have HO215 := n0_; have BK212 := n1_; have HB := n2_; clear n0_ n1_ n2_))) | ((with_reducible refine gate_dst (N := 10) rfl ?_); (try (refine gate_guard (by rfl) ?_; dsimp only)); refine sqBox (N := 10) (cs := #[.int .i64 0, .int .i64 0]) (t := 24) ?_; intro gb222 hg w40 BK222 hb; replace HO215 := sqU HO215 hb; have GW222 := Aside0.mk ((sqG hg (sqB1 HB GE212))); have GE222 := GW222; replace HB := sqS (sqB1 HB GE212) hb; obtain ⟨NB212_222, NB222_212⟩ := sqM hg BK212; replace BK212 := sqT BK212 hb; clear hb hg; have hnb41 := NB222_212.out; have hnc41 := NB212_222.out; obtain ⟨hcz42_0, hcz42_1, hfz42_0, hfz42_1⟩ := sqY2 BK222; obtain ⟨hcz43_0, hcz43_1, hfz43_0, hfz43_1⟩ := sqY2 BK212))
      refine bodyPost_ret (results_ct rfl _ _ gb212 24 #[.int .i64 0, .int .i64 0] (0, 0) _ rfl (Z60 NB212_222 BK212) Try.underlying24 rfl (by kernel_rfl)) rfl ?_
      exact ⟨Z14, sqB2 HB GE212 GE222⟩
    ·replace c8 := Bool.eq_false_iff.mpr c8
     subst c8
     have H1 : (some (0, 0, false)) = some (r1, r2, r3) := by rw [if_neg (show ¬ (false = true) by decide)] at H; exact H
     clear H
     have H := H1
     clear H1
     simp only [Option.some.injEq, Prod.mk.injEq] at H
     obtain ⟨rfl, rfl, rfl⟩ := H
     go_enter Try.func34, Try.ntmps34
     go_wp2_with (first | ((with_reducible refine gate_dst (N := 2) rfl ?_); (try (refine gate_guard (by rfl) ?_; dsimp only)); refine sqBox (N := 2) (cs := #[.int .i64 0, .int .i64 0]) (t := 24) ?_; intro gb212 hg w44 BK212 hb; have GW212 := Aside0.mk ((sqG hg (sqB HB))); have GE212 := GW212; replace HB := sqS (sqB HB) hb; clear hb hg) | ((with_reducible refine gate_callee (f := 40) rfl ?_); refine goesL_ (some 12) rfl rfl Try.func40 (by kernel_rfl) rfl #[.string a0, .int .u8 47] rfl sqA ?_; (with_reducible refine (spec_l1Cut.calls k a0 47 t213 _ A2.out).mono ?_); rintro e w45 ⟨v214, rfl, ho0, hb⟩; refine ⟨_, rfl, ?_⟩; have HO215 := sqL ho0 (sqB1 HB GE212); replace BK212 := sqT BK212 hb; replace HB := sqS (sqB1 HB GE212) hb; (try clear hb); (try clear ho0); obtain ⟨Ao46, co46, eo46⟩ := Kd.R_slice HO215.out; subst eo46; have p216 : 0 ≤ (0 : Int) := (by omega); have q216 : 0 < (t213.length : Int) := of_decide_eq_true Z7; obtain ⟨ad216, e216, hx216_0⟩ := Kd.at_string (Kd.R_reads' HO215.out).2.2 0 p216 q216; cases e216; have qi216 : (0 < t213.length) = True := eq_true (by omega); (try rw [show ((0 : Int)).toNat = 0 from rfl] at hx216_0); (try rw [Addr.add_zero'] at hx216_0); replace p216 := eq_true p216; replace q216 := eq_true q216) | ((with_reducible refine gate_callee (f := 41) rfl ?_); refine goesL_ (some 17) rfl rfl Try.func41 (by kernel_rfl) rfl #[.string (rdOf ByteArray.empty t213 0)] rfl sqA ?_; (with_reducible refine (spec_l1Digits.calls k (rdOf ByteArray.empty t213 0) t217 false _ A4.out).mono ?_); rintro e w' ⟨rfl, ⟨nd, rfl⟩⟩; refine ⟨_, rfl, ?_⟩; (try (rw [drewN_self w45]; generalize hq_ : World.drewN w45 _ = w45; have n0_ : Aside0 (Kd.R Kd.string 9 w45 w.heap.size (fun _ => True) (.slice (some ad216) t213.length co46) t213) := ⟨Z58 HO215⟩; have n1_ : Aside0 (w45.heap[gb212]? = some (.cells #[.int .i64 0, .int .i64 0] 24 (0, 0))) := ⟨Z25 BK212⟩; have n2_ : Aside0 (Below w.heap.size w w45) := ⟨Z59 GE212⟩; clear HO215 BK212 HB hq_; have HO215 := n0_; have BK212 := n1_; have HB := n2_; clear n0_ n1_ n2_)); have p219 : 0 ≤ (1 : Int) := (by omega); have q219 : 1 < (t213.length : Int) := of_decide_eq_true Z7; obtain ⟨ad219, e219, hx219_0⟩ := Kd.at_string (Kd.R_reads' HO215.out).2.2 1 p219 q219; obtain rfl : ad216 = ad219 := (by injection e219); (try simp only [show (1 : Int).toNat = 1 from rfl, Nat.reduceMul, Nat.reduceEqDiff, Go.Addr.add, ↓reduceIte] at hx219_0); have qi219 : (1 < t213.length) = True := eq_true (by omega); (try rw [show ((1 : Int)).toNat = 1 from rfl] at hx219_0); replace p219 := eq_true p219; replace q219 := eq_true q219) | ((with_reducible refine gate_callee (f := 41) rfl ?_); refine goesL_ (some 27) rfl rfl Try.func41 (by kernel_rfl) rfl #[.string (rdOf ByteArray.empty t213 1)] rfl sqA ?_; (with_reducible refine (spec_l1Digits.calls k (rdOf ByteArray.empty t213 1) t220 t221 _ A7.out).mono ?_); rintro e w' ⟨rfl, ⟨nd, rfl⟩⟩; refine ⟨_, rfl, ?_⟩; (try (rw [drewN_self w45]; generalize hq_ : World.drewN w45 _ = w45; have n0_ : Aside0 (Kd.R Kd.string 9 w45 w.heap.size (fun _ => True) (.slice (some ad216) t213.length co46) t213) := ⟨Z58 HO215⟩; have n1_ : Aside0 (w45.heap[gb212]? = some (.cells #[.int .i64 0, .int .i64 0] 24 (0, 0))) := ⟨Z25 BK212⟩; have n2_ : Aside0 (Below w.heap.size w w45) := ⟨Z59 GE212⟩; clear HO215 BK212 HB hq_; have HO215 := n0_; have BK212 := n1_; have HB := n2_; clear n0_ n1_ n2_))) | ((with_reducible refine gate_dst (N := 10) rfl ?_); (try (refine gate_guard (by rfl) ?_; dsimp only)); refine sqBox (N := 10) (cs := #[.int .i64 0, .int .i64 0]) (t := 24) ?_; intro gb224 hg w47 BK224 hb; replace HO215 := sqU HO215 hb; have GW224 := Aside0.mk ((sqG hg (sqB1 HB GE212))); have GE224 := GW224; replace HB := sqS (sqB1 HB GE212) hb; obtain ⟨NB212_224, NB224_212⟩ := sqM hg BK212; replace BK212 := sqT BK212 hb; clear hb hg; have hnb48 := NB224_212.out; have hnc48 := NB212_224.out; obtain ⟨hcz49_0, hcz49_1, hfz49_0, hfz49_1⟩ := sqY2 BK224; obtain ⟨hcz50_0, hcz50_1, hfz50_0, hfz50_1⟩ := sqY2 BK212))
     refine bodyPost_ret (results_ct rfl _ _ gb212 24 #[.int .i64 0, .int .i64 0] (0, 0) _ rfl (Z60 NB212_224 BK212) Try.underlying24 rfl (by kernel_rfl)) rfl ?_
     exact ⟨Z14, sqB2 HB GE212 GE224⟩
   ·rw [if_neg c6] at H
    exact absurd H (by simp)
  ·rw [if_neg c5] at H
   have c5b0 : ((t213.length : Int) == 2) = false := beq_eq_false_iff_ne.mpr c5
   have c5b1 : ((t213.length : Int) != 2) = true := bne_iff_ne.mpr c5
   by_cases c51 : t218 = true
   ·subst c51
    have H1 : (if (t213.length : Int) > 2 then (some (0, 0, false)) else ((spec_FractionText.f k t217 1).bind fun t226 => (if t226.toList = a0.toList then (some (t217, 1, true)) else (some (0, 0, false))))) = some (r1, r2, r3) := by rw [if_pos rfl] at H; exact H
    clear H
    have H := H1
    clear H1
    by_cases c52 : (t213.length : Int) > 2
    ·rw [if_pos c52] at H
     have c52b0 : decide (2 < (t213.length : Int)) = true := decide_eq_true c52
     have c52b1 : decide (2 < t213.length) = true := decide_eq_true (by omega)
     clear c52
     simp only [Option.some.injEq, Prod.mk.injEq] at H
     obtain ⟨rfl, rfl, rfl⟩ := H
     go_enter Try.func34, Try.ntmps34
     go_wp2_with (first | ((with_reducible refine gate_dst (N := 2) rfl ?_); (try (refine gate_guard (by rfl) ?_; dsimp only)); refine sqBox (N := 2) (cs := #[.int .i64 0, .int .i64 0]) (t := 24) ?_; intro gb212 hg w53 BK212 hb; have GW212 := Aside0.mk ((sqG hg (sqB HB))); have GE212 := GW212; replace HB := sqS (sqB HB) hb; clear hb hg) | ((with_reducible refine gate_callee (f := 40) rfl ?_); refine goesL_ (some 12) rfl rfl Try.func40 (by kernel_rfl) rfl #[.string a0, .int .u8 47] rfl sqA ?_; (with_reducible refine (spec_l1Cut.calls k a0 47 t213 _ A2.out).mono ?_); rintro e w54 ⟨v214, rfl, ho0, hb⟩; refine ⟨_, rfl, ?_⟩; have HO215 := sqL ho0 (sqB1 HB GE212); replace BK212 := sqT BK212 hb; replace HB := sqS (sqB1 HB GE212) hb; (try clear hb); (try clear ho0); obtain ⟨Ao55, co55, eo55⟩ := Kd.R_slice HO215.out; subst eo55; have p216 : 0 ≤ (0 : Int) := (by omega); have q216 : 0 < (t213.length : Int) := of_decide_eq_true Z7; obtain ⟨ad216, e216, hx216_0⟩ := Kd.at_string (Kd.R_reads' HO215.out).2.2 0 p216 q216; cases e216; have qi216 : (0 < t213.length) = True := eq_true (by omega); (try rw [show ((0 : Int)).toNat = 0 from rfl] at hx216_0); (try rw [Addr.add_zero'] at hx216_0); replace p216 := eq_true p216; replace q216 := eq_true q216) | ((with_reducible refine gate_callee (f := 41) rfl ?_); refine goesL_ (some 17) rfl rfl Try.func41 (by kernel_rfl) rfl #[.string (rdOf ByteArray.empty t213 0)] rfl sqA ?_; (with_reducible refine (spec_l1Digits.calls k (rdOf ByteArray.empty t213 0) t217 true _ A4.out).mono ?_); rintro e w' ⟨rfl, ⟨nd, rfl⟩⟩; refine ⟨_, rfl, ?_⟩; (try (rw [drewN_self w54]; generalize hq_ : World.drewN w54 _ = w54; have n0_ : Aside0 (Kd.R Kd.string 9 w54 w.heap.size (fun _ => True) (.slice (some ad216) t213.length co55) t213) := ⟨Z58 HO215⟩; have n1_ : Aside0 (w54.heap[gb212]? = some (.cells #[.int .i64 0, .int .i64 0] 24 (0, 0))) := ⟨Z25 BK212⟩; have n2_ : Aside0 (Below w.heap.size w w54) := ⟨Z59 GE212⟩; clear HO215 BK212 HB hq_; have HO215 := n0_; have BK212 := n1_; have HB := n2_; clear n0_ n1_ n2_))) | ((with_reducible refine gate_dst (N := 10) rfl ?_); (try (refine gate_guard (by rfl) ?_; dsimp only)); refine sqBox (N := 10) (cs := #[.int .i64 0, .int .i64 0]) (t := 24) ?_; intro gb225 hg w56 BK225 hb; replace HO215 := sqU HO215 hb; have GW225 := Aside0.mk ((sqG hg (sqB1 HB GE212))); have GE225 := GW225; replace HB := sqS (sqB1 HB GE212) hb; obtain ⟨NB212_225, NB225_212⟩ := sqM hg BK212; replace BK212 := sqT BK212 hb; clear hb hg; have hnb57 := NB225_212.out; have hnc57 := NB212_225.out; obtain ⟨hcz58_0, hcz58_1, hfz58_0, hfz58_1⟩ := sqY2 BK225; obtain ⟨hcz59_0, hcz59_1, hfz59_0, hfz59_1⟩ := sqY2 BK212))
     refine bodyPost_ret (results_ct rfl _ _ gb212 24 #[.int .i64 0, .int .i64 0] (0, 0) _ rfl (Z60 NB212_225 BK212) Try.underlying24 rfl (by kernel_rfl)) rfl ?_
     exact ⟨Z14, sqB2 HB GE212 GE225⟩
    ·rw [if_neg c52] at H
     have c52b0 : decide (2 < (t213.length : Int)) = false := decide_eq_false c52
     have c52b1 : decide (2 < t213.length) = false := decide_eq_false (by omega)
     clear c52
     obtain ⟨t226, A60, H⟩ := sqD H
     by_cases c61 : t226.toList = a0.toList
     ·rw [if_pos c61] at H
      have c61b0 : (t226.toList == a0.toList) = true := beq_iff_eq.mpr c61
      have c61b1 : (t226.toList != a0.toList) = false := bne_eq_false_iff_eq.mpr c61
      clear c61
      simp only [Option.some.injEq, Prod.mk.injEq] at H
      obtain ⟨rfl, rfl, rfl⟩ := H
      go_enter Try.func34, Try.ntmps34
      go_wp2_with (first | ((with_reducible refine gate_dst (N := 2) rfl ?_); (try (refine gate_guard (by rfl) ?_; dsimp only)); refine sqBox (N := 2) (cs := #[.int .i64 0, .int .i64 0]) (t := 24) ?_; intro gb212 hg w62 BK212 hb; have GW212 := Aside0.mk ((sqG hg (sqB HB))); have GE212 := GW212; replace HB := sqS (sqB HB) hb; clear hb hg) | ((with_reducible refine gate_callee (f := 40) rfl ?_); refine goesL_ (some 12) rfl rfl Try.func40 (by kernel_rfl) rfl #[.string a0, .int .u8 47] rfl sqA ?_; (with_reducible refine (spec_l1Cut.calls k a0 47 t213 _ A2.out).mono ?_); rintro e w63 ⟨v214, rfl, ho0, hb⟩; refine ⟨_, rfl, ?_⟩; have HO215 := sqL ho0 (sqB1 HB GE212); replace BK212 := sqT BK212 hb; replace HB := sqS (sqB1 HB GE212) hb; (try clear hb); (try clear ho0); obtain ⟨Ao64, co64, eo64⟩ := Kd.R_slice HO215.out; subst eo64; have p216 : 0 ≤ (0 : Int) := (by omega); have q216 : 0 < (t213.length : Int) := of_decide_eq_true Z7; obtain ⟨ad216, e216, hx216_0⟩ := Kd.at_string (Kd.R_reads' HO215.out).2.2 0 p216 q216; cases e216; have qi216 : (0 < t213.length) = True := eq_true (by omega); (try rw [show ((0 : Int)).toNat = 0 from rfl] at hx216_0); (try rw [Addr.add_zero'] at hx216_0); replace p216 := eq_true p216; replace q216 := eq_true q216) | ((with_reducible refine gate_callee (f := 41) rfl ?_); refine goesL_ (some 17) rfl rfl Try.func41 (by kernel_rfl) rfl #[.string (rdOf ByteArray.empty t213 0)] rfl sqA ?_; (with_reducible refine (spec_l1Digits.calls k (rdOf ByteArray.empty t213 0) t217 true _ A4.out).mono ?_); rintro e w' ⟨rfl, ⟨nd, rfl⟩⟩; refine ⟨_, rfl, ?_⟩; (try (rw [drewN_self w63]; generalize hq_ : World.drewN w63 _ = w63; have n0_ : Aside0 (Kd.R Kd.string 9 w63 w.heap.size (fun _ => True) (.slice (some ad216) t213.length co64) t213) := ⟨Z58 HO215⟩; have n1_ : Aside0 (w63.heap[gb212]? = some (.cells #[.int .i64 0, .int .i64 0] 24 (0, 0))) := ⟨Z25 BK212⟩; have n2_ : Aside0 (Below w.heap.size w w63) := ⟨Z59 GE212⟩; clear HO215 BK212 HB hq_; have HO215 := n0_; have BK212 := n1_; have HB := n2_; clear n0_ n1_ n2_))) | ((with_reducible refine gate_dst (N := 10) rfl ?_); (try (refine gate_guard (by rfl) ?_; dsimp only)); refine sqBox (N := 10) (cs := #[.int .i64 0, .int .i64 0]) (t := 24) ?_; intro gb225 hg w65 BK225 hb; replace HO215 := sqU HO215 hb; have GW225 := Aside0.mk ((sqG hg (sqB1 HB GE212))); have GE225 := GW225; replace HB := sqS (sqB1 HB GE212) hb; obtain ⟨NB212_225, NB225_212⟩ := sqM hg BK212; replace BK212 := sqT BK212 hb; clear hb hg; have hnb66 := NB225_212.out; have hnc66 := NB212_225.out; obtain ⟨hcz67_0, hcz67_1, hfz67_0, hfz67_1⟩ := sqY2 BK225) | (go_at_call 28; (with_reducible refine (spec_FractionText.calls k t217 1 t226 _ A60.out).mono ?_); rintro e w68 ⟨rfl, hb⟩; replace HO215 := Aside0.mk (Kd.R_below (Z63 HO215 BK225) hb); replace BK212 := Aside0.mk (blk_below (g := gb212) (o := .cells #[.int .i64 0, .int .i64 0] 24 (0, 0)) (Z9 NB212_225 BK212) hb); replace BK225 := Aside0.mk (blk_below (g := gb225) (o := .cells #[.int .i64 t217, .int .i64 1] 24 (0, 0)) (Z62 BK225) hb); replace HB := sqS (sqB2 HB GE212 GE225) hb; (try clear hb); obtain ⟨hcz69_0, hcz69_1, hfz69_0, hfz69_1⟩ := sqY2 BK225; obtain ⟨hcz70_0, hcz70_1, hfz70_0, hfz70_1⟩ := sqY2 BK212))
      refine bodyPost_ret (results_ct rfl _ _ gb212 24 #[.int .i64 t217, .int .i64 1] (0, 0) _ rfl (Z62 BK212) Try.underlying24 rfl (by kernel_rfl)) rfl ?_
      exact ⟨Z14, sqB2 HB GE212 GE225⟩
     ·rw [if_neg c61] at H
      have c61b0 : (t226.toList == a0.toList) = false := beq_eq_false_iff_ne.mpr c61
      have c61b1 : (t226.toList != a0.toList) = true := bne_iff_ne.mpr c61
      simp only [Option.some.injEq, Prod.mk.injEq] at H
      obtain ⟨rfl, rfl, rfl⟩ := H
      go_enter Try.func34, Try.ntmps34
      go_wp2_with (first | ((with_reducible refine gate_dst (N := 2) rfl ?_); (try (refine gate_guard (by rfl) ?_; dsimp only)); refine sqBox (N := 2) (cs := #[.int .i64 0, .int .i64 0]) (t := 24) ?_; intro gb212 hg w71 BK212 hb; have GW212 := Aside0.mk ((sqG hg (sqB HB))); have GE212 := GW212; replace HB := sqS (sqB HB) hb; clear hb hg) | ((with_reducible refine gate_callee (f := 40) rfl ?_); refine goesL_ (some 12) rfl rfl Try.func40 (by kernel_rfl) rfl #[.string a0, .int .u8 47] rfl sqA ?_; (with_reducible refine (spec_l1Cut.calls k a0 47 t213 _ A2.out).mono ?_); rintro e w72 ⟨v214, rfl, ho0, hb⟩; refine ⟨_, rfl, ?_⟩; have HO215 := sqL ho0 (sqB1 HB GE212); replace BK212 := sqT BK212 hb; replace HB := sqS (sqB1 HB GE212) hb; (try clear hb); (try clear ho0); obtain ⟨Ao73, co73, eo73⟩ := Kd.R_slice HO215.out; subst eo73; have p216 : 0 ≤ (0 : Int) := (by omega); have q216 : 0 < (t213.length : Int) := of_decide_eq_true Z7; obtain ⟨ad216, e216, hx216_0⟩ := Kd.at_string (Kd.R_reads' HO215.out).2.2 0 p216 q216; cases e216; have qi216 : (0 < t213.length) = True := eq_true (by omega); (try rw [show ((0 : Int)).toNat = 0 from rfl] at hx216_0); (try rw [Addr.add_zero'] at hx216_0); replace p216 := eq_true p216; replace q216 := eq_true q216) | ((with_reducible refine gate_callee (f := 41) rfl ?_); refine goesL_ (some 17) rfl rfl Try.func41 (by kernel_rfl) rfl #[.string (rdOf ByteArray.empty t213 0)] rfl sqA ?_; (with_reducible refine (spec_l1Digits.calls k (rdOf ByteArray.empty t213 0) t217 true _ A4.out).mono ?_); rintro e w' ⟨rfl, ⟨nd, rfl⟩⟩; refine ⟨_, rfl, ?_⟩; (try (rw [drewN_self w72]; generalize hq_ : World.drewN w72 _ = w72; have n0_ : Aside0 (Kd.R Kd.string 9 w72 w.heap.size (fun _ => True) (.slice (some ad216) t213.length co73) t213) := ⟨Z58 HO215⟩; have n1_ : Aside0 (w72.heap[gb212]? = some (.cells #[.int .i64 0, .int .i64 0] 24 (0, 0))) := ⟨Z25 BK212⟩; have n2_ : Aside0 (Below w.heap.size w w72) := ⟨Z59 GE212⟩; clear HO215 BK212 HB hq_; have HO215 := n0_; have BK212 := n1_; have HB := n2_; clear n0_ n1_ n2_))) | ((with_reducible refine gate_dst (N := 10) rfl ?_); (try (refine gate_guard (by rfl) ?_; dsimp only)); refine sqBox (N := 10) (cs := #[.int .i64 0, .int .i64 0]) (t := 24) ?_; intro gb225 hg w74 BK225 hb; replace HO215 := sqU HO215 hb; have GW225 := Aside0.mk ((sqG hg (sqB1 HB GE212))); have GE225 := GW225; replace HB := sqS (sqB1 HB GE212) hb; obtain ⟨NB212_225, NB225_212⟩ := sqM hg BK212; replace BK212 := sqT BK212 hb; clear hb hg; have hnb75 := NB225_212.out; have hnc75 := NB212_225.out; obtain ⟨hcz76_0, hcz76_1, hfz76_0, hfz76_1⟩ := sqY2 BK225) | (go_at_call 28; (with_reducible refine (spec_FractionText.calls k t217 1 t226 _ A60.out).mono ?_); rintro e w77 ⟨rfl, hb⟩; replace HO215 := Aside0.mk (Kd.R_below (Z63 HO215 BK225) hb); replace BK212 := Aside0.mk (blk_below (g := gb212) (o := .cells #[.int .i64 0, .int .i64 0] 24 (0, 0)) (Z9 NB212_225 BK212) hb); replace BK225 := Aside0.mk (blk_below (g := gb225) (o := .cells #[.int .i64 t217, .int .i64 1] 24 (0, 0)) (Z62 BK225) hb); replace HB := sqS (sqB2 HB GE212 GE225) hb; (try clear hb); obtain ⟨hcz78_0, hcz78_1, hfz78_0, hfz78_1⟩ := sqY2 BK212))
      refine bodyPost_ret (results_ct rfl _ _ gb212 24 #[.int .i64 0, .int .i64 0] (0, 0) _ rfl (Z26 BK212) Try.underlying24 rfl (by kernel_rfl)) rfl ?_
      exact ⟨Z14, sqB2 HB GE212 GE225⟩
   ·replace c51 := Bool.eq_false_iff.mpr c51
    subst c51
    have H1 : (some (0, 0, false)) = some (r1, r2, r3) := by rw [if_neg (show ¬ (false = true) by decide)] at H; exact H
    clear H
    have H := H1
    clear H1
    simp only [Option.some.injEq, Prod.mk.injEq] at H
    obtain ⟨rfl, rfl, rfl⟩ := H
    go_enter Try.func34, Try.ntmps34
    go_wp2_with (first | ((with_reducible refine gate_dst (N := 2) rfl ?_); (try (refine gate_guard (by rfl) ?_; dsimp only)); refine sqBox (N := 2) (cs := #[.int .i64 0, .int .i64 0]) (t := 24) ?_; intro gb212 hg w79 BK212 hb; have GW212 := Aside0.mk ((sqG hg (sqB HB))); have GE212 := GW212; replace HB := sqS (sqB HB) hb; clear hb hg) | ((with_reducible refine gate_callee (f := 40) rfl ?_); refine goesL_ (some 12) rfl rfl Try.func40 (by kernel_rfl) rfl #[.string a0, .int .u8 47] rfl sqA ?_; (with_reducible refine (spec_l1Cut.calls k a0 47 t213 _ A2.out).mono ?_); rintro e w80 ⟨v214, rfl, ho0, hb⟩; refine ⟨_, rfl, ?_⟩; have HO215 := sqL ho0 (sqB1 HB GE212); replace BK212 := sqT BK212 hb; replace HB := sqS (sqB1 HB GE212) hb; (try clear hb); (try clear ho0); obtain ⟨Ao81, co81, eo81⟩ := Kd.R_slice HO215.out; subst eo81; have p216 : 0 ≤ (0 : Int) := (by omega); have q216 : 0 < (t213.length : Int) := of_decide_eq_true Z7; obtain ⟨ad216, e216, hx216_0⟩ := Kd.at_string (Kd.R_reads' HO215.out).2.2 0 p216 q216; cases e216; have qi216 : (0 < t213.length) = True := eq_true (by omega); (try rw [show ((0 : Int)).toNat = 0 from rfl] at hx216_0); (try rw [Addr.add_zero'] at hx216_0); replace p216 := eq_true p216; replace q216 := eq_true q216) | ((with_reducible refine gate_callee (f := 41) rfl ?_); refine goesL_ (some 17) rfl rfl Try.func41 (by kernel_rfl) rfl #[.string (rdOf ByteArray.empty t213 0)] rfl sqA ?_; (with_reducible refine (spec_l1Digits.calls k (rdOf ByteArray.empty t213 0) t217 false _ A4.out).mono ?_); rintro e w' ⟨rfl, ⟨nd, rfl⟩⟩; refine ⟨_, rfl, ?_⟩; (try (rw [drewN_self w80]; generalize hq_ : World.drewN w80 _ = w80; have n0_ : Aside0 (Kd.R Kd.string 9 w80 w.heap.size (fun _ => True) (.slice (some ad216) t213.length co81) t213) := ⟨Z58 HO215⟩; have n1_ : Aside0 (w80.heap[gb212]? = some (.cells #[.int .i64 0, .int .i64 0] 24 (0, 0))) := ⟨Z25 BK212⟩; have n2_ : Aside0 (Below w.heap.size w w80) := ⟨Z59 GE212⟩; clear HO215 BK212 HB hq_; have HO215 := n0_; have BK212 := n1_; have HB := n2_; clear n0_ n1_ n2_))) | ((with_reducible refine gate_dst (N := 10) rfl ?_); (try (refine gate_guard (by rfl) ?_; dsimp only)); refine sqBox (N := 10) (cs := #[.int .i64 0, .int .i64 0]) (t := 24) ?_; intro gb225 hg w82 BK225 hb; replace HO215 := sqU HO215 hb; have GW225 := Aside0.mk ((sqG hg (sqB1 HB GE212))); have GE225 := GW225; replace HB := sqS (sqB1 HB GE212) hb; obtain ⟨NB212_225, NB225_212⟩ := sqM hg BK212; replace BK212 := sqT BK212 hb; clear hb hg; have hnb83 := NB225_212.out; have hnc83 := NB212_225.out; obtain ⟨hcz84_0, hcz84_1, hfz84_0, hfz84_1⟩ := sqY2 BK225; obtain ⟨hcz85_0, hcz85_1, hfz85_0, hfz85_1⟩ := sqY2 BK212))
    refine bodyPost_ret (results_ct rfl _ _ gb212 24 #[.int .i64 0, .int .i64 0] (0, 0) _ rfl (Z60 NB212_225 BK212) Try.underlying24 rfl (by kernel_rfl)) rfl ?_
    exact ⟨Z14, sqB2 HB GE212 GE225⟩
 ·rw [if_neg c3] at H
  exact absurd H (by simp)

/-! ### spec_MirrorOf: function 35 -/
def spec_MirrorOf.f (k : Nat) (a0_0 : Int) (a0_1 : Int) : Option (Int × Int) := (spec_FractionOk.f k a0_0 a0_1).bind fun t229 => (if t229 = true then ((spec_LowestOf.f k (wrap64 (-a0_0)) a0_1).bind fun bt230 => (some (bt230.1, bt230.2.1))) else (some (0, 0)))
theorem spec_MirrorOf.mono : ∀ a0 a1 k, LeO (spec_MirrorOf.f k a0 a1) (spec_MirrorOf.f (k + 1) a0 a1) := by
 intro a0 a1 k
 unfold spec_MirrorOf.f
 repeat' first
   | (with_reducible exact spec_FractionOk.mono _ _ _)
   | (with_reducible exact spec_LowestOf.mono _ _ _)
   | (with_reducible exact LeO.refl _)
   | (with_reducible exact LeO.none _)
   | (with_reducible refine LeO.ite ?_ ?_)
   | (with_reducible refine LeO.bind ?_ (fun _ => ?_))
set_option maxHeartbeats 8000000 in
set_option maxRecDepth 100000 in
theorem spec_MirrorOf.calls (k : Nat) (a0_0 : Int) (a0_1 : Int) (r1 : Int) (r2 : Int) (w : World) (h : spec_MirrorOf.f k a0_0 a0_1 = some (r1, r2)) :
  Calls Try.prog 35 #[.agg #[.int .i64 a0_0, .int .i64 a0_1]] w fun e w' => e = .returned (.agg #[.int .i64 r1, .int .i64 r2]) ∧ Below w.heap.size w w' := by
 have hu24 := Try.underlying24
 have HB := Aside0.mk (Below.refl w.heap.size w)
 have H : ((spec_FractionOk.f k a0_0 a0_1).bind fun t229 => (if t229 = true then ((spec_LowestOf.f k (wrap64 (-a0_0)) a0_1).bind fun bt230 => (some (bt230.1, bt230.2.1))) else (some (0, 0)))) = some (r1, r2) := h
 clear h
 obtain ⟨t229, A2, H⟩ := sqD H
 by_cases c3 : t229 = true
 ·subst c3
  have H1 : ((spec_LowestOf.f k (wrap64 (-a0_0)) a0_1).bind fun bt230 => (some (bt230.1, bt230.2.1))) = some (r1, r2) := by rw [if_pos rfl] at H; exact H
  clear H
  have H := H1
  clear H1
  replace H := Option.bind_eq_some_iff.mp H
  obtain ⟨⟨t230, t231, t232⟩, A40, H⟩ := H
  replace H : (some (t230, t231)) = some (r1, r2) := H
  have A4 := Aside0.mk A40
  clear A40
  simp only [Option.some.injEq, Prod.mk.injEq] at H
  obtain ⟨rfl, rfl⟩ := H
  go_enter Try.func35, Try.ntmps35
  go_wp2_with (first | ((with_reducible refine gate_dst (N := 1) rfl ?_); refine sqBox (N := 1) (cs := #[.int .i64 a0_0, .int .i64 a0_1]) (t := 24) ?_; intro gb227 hg w5 BK227 hb; have GW227 := Aside0.mk ((sqG hg (sqB HB))); have GE227 := GW227; replace HB := sqS (sqB HB) hb; clear hb hg) | ((with_reducible refine gate_dst (N := 2) rfl ?_); refine sqBox (N := 2) (cs := #[.int .i64 0, .int .i64 0]) (t := 24) ?_; intro gb228 hg w6 BK228 hb; have GW228 := Aside0.mk ((sqG hg (sqB1 HB GE227))); have GE228 := GW228; replace HB := sqS (sqB1 HB GE227) hb; obtain ⟨NB227_228, NB228_227⟩ := sqM hg BK227; replace BK227 := sqT BK227 hb; clear hb hg; have hnb7 := NB227_228.out; have hnc7 := NB228_227.out; obtain ⟨hcz8_0, hcz8_1, hfz8_0, hfz8_1⟩ := sqY2 BK227) | ((with_reducible refine gate_callee (f := 11) rfl ?_); refine goesL_ (some 6) rfl rfl Try.func11 (by kernel_rfl) rfl #[.agg #[.int .i64 a0_0, .int .i64 a0_1]] rfl sqA ?_; (with_reducible refine (spec_FractionOk.calls k a0_0 a0_1 true _ A2.out).mono ?_); rintro e w9 ⟨rfl, hb⟩; refine ⟨_, rfl, ?_⟩; replace BK227 := sqT BK227 hb; replace BK228 := sqT BK228 hb; replace HB := sqS (sqB2 HB GE227 GE228) hb; (try clear hb); obtain ⟨hcz10_0, hcz10_1, hfz10_0, hfz10_1⟩ := sqY2 BK227) | ((with_reducible refine gate_callee (f := 24) rfl ?_); refine goesL_ (some 15) rfl rfl Try.func24 (by kernel_rfl) rfl #[.int .i64 (wrap64 (-a0_0)), .int .i64 a0_1] rfl sqA ?_; (with_reducible refine (spec_LowestOf.calls k (wrap64 (-a0_0)) a0_1 t230 t231 t232 _ A4.out).mono ?_); rintro e w11 ⟨rfl, hb⟩; refine ⟨_, rfl, ?_⟩; replace BK227 := sqT BK227 hb; replace BK228 := sqT BK228 hb; replace HB := sqS (sqB2 HB GE227 GE228) hb; (try clear hb)) | ((with_reducible refine gate_dst (N := 3) rfl ?_); refine sqBox (N := 3) (cs := #[.int .i64 0, .int .i64 0]) (t := 24) ?_; intro gb233 hg w12 BK233 hb; have GW233 := Aside0.mk ((sqG hg (sqB2 HB GE227 GE228))); have GE233 := GW233; replace HB := sqS (sqB2 HB GE227 GE228) hb; obtain ⟨NB227_233, NB233_227⟩ := sqM hg BK227; replace BK227 := sqT BK227 hb; obtain ⟨NB228_233, NB233_228⟩ := sqM hg BK228; replace BK228 := sqT BK228 hb; clear hb hg; have hnb13 := NB233_227.out; have hnc13 := NB227_233.out; have hnb14 := NB233_228.out; have hnc14 := NB228_233.out; obtain ⟨hcz15_0, hcz15_1, hfz15_0, hfz15_1⟩ := sqY2 BK233; obtain ⟨hcz16_0, hcz16_1, hfz16_0, hfz16_1⟩ := sqY2 BK228))
  refine bodyPost_ret (results_cell_row rfl _ _ gb228 24 #[.int .i64 t230, .int .i64 t231] (0, 0) _ rfl (by refine sqPut (cs := #[.int .i64 t230, .int .i64 0]) ?_ 1; refine sqPut (cs := #[.int .i64 0, .int .i64 0]) ?_ 0; refine sqFar ?_ NB228_233; refine sqFar ?_ NB228_233; exact sqK BK228) Try.underlying24 rfl (by kernel_rfl)) rfl ?_
  exact ⟨Z14, sqB3 HB GE227 GE228 GE233⟩
 ·replace c3 := Bool.eq_false_iff.mpr c3
  subst c3
  have H1 : (some (0, 0)) = some (r1, r2) := by rw [if_neg (show ¬ (false = true) by decide)] at H; exact H
  clear H
  have H := H1
  clear H1
  simp only [Option.some.injEq, Prod.mk.injEq] at H
  obtain ⟨rfl, rfl⟩ := H
  go_enter Try.func35, Try.ntmps35
  go_wp2_with (first | ((with_reducible refine gate_dst (N := 1) rfl ?_); refine sqBox (N := 1) (cs := #[.int .i64 a0_0, .int .i64 a0_1]) (t := 24) ?_; intro gb227 hg w17 BK227 hb; have GW227 := Aside0.mk ((sqG hg (sqB HB))); have GE227 := GW227; replace HB := sqS (sqB HB) hb; clear hb hg) | ((with_reducible refine gate_dst (N := 2) rfl ?_); refine sqBox (N := 2) (cs := #[.int .i64 0, .int .i64 0]) (t := 24) ?_; intro gb228 hg w18 BK228 hb; have GW228 := Aside0.mk ((sqG hg (sqB1 HB GE227))); have GE228 := GW228; replace HB := sqS (sqB1 HB GE227) hb; obtain ⟨NB227_228, NB228_227⟩ := sqM hg BK227; replace BK227 := sqT BK227 hb; clear hb hg; have hnb19 := NB227_228.out; have hnc19 := NB228_227.out; obtain ⟨hcz20_0, hcz20_1, hfz20_0, hfz20_1⟩ := sqY2 BK227) | ((with_reducible refine gate_callee (f := 11) rfl ?_); refine goesL_ (some 6) rfl rfl Try.func11 (by kernel_rfl) rfl #[.agg #[.int .i64 a0_0, .int .i64 a0_1]] rfl sqA ?_; (with_reducible refine (spec_FractionOk.calls k a0_0 a0_1 false _ A2.out).mono ?_); rintro e w21 ⟨rfl, hb⟩; refine ⟨_, rfl, ?_⟩; replace BK227 := sqT BK227 hb; replace BK228 := sqT BK228 hb; replace HB := sqS (sqB2 HB GE227 GE228) hb; (try clear hb); obtain ⟨hcz22_0, hcz22_1, hfz22_0, hfz22_1⟩ := sqY2 BK228))
  refine bodyPost_ret (results_cell_row rfl _ _ gb228 24 #[.int .i64 0, .int .i64 0] (0, 0) _ rfl (Z26 BK228) Try.underlying24 rfl (by kernel_rfl)) rfl ?_
  exact ⟨Z14, sqB2 HB GE227 GE228⟩

end Go.Proofs.Ytcfnihniaakbeaa.PFnDeskOk
