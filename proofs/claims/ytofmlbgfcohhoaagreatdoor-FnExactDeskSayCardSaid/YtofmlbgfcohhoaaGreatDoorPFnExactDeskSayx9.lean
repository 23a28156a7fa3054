import Derived.Test.YtofmlbgfcohhoaaGreatDoorPFnExactDeskSayx2
import Derived.Test.YtofmlbgfcohhoaaGreatDoorPFnExactDeskSayx7
import Derived.Test.YtofmlbgfcohhoaaGreatDoorPFnExactDeskSayx8
set_option maxHeartbeats 8000000
set_option maxRecDepth 100000
namespace Go.Proofs.YtofmlbgfcohhoaaGreatDoor.PFnExactDeskSay
open Go.RowKit Go.Proofs.YtofmlbgfcohhoaaGreatDoorW.PrintWords Go.Proofs.YtofmlbgfcohhoaaGreatDoorW.PrintLast Go.Proofs.YtofmlbgfcohhoaaGreatDoorW.PrintMore Go.Proofs.YtofmlbgfcohhoaaGreatDoor.Lib Go.Proofs.Tryz
attribute [local go_sem] max2_int min2_int max_two min_two max_three min_three max_four min_four   -- for this text's walks alone
set_option linter.unusedVariables false
set_option linter.unusedSimpArgs false

attribute [local go_sem high] eqA38
/-! ### spec_l1Digits: function 100 -/
mutual
def spec_l1Digits.j0 : Nat → ByteArray → Bool → Option (Int × Bool)
 | 0, _, _ => none
 | k + 1, x0, x15 => if x15 = true then (if 1 ≤ (x0.size : Int) then ((spec_l1Digits.f k (x0.extract 1 x0.size)).bind fun bt0 => (if bt0.2 = true then (some (wrap64 (-bt0.1), decide (bt0.1 > 0))) else (some (wrap64 (-bt0.1), false)))) else (none)) else ((spec_l1In.f (x0.size : Int) 1 7).bind fun t0 => (if t0 = true then (if (x0.size : Int) > 1 then (if 0 < (x0.size : Int) then (spec_l1Digits.j1 k x0 ((bt x0 0) == 48)) else (none)) else (spec_l1Digits.j1 k x0 false)) else (spec_l1Digits.j1 k x0 true)))
def spec_l1Digits.j1 : Nat → ByteArray → Bool → Option (Int × Bool)
 | 0, _, _ => none
 | k + 1, x0, x42 => if x42 = true then (some (0, false)) else (spec_l1Digits.l0 k x0 0 0)
def spec_l1Digits.l0 : Nat → ByteArray → Int → Int → Option (Int × Bool)
 | 0, _, _, _ => none
 | k + 1, x0, x6, x7 => if x7 < (x0.size : Int) then (if 0 ≤ x7 then (if (bt x0 x7) < 48 then (some (0, false)) else (if (bt x0 x7) > 57 then (some (0, false)) else (spec_l1Digits.l0 k x0 (wrap64 ((wrap64 (10 * x6)) + (((bt x0 x7) - 48) % 256))) (wrap64 (x7 + 1))))) else (none)) else (some (x6, true))
def spec_l1Digits.f : Nat → ByteArray → Option (Int × Bool)
 | 0, _ => none
 | k + 1, a0 => if (a0.size : Int) > 1 then (if 0 < (a0.size : Int) then (spec_l1Digits.j0 k a0 ((bt a0 0) == 45)) else (none)) else (spec_l1Digits.j0 k a0 false)
end
theorem spec_l1Digits.mono_l : ∀ k, (∀ y0, LeO (spec_l1Digits.f k y0) (spec_l1Digits.f (k + 1) y0)) ∧ (∀ y0 y1, LeO (spec_l1Digits.j0 k y0 y1) (spec_l1Digits.j0 (k + 1) y0 y1)) ∧ (∀ y0 y1, LeO (spec_l1Digits.j1 k y0 y1) (spec_l1Digits.j1 (k + 1) y0 y1)) ∧ (∀ y0 y1 y2, LeO (spec_l1Digits.l0 k y0 y1 y2) (spec_l1Digits.l0 (k + 1) y0 y1 y2))
 | 0 => ⟨fun _ r h => by simp [spec_l1Digits.f] at h, fun _ _ r h => by simp [spec_l1Digits.j0] at h, fun _ _ r h => by simp [spec_l1Digits.j1] at h, fun _ _ _ r h => by simp [spec_l1Digits.l0] at h⟩
 | k + 1 => by
  obtain ⟨ih0, ih1, ih2, ih3⟩ := spec_l1Digits.mono_l k
  refine ⟨?_, ?_, ?_, ?_⟩ <;> intros <;> (first | unfold spec_l1Digits.f | unfold spec_l1Digits.j0 | unfold spec_l1Digits.j1 | unfold spec_l1Digits.l0) <;> repeat' (with_reducible first | exact ih0 _ | exact ih1 _ _ | exact ih2 _ _ | exact ih3 _ _ _ | exact LeO.refl _ | exact LeO.none _ | refine LeO.ite ?_ ?_ | refine LeO.bind ?_ fun _ => ?_)
theorem spec_l1Digits.mono : ∀ a0 k, LeO (spec_l1Digits.f k a0) (spec_l1Digits.f (k + 1) a0) := by
 intro a0 k
 obtain ⟨ih0, ih1, ih2, ih3⟩ := spec_l1Digits.mono_l k
 exact ih0 a0
theorem spec_l1Digits.calls (k : Nat) : ∀ (a0 : ByteArray) (r1 : Int) (r2 : Bool) (w : World) (h : spec_l1Digits.f k a0 = some (r1, r2)),
  Calls prog 100 #[.string a0] w fun e w' => e = .returned (.tuple #[.int .i64 r1, .bool r2]) ∧ Drawn0 w w' := by
 induction k using Nat.strongRecOn with
 | _ k ih =>
 intro a0 r1 r2 w h
 cases k with
 | zero => exact absurd h (by simp [spec_l1Digits.f])
 | succ k =>
 simp only [spec_l1Digits.f] at h
 have H : (if (a0.size : Int) > 1 then (if 0 < (a0.size : Int) then (spec_l1Digits.j0 k a0 ((bt a0 0) == 45)) else (none)) else (spec_l1Digits.j0 k a0 false)) = some (r1, r2) := h
 clear h
 have HC2 := sqa H
 clear H
 go_enter func100, ntmps100
 go_upto_region 1 with (fail)
 go_cut [15] (fun v15 wc => ∃ (kq : Nat) (x15_1 : Bool), v15 = .bool x15_1 ∧ Aside0 (spec_l1Digits.j0 kq a0 x15_1 = some (r1, r2)) ∧ Aside0 (kq ≤ k) ∧ Drawn0 w wc)
 case first =>
  have H := HC2.1
  clear HC2
  by_cases c3 : (a0.size : Int) > 1
  ·rw [if_pos c3] at H
   have c3b0 : decide (1 < (a0.size : Int)) = true := decide_eq_true c3
   have c3b1 : decide (1 < a0.size) = true := decide_eq_true (by omega)
   clear c3
   (first | rw [c3b0] | (simp only [i64_w, i32_w]; rw [c3b0]) | skip)
   obtain ⟨c4, H⟩ := sqI H
   have c4b0 : decide (0 < (a0.size : Int)) = true := decide_eq_true c4
   have c4b1 : decide (0 < a0.size) = true := decide_eq_true (by omega)
   clear c4
   have H' := sqa H
   clear H
   have p5 : 0 ≤ (0 : Int) := (by omega)
   have q5 : 0 < a0.size := (by have : (0 : Int) < (a0.size : Int) := of_decide_eq_true Z9; omega)
   have hx5 : ∀ h : 0 < a0.size, ((a0[0]'h).toNat : Int) = bt a0 0 := bt_at a0 0
   clear p5
   have qi5 : (0 < (a0.size : Int)) = True := eq_true (of_decide_eq_true Z9)
   replace q5 := eq_true q5
   go_wp2
   go_meet
   case rel => exact ⟨_, (((bt a0 0) == 45)), Z4, H', ⟨Z5⟩, Z51⟩
  rw [if_neg c3] at H
  have c3b0 : decide (1 < (a0.size : Int)) = false := decide_eq_false c3
  have c3b1 : decide (1 < a0.size) = false := decide_eq_false (by omega)
  clear c3
  (first | rw [c3b0] | (simp only [i64_w, i32_w]; rw [c3b0]) | skip)
  have H' := sqa H
  clear H
  go_wp2
  go_meet
  case rel => exact ⟨_, (false), Z4, H', ⟨Z5⟩, Z51⟩
 case rest =>
  clear HC2
  obtain ⟨kq, x15_1, rfl, HA, HJ1, ⟨mc1, rfl⟩⟩ := hcut
  cases kq with
  | zero => exact absurd HA.out (by simp [spec_l1Digits.j0])
  | succ kj1 =>
   have H := HA.out
   clear HA
   simp only [spec_l1Digits.j0] at H
   by_cases c6 : x15_1 = true
   ·subst c6
    rw [if_pos rfl] at H
    obtain ⟨c7, H⟩ := sqI H
    have c7b0 := eq_true c7
    have c7b1 : decide (1 ≤ (a0.size : Int)) = true := decide_eq_true c7
    clear c7
    obtain ⟨⟨t0, t1⟩, A8, H⟩ := sqD H
    try dsimp only at H
    by_cases c9 : t1 = true
    ·subst c9
     rw [if_pos rfl] at H
     obtain ⟨rfl, rfl⟩ := sqO2 H
     go_wp2_with (first | ((with_reducible refine sqc 100 rfl ?_); refine sqC (some 19) func100 #[.string (a0.extract 1 a0.size)] ?_; (with_reducible refine (ih kj1 Z118 (a0.extract 1 a0.size) t0 true _ A8.1).mono ?_); rintro e w' ⟨rfl, ⟨nd, rfl⟩⟩; refine ⟨_, rfl, ?_⟩))
     go_ret2
     exact ⟨Z4, Z51⟩
    obtain rfl := sqb c9
    rw [if_neg sqF] at H
    obtain ⟨rfl, rfl⟩ := sqO2 H
    go_wp2_with (first | ((with_reducible refine sqc 100 rfl ?_); refine sqC (some 19) func100 #[.string (a0.extract 1 a0.size)] ?_; (with_reducible refine (ih kj1 Z118 (a0.extract 1 a0.size) t0 false _ A8.1).mono ?_); rintro e w' ⟨rfl, ⟨nd, rfl⟩⟩; refine ⟨_, rfl, ?_⟩))
    go_ret2
    exact ⟨Z4, Z51⟩
   obtain rfl := sqb c6
   rw [if_neg sqF] at H
   have HC10 := sqa H
   clear H
   go_upto_region 4 with (fail)
   go_cut [42] (fun v42 wc => ∃ (kq : Nat) (x42_9 : Bool), v42 = .bool x42_9 ∧ Aside0 (spec_l1Digits.j1 kq a0 x42_9 = some (r1, r2)) ∧ Aside0 (kq ≤ kj1) ∧ Drawn0 w wc)
   case first =>
    have H := HC10.1
    clear HC10
    obtain ⟨t2, A11, H⟩ := sqD H
    by_cases c12 : t2 = true
    ·subst c12
     rw [if_pos rfl] at H
     by_cases c13 : (a0.size : Int) > 1
     ·rw [if_pos c13] at H
      have c13b0 : decide (1 < (a0.size : Int)) = true := decide_eq_true c13
      have c13b1 : decide (1 < a0.size) = true := decide_eq_true (by omega)
      clear c13
      (first | rw [c13b0] | (simp only [i64_w, i32_w]; rw [c13b0]) | skip)
      obtain ⟨c14, H⟩ := sqI H
      have c14b0 : decide (0 < (a0.size : Int)) = true := decide_eq_true c14
      have c14b1 : decide (0 < a0.size) = true := decide_eq_true (by omega)
      clear c14
      have H' := sqa H
      clear H
      go_wp2_with (first | ((with_reducible refine sqc 101 rfl ?_); refine sqC (some 31) func101 #[.int .i64 (a0.size : Int), .int .i64 1, .int .i64 7] ?_; (with_reducible refine (spec_l1In.calls (a0.size : Int) 1 7 true _ A11.1).mono ?_); rintro e w' ⟨rfl, ⟨nd, rfl⟩⟩; refine ⟨_, rfl, ?_⟩; have p15 : 0 ≤ (0 : Int) := (by omega); have q15 : 0 < a0.size := (by have : (0 : Int) < (a0.size : Int) := of_decide_eq_true Z9; omega); have hx15 : ∀ h : 0 < a0.size, ((a0[0]'h).toNat : Int) = bt a0 0 := bt_at a0 0; clear p15; have qi15 : (0 < (a0.size : Int)) = True := eq_true (of_decide_eq_true Z9); replace q15 := eq_true q15))
      go_meet
      case rel => exact ⟨_, (((bt a0 0) == 48)), Z4, H', ⟨Z120⟩, Z51⟩
     rw [if_neg c13] at H
     have c13b0 : decide (1 < (a0.size : Int)) = false := decide_eq_false c13
     have c13b1 : decide (1 < a0.size) = false := decide_eq_false (by omega)
     clear c13
     (first | rw [c13b0] | (simp only [i64_w, i32_w]; rw [c13b0]) | skip)
     have H' := sqa H
     clear H
     go_wp2_with (first | ((with_reducible refine sqc 101 rfl ?_); refine sqC (some 31) func101 #[.int .i64 (a0.size : Int), .int .i64 1, .int .i64 7] ?_; (with_reducible refine (spec_l1In.calls (a0.size : Int) 1 7 true _ A11.1).mono ?_); rintro e w' ⟨rfl, ⟨nd, rfl⟩⟩; refine ⟨_, rfl, ?_⟩))
     go_meet
     case rel => exact ⟨_, (false), Z4, H', ⟨Z120⟩, Z51⟩
    obtain rfl := sqb c12
    rw [if_neg sqF] at H
    have H' := sqa H
    clear H
    go_wp2_with (first | ((with_reducible refine sqc 101 rfl ?_); refine sqC (some 31) func101 #[.int .i64 (a0.size : Int), .int .i64 1, .int .i64 7] ?_; (with_reducible refine (spec_l1In.calls (a0.size : Int) 1 7 false _ A11.1).mono ?_); rintro e w' ⟨rfl, ⟨nd, rfl⟩⟩; refine ⟨_, rfl, ?_⟩))
    go_meet
    case rel => exact ⟨_, (true), Z4, H', ⟨Z120⟩, Z51⟩
   case rest =>
    clear HC10
    obtain ⟨kq, x42_9, rfl, HA, HJ9, ⟨mc9, rfl⟩⟩ := hcut
    cases kq with
    | zero => exact absurd HA.out (by simp [spec_l1Digits.j1])
    | succ kj9 =>
     have H := HA.out
     clear HA
     simp only [spec_l1Digits.j1] at H
     by_cases c16 : x42_9 = true
     ·subst c16
      rw [if_pos rfl] at H
      obtain ⟨rfl, rfl⟩ := sqO2 H
      go_wp2
      go_ret2
      exact ⟨Z4, Z51⟩
     obtain rfl := sqb c16
     rw [if_neg sqF] at H
     have H' := sqa H
     clear H
     go_wp2
     go_loopg [6, 7] kj9 (fun kq v6 v7 w' => ∃ (x6_3 : Int) (x7_3 : Int), v6 = .int .i64 x6_3 ∧ v7 = .int .i64 x7_3 ∧ Aside0 (spec_l1Digits.l0 kq a0 x6_3 x7_3 = some (r1, r2)) ∧ Aside0 (kq ≤ kj9) ∧ Drawn0 w w')
     case atStart => exact ⟨(0), (0), Z4, Z4, H', ⟨Nat.le_refl _⟩, Z51⟩
     case round =>
      clear H'
      obtain ⟨x6_3, x7_3, rfl, rfl, HA, HK3, ⟨m3, rfl⟩⟩ := hrel
      cases gk with
      | zero => exact absurd HA.out (by simp [spec_l1Digits.l0])
      | succ k3 =>
       have H := HA.out
       clear HA
       simp only [spec_l1Digits.l0] at H
       by_cases c17 : x7_3 < (a0.size : Int)
       ·rw [if_pos c17] at H
        have c17b0 : decide (x7_3 < (a0.size : Int)) = true := decide_eq_true c17
        clear c17
        obtain ⟨c18, H⟩ := sqI H
        have c18b0 : decide (0 ≤ x7_3) = true := decide_eq_true c18
        clear c18
        by_cases c20 : (bt a0 x7_3) < 48
        ·rw [if_pos c20] at H
         have c20b0 : decide ((bt a0 x7_3) < 48) = true := decide_eq_true c20
         clear c20
         obtain ⟨rfl, rfl⟩ := sqO2 H
         have p19 : 0 ≤ (x7_3 : Int) := of_decide_eq_true Z9
         have q19 : x7_3 < (a0.size : Int) := of_decide_eq_true Z9
         have hx19 := bt_at a0 x7_3
         replace p19 := eq_true p19
         replace q19 := eq_true q19
         go_wp2
         go_ret2
         exact ⟨Z4, Z51⟩
        rw [if_neg c20] at H
        have c20b0 : decide ((bt a0 x7_3) < 48) = false := decide_eq_false c20
        clear c20
        by_cases c22 : (bt a0 x7_3) > 57
        ·rw [if_pos c22] at H
         have c22b0 : decide (57 < (bt a0 x7_3)) = true := decide_eq_true c22
         clear c22
         obtain ⟨rfl, rfl⟩ := sqO2 H
         have p19 : 0 ≤ (x7_3 : Int) := of_decide_eq_true Z9
         have q19 : x7_3 < (a0.size : Int) := of_decide_eq_true Z9
         have hx19 := bt_at a0 x7_3
         replace p19 := eq_true p19
         replace q19 := eq_true q19
         have p21 : 0 ≤ (x7_3 : Int) := of_decide_eq_true Z9
         have q21 : x7_3 < (a0.size : Int) := of_decide_eq_true Z9
         have hx21 := bt_at a0 x7_3
         replace p21 := eq_true p21
         replace q21 := eq_true q21
         go_wp2
         go_ret2
         exact ⟨Z4, Z51⟩
        rw [if_neg c22] at H
        have c22b0 : decide (57 < (bt a0 x7_3)) = false := decide_eq_false c22
        clear c22
        have H' := sqa H
        clear H
        have p19 : 0 ≤ (x7_3 : Int) := of_decide_eq_true Z9
        have q19 : x7_3 < (a0.size : Int) := of_decide_eq_true Z9
        have hx19 := bt_at a0 x7_3
        replace p19 := eq_true p19
        replace q19 := eq_true q19
        have p21 : 0 ≤ (x7_3 : Int) := of_decide_eq_true Z9
        have q21 : x7_3 < (a0.size : Int) := of_decide_eq_true Z9
        have hx21 := bt_at a0 x7_3
        replace p21 := eq_true p21
        replace q21 := eq_true q21
        have p23 : 0 ≤ (x7_3 : Int) := of_decide_eq_true Z9
        have q23 : x7_3 < (a0.size : Int) := of_decide_eq_true Z9
        have hx23 := bt_at a0 x7_3
        replace p23 := eq_true p23
        replace q23 := eq_true q23
        go_wp2
        go_roundg k3
        case measure => have := HJ1.out; have := HJ9.out; have := HK3.out; omega
        case rel => exact ⟨(wrap64 ((wrap64 (10 * x6_3)) + (((bt a0 x7_3) - 48) % 256))), (wrap64 (x7_3 + 1)), Z4, Z4, H', ⟨by have := HJ1.out; have := HJ9.out; have := HK3.out; omega⟩, Z51⟩
       rw [if_neg c17] at H
       have c17b0 : decide (x7_3 < (a0.size : Int)) = false := decide_eq_false c17
       clear c17
       obtain ⟨rfl, rfl⟩ := sqO2 H
       go_wp2
       go_ret2
       exact ⟨Z4, Z51⟩

/-! ### spec_ReadFraction: function 107 -/
def spec_ReadFraction.f (k : Nat) (a0 : ByteArray) : Option (Int × Int × Bool) := (spec_l1Cut.f k a0 47).bind fun t0 => (if 0 < (t0.length : Int) then ((spec_l1Digits.f k (rdOf ByteArray.empty t0 0)).bind fun bt0 => (if (t0.length : Int) = 2 then (if 1 < (t0.length : Int) then ((spec_l1Digits.f k (rdOf ByteArray.empty t0 1)).bind fun bt1 => (if bt0.2 = true then (if bt1.2 = true then (if (t0.length : Int) > 2 then (some (0, 0, false)) else ((spec_FractionText.f k bt0.1 bt1.1).bind fun t1 => (if t1.toList = a0.toList then (some (bt0.1, bt1.1, true)) else (some (0, 0, false))))) else (some (0, 0, false))) else (some (0, 0, false)))) else (none)) else (if bt0.2 = true then (if (t0.length : Int) > 2 then (some (0, 0, false)) else ((spec_FractionText.f k bt0.1 1).bind fun t2 => (if t2.toList = a0.toList then (some (bt0.1, 1, true)) else (some (0, 0, false))))) else (some (0, 0, false))))) else (none))
theorem spec_ReadFraction.mono : ∀ a0 k, LeO (spec_ReadFraction.f k a0) (spec_ReadFraction.f (k + 1) a0) := by
 intro a0 k
 unfold spec_ReadFraction.f
 repeat' (with_reducible first | exact spec_FractionText.mono _ _ _ | exact spec_l1Cut.mono _ _ _ | exact spec_l1Digits.mono _ _ | exact LeO.refl _ | exact LeO.none _ | refine LeO.ite ?_ ?_ | refine LeO.bind ?_ fun _ => ?_)
theorem spec_ReadFraction.calls (k : Nat) (a0 : ByteArray) (r1 : Int) (r2 : Int) (r3 : Bool) (w : World) (H : spec_ReadFraction.f k a0 = some (r1, r2, r3)) :
  Calls prog 107 #[.string a0] w fun e w' => e = .returned (.tuple #[.agg #[.int .i64 r1, .int .i64 r2], .bool r3]) ∧ Below w.heap.size w w' := by
 have hu31 := underlying31
 have HB := sqh w
 unfold spec_ReadFraction.f at H
 obtain ⟨t0, A2, H⟩ := sqD H
 obtain ⟨c3, H⟩ := sqI H
 have c3b0 : decide (0 < (t0.length : Int)) = true := decide_eq_true c3
 have c3b1 : decide (0 < t0.length) = true := decide_eq_true (by omega)
 clear c3
 obtain ⟨⟨t232, t1⟩, A4, H⟩ := sqD H
 try dsimp only at H
 go_enter func107, ntmps107
 go_upto_if 22 with (first | ((with_reducible refine sqd 2 rfl ?_); (try (refine gate_guard (by rfl) ?_; dsimp only)); refine sqBx w (sqB HB) (cs := #[.int .i64 0, .int .i64 0]) (t := 31) ?_; intro g0 hg w11 B0 E0 HB hb; clear hb hg) | ((with_reducible refine sqc 99 rfl ?_); refine sqC (some 12) func99 #[.string a0, .int .u8 47] ?_; (with_reducible refine (spec_l1Cut.calls k a0 47 t0 _ A2.1).mono ?_); rintro e w12 ⟨v0, rfl, ho0, hb⟩; refine ⟨_, rfl, ?_⟩; have O0 := sqL ho0 (sqB1 HB E0); replace B0 := sqT B0 hb; replace HB := sqS (sqB1 HB E0) hb; (try clear hb); (try clear ho0); obtain ⟨Ao13, co13, eo13⟩ := Kd.R_slice O0.1; subst eo13; have p0 : 0 ≤ (0 : Int) := (by omega); have q0 : 0 < (t0.length : Int) := of_decide_eq_true Z9; obtain ⟨ad0, e0, hx0⟩ := Kd.at_string (Kd.R_reads' O0.1).2.2 0 p0 q0; cases e0; have qi0 : (0 < t0.length) = True := eq_true (by omega); (try rw [show ((0 : Int)).toNat = 0 from rfl] at hx0); (try rw [Addr.add_zero'] at hx0); replace p0 := eq_true p0; replace q0 := eq_true q0) | ((with_reducible refine sqc 100 rfl ?_); refine sqC (some 17) func100 #[.string (rdOf ByteArray.empty t0 0)] ?_; (with_reducible refine (spec_l1Digits.calls k (rdOf ByteArray.empty t0 0) t232 t1 _ A4.1).mono ?_); rintro e w' ⟨rfl, ⟨nd, rfl⟩⟩; refine ⟨_, rfl, ?_⟩; (try (rw [drewN_self w12]; generalize hq_ : World.drewN w12 _ = w12; have n0_ : Aside0 (Kd.R Kd.string 9 w12 w.heap.size (fun _ => True) (.slice (some ad0) t0.length co13) t0) := ⟨Z113 O0⟩; have n1_ : Aside0 (w12.heap[g0]? = some (.cells #[.int .i64 0, .int .i64 0] 31 (0, 0))) := ⟨Z35 B0⟩; have n2_ : Aside0 (Below w.heap.size w w12) := ⟨Z72 E0⟩; clear O0 B0 HB hq_; have O0 := n0_; have B0 := n1_; have HB := n2_; clear n0_ n1_ n2_))))
 by_cases c5 : (t0.length : Int) = 2
 ·rw [if_pos c5] at H
  have c5b0 : ((t0.length : Int) == 2) = true := sqe1 c5
  have c5b1 : ((t0.length : Int) != 2) = false := sqn0 c5
  (first | rw [c5b0] | rw [c5b1] | simp only [i64_w, i32_w, c5b0, c5b1] | skip)
  clear c5
  obtain ⟨c6, H⟩ := sqI H
  have c6b0 : decide (1 < (t0.length : Int)) = true := decide_eq_true c6
  have c6b1 : decide (1 < t0.length) = true := decide_eq_true (by omega)
  clear c6
  obtain ⟨⟨t2, t3⟩, A7, H⟩ := sqD H
  try dsimp only at H
  have p1 : 0 ≤ (1 : Int) := (by omega); have q1 : 1 < (t0.length : Int) := of_decide_eq_true Z9; obtain ⟨ad1, e1, hx1⟩ := Kd.at_string (Kd.R_reads' O0.1).2.2 1 p1 q1; obtain rfl : ad0 = ad1 := (by injection e1); (try simp only [show (1 : Int).toNat = 1 from rfl, Nat.reduceMul, Nat.reduceEqDiff, Go.Addr.add, ↓reduceIte] at hx1); have qi1 : (1 < t0.length) = True := eq_true (by omega); (try rw [show ((1 : Int)).toNat = 1 from rfl] at hx1); replace p1 := eq_true p1; replace q1 := eq_true q1
  go_upto_region 6 with (first | ((with_reducible refine sqc 100 rfl ?_); refine sqC (some 27) func100 #[.string (rdOf ByteArray.empty t0 1)] ?_; (with_reducible refine (spec_l1Digits.calls k (rdOf ByteArray.empty t0 1) t2 t3 _ A7.1).mono ?_); rintro e w' ⟨rfl, ⟨nd, rfl⟩⟩; refine ⟨_, rfl, ?_⟩; (try (rw [drewN_self w12]; generalize hq_ : World.drewN w12 _ = w12; have n0_ : Aside0 (Kd.R Kd.string 9 w12 w.heap.size (fun _ => True) (.slice (some ad0) t0.length co13) t0) := ⟨Z113 O0⟩; have n1_ : Aside0 (w12.heap[g0]? = some (.cells #[.int .i64 0, .int .i64 0] 31 (0, 0))) := ⟨Z35 B0⟩; have n2_ : Aside0 (Below w.heap.size w w12) := ⟨Z72 E0⟩; clear O0 B0 HB hq_; have O0 := n0_; have B0 := n1_; have HB := n2_; clear n0_ n1_ n2_))))
  by_cases c8 : t1 = true
  ·subst c8
   rw [if_pos rfl] at H
   by_cases c9 : t3 = true
   ·subst c9
    rw [if_pos rfl] at H
    by_cases c10 : (t0.length : Int) > 2
    ·rw [if_pos c10] at H
     have c10b0 : decide (2 < (t0.length : Int)) = true := decide_eq_true c10
     have c10b1 : decide (2 < t0.length) = true := decide_eq_true (by omega)
     clear c10
     obtain ⟨rfl, rfl, rfl⟩ := sqO3 H
     go_wp2_with (first | ((with_reducible refine sqd 10 rfl ?_); (try (refine gate_guard (by rfl) ?_; dsimp only)); refine sqBx w (sqB1 HB E0) (cs := #[.int .i64 0, .int .i64 0]) (t := 31) ?_; intro g1 hg w14 B2 E1 HB hb; replace O0 := sqU O0 hb; obtain ⟨N0, N1⟩ := sqM hg B0; replace B0 := sqT B0 hb; clear hb hg; have := N1.1; have := N0.1; obtain ⟨_, _, _, _⟩ := sqY2 B2; obtain ⟨_, _, _, _⟩ := sqY2 B0))
     refine sqE g0 31 #[.int .i64 0, .int .i64 0] (Z121 N0 B0) underlying31 ?_
     exact ⟨Z16, sqB2 HB E0 E1⟩
    rw [if_neg c10] at H
    have c10b0 : decide (2 < (t0.length : Int)) = false := decide_eq_false c10
    have c10b1 : decide (2 < t0.length) = false := decide_eq_false (by omega)
    clear c10
    obtain ⟨t4, A18, H⟩ := sqD H
    by_cases c19 : t4.toList = a0.toList
    ·rw [if_pos c19] at H
     have c19b0 : (t4.toList == a0.toList) = true := sqe1 c19
     have c19b1 : (t4.toList != a0.toList) = false := sqn0 c19
     clear c19
     obtain ⟨rfl, rfl, rfl⟩ := sqO3 H
     go_wp2_with (first | ((with_reducible refine sqd 10 rfl ?_); (try (refine gate_guard (by rfl) ?_; dsimp only)); refine sqBx w (sqB1 HB E0) (cs := #[.int .i64 0, .int .i64 0]) (t := 31) ?_; intro g1 hg w23 B2 E1 HB hb; replace O0 := sqU O0 hb; obtain ⟨N0, N1⟩ := sqM hg B0; replace B0 := sqT B0 hb; clear hb hg; have := N1.1; have := N0.1; obtain ⟨_, _, _, _⟩ := sqY2 B2) | (go_at_call 89; (with_reducible refine (spec_FractionText.calls k t232 t2 t4 _ A18.1).mono ?_); rintro e w26 ⟨rfl, hb⟩; replace O0 := sqa (Kd.R_below (Z122 O0 B2) hb); replace B0 := sqH N0 B0 hb; replace B2 := sqa (blk_below (g := g1) (o := .cells #[.int .i64 t232, .int .i64 t2] 31 (0, 0)) (Z123 B2) hb); replace HB := sqS (sqB2 HB E0 E1) hb; (try clear hb); obtain ⟨_, _, _, _⟩ := sqY2 B2; obtain ⟨_, _, _, _⟩ := sqY2 B0))
     refine sqE g0 31 #[.int .i64 t232, .int .i64 t2] (Z123 B0) underlying31 ?_
     exact ⟨Z16, sqB2 HB E0 E1⟩
    rw [if_neg c19] at H
    have c19b0 : (t4.toList == a0.toList) = false := sqe0 c19
    have c19b1 : (t4.toList != a0.toList) = true := sqn1 c19
    obtain ⟨rfl, rfl, rfl⟩ := sqO3 H
    go_wp2_with (first | ((with_reducible refine sqd 10 rfl ?_); (try (refine gate_guard (by rfl) ?_; dsimp only)); refine sqBx w (sqB1 HB E0) (cs := #[.int .i64 0, .int .i64 0]) (t := 31) ?_; intro g1 hg w32 B2 E1 HB hb; replace O0 := sqU O0 hb; obtain ⟨N0, N1⟩ := sqM hg B0; replace B0 := sqT B0 hb; clear hb hg; have := N1.1; have := N0.1; obtain ⟨_, _, _, _⟩ := sqY2 B2) | (go_at_call 89; (with_reducible refine (spec_FractionText.calls k t232 t2 t4 _ A18.1).mono ?_); rintro e w35 ⟨rfl, hb⟩; replace O0 := sqa (Kd.R_below (Z122 O0 B2) hb); replace B0 := sqH N0 B0 hb; replace B2 := sqa (blk_below (g := g1) (o := .cells #[.int .i64 t232, .int .i64 t2] 31 (0, 0)) (Z123 B2) hb); replace HB := sqS (sqB2 HB E0 E1) hb; (try clear hb); obtain ⟨_, _, _, _⟩ := sqY2 B0))
    refine sqE g0 31 #[.int .i64 0, .int .i64 0] (Z54 B0) underlying31 ?_
    exact ⟨Z16, sqB2 HB E0 E1⟩
   obtain rfl := sqb c9
   rw [if_neg sqF] at H
   obtain ⟨rfl, rfl, rfl⟩ := sqO3 H
   go_wp2_with (first | ((with_reducible refine sqd 10 rfl ?_); (try (refine gate_guard (by rfl) ?_; dsimp only)); refine sqBx w (sqB1 HB E0) (cs := #[.int .i64 0, .int .i64 0]) (t := 31) ?_; intro g1 hg w40 B2 E1 HB hb; replace O0 := sqU O0 hb; obtain ⟨N0, N1⟩ := sqM hg B0; replace B0 := sqT B0 hb; clear hb hg; have := N1.1; have := N0.1; obtain ⟨_, _, _, _⟩ := sqY2 B2; obtain ⟨_, _, _, _⟩ := sqY2 B0))
   refine sqE g0 31 #[.int .i64 0, .int .i64 0] (Z121 N0 B0) underlying31 ?_
   exact ⟨Z16, sqB2 HB E0 E1⟩
  obtain rfl := sqb c8
  rw [if_neg sqF] at H
  obtain ⟨rfl, rfl, rfl⟩ := sqO3 H
  go_wp2_with (first | ((with_reducible refine sqd 10 rfl ?_); (try (refine gate_guard (by rfl) ?_; dsimp only)); refine sqBx w (sqB1 HB E0) (cs := #[.int .i64 0, .int .i64 0]) (t := 31) ?_; intro g2 hg w47 B9 E2 HB hb; replace O0 := sqU O0 hb; obtain ⟨N2, N3⟩ := sqM hg B0; replace B0 := sqT B0 hb; clear hb hg; have := N3.1; have := N2.1; obtain ⟨_, _, _, _⟩ := sqY2 B9; obtain ⟨_, _, _, _⟩ := sqY2 B0))
  refine sqE g0 31 #[.int .i64 0, .int .i64 0] (Z121 N2 B0) underlying31 ?_
  exact ⟨Z16, sqB2 HB E0 E2⟩
 rw [if_neg c5] at H
 have c5b0 : ((t0.length : Int) == 2) = false := sqe0 c5
 have c5b1 : ((t0.length : Int) != 2) = true := sqn1 c5
 (first | rw [c5b0] | rw [c5b1] | simp only [i64_w, i32_w, c5b0, c5b1] | skip)
 go_upto_region 9 with (first | ((with_reducible refine sqd 10 rfl ?_); (try (refine gate_guard (by rfl) ?_; dsimp only)); refine sqBx w (sqB1 HB E0) (cs := #[.int .i64 0, .int .i64 0]) (t := 31) ?_; intro g3 hg w56 B10 E3 HB hb; replace O0 := sqU O0 hb; obtain ⟨N4, N5⟩ := sqM hg B0; replace B0 := sqT B0 hb; clear hb hg; have := N5.1; have := N4.1; obtain ⟨_, _, _, _⟩ := sqY2 B10; obtain ⟨_, _, _, _⟩ := sqY2 B0))
 by_cases c51 : t1 = true
 ·subst c51
  rw [if_pos rfl] at H
  by_cases c52 : (t0.length : Int) > 2
  ·rw [if_pos c52] at H
   have c52b0 : decide (2 < (t0.length : Int)) = true := decide_eq_true c52
   have c52b1 : decide (2 < t0.length) = true := decide_eq_true (by omega)
   clear c52
   obtain ⟨rfl, rfl, rfl⟩ := sqO3 H
   go_wp2_with fail
   refine sqE g0 31 #[.int .i64 0, .int .i64 0] (Z121 N4 B0) underlying31 ?_
   exact ⟨Z16, sqB2 HB E0 E3⟩
  rw [if_neg c52] at H
  have c52b0 : decide (2 < (t0.length : Int)) = false := decide_eq_false c52
  have c52b1 : decide (2 < t0.length) = false := decide_eq_false (by omega)
  clear c52
  obtain ⟨t5, A60, H⟩ := sqD H
  by_cases c61 : t5.toList = a0.toList
  ·rw [if_pos c61] at H
   have c61b0 : (t5.toList == a0.toList) = true := sqe1 c61
   have c61b1 : (t5.toList != a0.toList) = false := sqn0 c61
   clear c61
   obtain ⟨rfl, rfl, rfl⟩ := sqO3 H
   go_wp2_with (first | (go_at_call 89; (with_reducible refine (spec_FractionText.calls k t232 1 t5 _ A60.1).mono ?_); rintro e w68 ⟨rfl, hb⟩; replace O0 := sqa (Kd.R_below (Z124 O0 B10) hb); replace B0 := sqH N4 B0 hb; replace B10 := sqa (blk_below (g := g3) (o := .cells #[.int .i64 t232, .int .i64 1] 31 (0, 0)) (Z123 B10) hb); replace HB := sqS (sqB2 HB E0 E3) hb; (try clear hb); obtain ⟨_, _, _, _⟩ := sqY2 B10; obtain ⟨_, _, _, _⟩ := sqY2 B0))
   refine sqE g0 31 #[.int .i64 t232, .int .i64 1] (Z123 B0) underlying31 ?_
   exact ⟨Z16, sqB2 HB E0 E3⟩
  rw [if_neg c61] at H
  have c61b0 : (t5.toList == a0.toList) = false := sqe0 c61
  have c61b1 : (t5.toList != a0.toList) = true := sqn1 c61
  obtain ⟨rfl, rfl, rfl⟩ := sqO3 H
  go_wp2_with (first | (go_at_call 89; (with_reducible refine (spec_FractionText.calls k t232 1 t5 _ A60.1).mono ?_); rintro e w77 ⟨rfl, hb⟩; replace O0 := sqa (Kd.R_below (Z124 O0 B10) hb); replace B0 := sqH N4 B0 hb; replace B10 := sqa (blk_below (g := g3) (o := .cells #[.int .i64 t232, .int .i64 1] 31 (0, 0)) (Z123 B10) hb); replace HB := sqS (sqB2 HB E0 E3) hb; (try clear hb); obtain ⟨_, _, _, _⟩ := sqY2 B0))
  refine sqE g0 31 #[.int .i64 0, .int .i64 0] (Z54 B0) underlying31 ?_
  exact ⟨Z16, sqB2 HB E0 E3⟩
 obtain rfl := sqb c51
 rw [if_neg sqF] at H
 obtain ⟨rfl, rfl, rfl⟩ := sqO3 H
 go_wp2_with fail
 refine sqE g0 31 #[.int .i64 0, .int .i64 0] (Z121 N4 B0) underlying31 ?_
 exact ⟨Z16, sqB2 HB E0 E3⟩

/-! ### spec_MirrorOf: function 108 -/
def spec_MirrorOf.f (k : Nat) (a0_0 : Int) (a0_1 : Int) : Option (Int × Int) := (spec_FractionOk.f k a0_0 a0_1).bind fun t0 => (if t0 = true then ((spec_LowestOf.f k (wrap64 (-a0_0)) a0_1).bind fun bt0 => (some (bt0.1, bt0.2.1))) else (some (0, 0)))
theorem spec_MirrorOf.mono : ∀ a0 a1 k, LeO (spec_MirrorOf.f k a0 a1) (spec_MirrorOf.f (k + 1) a0 a1) := by
 intro a0 a1 k
 unfold spec_MirrorOf.f
 repeat' (with_reducible first | exact spec_FractionOk.mono _ _ _ | exact spec_LowestOf.mono _ _ _ | exact LeO.refl _ | exact LeO.none _ | refine LeO.ite ?_ ?_ | refine LeO.bind ?_ fun _ => ?_)
theorem spec_MirrorOf.calls (k : Nat) (a0_0 : Int) (a0_1 : Int) (r1 : Int) (r2 : Int) (w : World) (H : spec_MirrorOf.f k a0_0 a0_1 = some (r1, r2)) :
  Calls prog 108 #[.agg #[.int .i64 a0_0, .int .i64 a0_1]] w fun e w' => e = .returned (.agg #[.int .i64 r1, .int .i64 r2]) ∧ Below w.heap.size w w' := by
 have hu31 := underlying31
 have HB := sqh w
 unfold spec_MirrorOf.f at H
 obtain ⟨t0, A2, H⟩ := sqD H
 by_cases c3 : t0 = true
 ·subst c3
  rw [if_pos rfl] at H
  obtain ⟨⟨t1, t2, t3⟩, A4, H⟩ := sqD H
  try dsimp only at H
  obtain ⟨rfl, rfl⟩ := sqO2 H
  go_enter func108, ntmps108
  go_wp2_with (first | ((with_reducible refine sqd 1 rfl ?_); refine sqBx w (sqB HB) (cs := #[.int .i64 a0_0, .int .i64 a0_1]) (t := 31) ?_; intro g0 hg w5 B0 E0 HB hb; clear hb hg) | ((with_reducible refine sqd 2 rfl ?_); refine sqBx w (sqB1 HB E0) (cs := #[.int .i64 0, .int .i64 0]) (t := 31) ?_; intro g1 hg w6 B2 E1 HB hb; obtain ⟨N0, N1⟩ := sqM hg B0; replace B0 := sqT B0 hb; clear hb hg; have := N0.1; have := N1.1; obtain ⟨_, _, _, _⟩ := sqY2 B0) | ((with_reducible refine sqc 77 rfl ?_); refine sqC (some 6) func77 #[.agg #[.int .i64 a0_0, .int .i64 a0_1]] ?_; (with_reducible refine (spec_FractionOk.calls k a0_0 a0_1 true _ A2.1).mono ?_); refine sqV fun w9 hb => ?_; replace B0 := sqT B0 hb; replace B2 := sqT B2 hb; replace HB := sqS (sqB2 HB E0 E1) hb; (try clear hb); obtain ⟨_, _, _, _⟩ := sqY2 B0) | ((with_reducible refine sqc 136 rfl ?_); refine sqC (some 15) func136 #[.int .i64 (wrap64 (-a0_0)), .int .i64 a0_1] ?_; (with_reducible refine (spec_LowestOf.calls k (wrap64 (-a0_0)) a0_1 t1 t2 t3 _ A4.1).mono ?_); refine sqV fun w11 hb => ?_; replace B0 := sqT B0 hb; replace B2 := sqT B2 hb; replace HB := sqS (sqB2 HB E0 E1) hb; (try clear hb)) | ((with_reducible refine sqd 3 rfl ?_); refine sqBx w (sqB2 HB E0 E1) (cs := #[.int .i64 0, .int .i64 0]) (t := 31) ?_; intro g2 hg w12 B9 E2 HB hb; obtain ⟨N2, N3⟩ := sqM hg B0; replace B0 := sqT B0 hb; obtain ⟨N4, N5⟩ := sqM hg B2; replace B2 := sqT B2 hb; clear hb hg; have := N3.1; have := N2.1; have := N5.1; have := N4.1; obtain ⟨_, _, _, _⟩ := sqY2 B9; obtain ⟨_, _, _, _⟩ := sqY2 B2))
  refine bodyPost_ret (results_cell_row rfl _ _ g1 31 #[.int .i64 t1, .int .i64 t2] (0, 0) _ rfl (by refine sqPut (cs := #[.int .i64 t1, .int .i64 0]) ?_ 1; refine sqPut (cs := #[.int .i64 0, .int .i64 0]) ?_ 0; refine sqFar ?_ N4; refine sqFar ?_ N4; exact sqK B2) underlying31 rfl (by kernel_rfl)) rfl ?_
  exact ⟨Z16, sqB3 HB E0 E1 E2⟩
 obtain rfl := sqb c3
 rw [if_neg sqF] at H
 obtain ⟨rfl, rfl⟩ := sqO2 H
 go_enter func108, ntmps108
 go_wp2_with (first | ((with_reducible refine sqd 1 rfl ?_); refine sqBx w (sqB HB) (cs := #[.int .i64 a0_0, .int .i64 a0_1]) (t := 31) ?_; intro g0 hg w17 B0 E0 HB hb; clear hb hg) | ((with_reducible refine sqd 2 rfl ?_); refine sqBx w (sqB1 HB E0) (cs := #[.int .i64 0, .int .i64 0]) (t := 31) ?_; intro g1 hg w18 B2 E1 HB hb; obtain ⟨N0, N1⟩ := sqM hg B0; replace B0 := sqT B0 hb; clear hb hg; have := N0.1; have := N1.1; obtain ⟨_, _, _, _⟩ := sqY2 B0) | ((with_reducible refine sqc 77 rfl ?_); refine sqC (some 6) func77 #[.agg #[.int .i64 a0_0, .int .i64 a0_1]] ?_; (with_reducible refine (spec_FractionOk.calls k a0_0 a0_1 false _ A2.1).mono ?_); refine sqV fun w21 hb => ?_; replace B0 := sqT B0 hb; replace B2 := sqT B2 hb; replace HB := sqS (sqB2 HB E0 E1) hb; (try clear hb); obtain ⟨_, _, _, _⟩ := sqY2 B2))
 refine bodyPost_ret (results_cell_row rfl _ _ g1 31 #[.int .i64 0, .int .i64 0] (0, 0) _ rfl (Z54 B2) underlying31 rfl (by kernel_rfl)) rfl ?_
 exact ⟨Z16, sqB2 HB E0 E1⟩

/-! ### spec_l11Made: function 57 -/
def spec_l11Made.f (k : Nat) (a0_0 : Int) (a0_1 : Int) (a1_0 : Int) (a1_1 : ByteArray) : Option (Int × Int × Bool) := if a1_0 = 0 then ((spec_DancedFrom.f k a0_0 a0_1 a1_1).bind fun bt0 => (some (bt0.1, bt0.2.1, bt0.2.2))) else (if a1_0 = 1 then ((spec_ReadFraction.f k a1_1).bind fun bt1 => (some (bt1.1, bt1.2.1, bt1.2.2))) else (if (a1_0 == 2 && (a1_1.toList == ([] : List UInt8))) = true then ((spec_MirrorOf.f k a0_0 a0_1).bind fun bt2 => (some (bt2.1, bt2.2, true))) else (if (a1_0 == 3 && (a1_1.toList == ([] : List UInt8))) = true then ((spec_UntiedOf.f k a0_0 a0_1).bind fun bt3 => (some (0, 1, bt3.2))) else (some (a0_0, a0_1, false)))))
theorem spec_l11Made.mono : ∀ a0 a1 a2 a3 k, LeO (spec_l11Made.f k a0 a1 a2 a3) (spec_l11Made.f (k + 1) a0 a1 a2 a3) := by
 intro a0 a1 a2 a3 k
 unfold spec_l11Made.f
 repeat' (with_reducible first | exact spec_DancedFrom.mono _ _ _ _ | exact spec_MirrorOf.mono _ _ _ | exact spec_ReadFraction.mono _ _ | exact spec_UntiedOf.mono _ _ _ | exact LeO.refl _ | exact LeO.none _ | refine LeO.ite ?_ ?_ | refine LeO.bind ?_ fun _ => ?_)
theorem spec_l11Made.calls (k : Nat) (a0_0 : Int) (a0_1 : Int) (a1_0 : Int) (a1_1 : ByteArray) (r1 : Int) (r2 : Int) (r3 : Bool) (w : World) (H : spec_l11Made.f k a0_0 a0_1 a1_0 a1_1 = some (r1, r2, r3)) :
  Calls prog 57 #[.agg #[.int .i64 a0_0, .int .i64 a0_1], .agg #[.int .i64 a1_0, .string a1_1]] w fun e w' => e = .returned (.tuple #[.agg #[.int .i64 r1, .int .i64 r2], .bool r3]) ∧ Below w.heap.size w w' := by
 have hu31 := underlying31
 have hu38 := underlying38
 have HB := sqh w
 unfold spec_l11Made.f at H
 go_enter func57, ntmps57
 go_upto_if 8 with (first | ((with_reducible refine sqd 2 rfl ?_); refine sqBx w (sqB HB) (cs := #[.int .i64 a0_0, .int .i64 a0_1]) (t := 31) ?_; intro g0 hg w5 B0 E0 HB hb; clear hb hg) | ((with_reducible refine sqd 3 rfl ?_); refine sqBx w (sqB1 HB E0) (cs := #[.int .i64 a1_0, .string a1_1]) (t := 38) ?_; intro g1 hg w6 B2 E1 HB hb; obtain ⟨N0, N1⟩ := sqM hg B0; replace B0 := sqT B0 hb; clear hb hg) | ((with_reducible refine sqd 4 rfl ?_); refine sqBx w (sqB2 HB E0 E1) (cs := #[.int .i64 0, .int .i64 0]) (t := 31) ?_; intro g2 hg w7 B9 E2 HB hb; obtain ⟨N2, N3⟩ := sqM hg B0; replace B0 := sqT B0 hb; obtain ⟨N4, N5⟩ := sqM hg B2; replace B2 := sqT B2 hb; clear hb hg; have := N1.1; have := N0.1; have := N4.1; have := N5.1; obtain ⟨_, _, _, _⟩ := sqY2 B2; have := N2.1; have := N3.1; obtain ⟨_, _, _, _⟩ := sqY2 B0; obtain ⟨_, _, _, _⟩ := sqY2 B9))
 by_cases c3 : a1_0 = 0
 ·rw [if_pos c3] at H
  have c3b0 : (a1_0 == 0) = true := sqe1 c3
  have c3b1 : (a1_0 != 0) = false := sqn0 c3
  (first | rw [c3b0] | rw [c3b1] | simp only [i64_w, i32_w, c3b0, c3b1] | skip)
  clear c3
  obtain ⟨⟨t0, t1, t2⟩, A4, H⟩ := sqD H
  try dsimp only at H
  obtain ⟨rfl, rfl, rfl⟩ := sqO3 H
  go_wp2_with (first | ((with_reducible refine sqc 106 rfl ?_); refine sqC (some 15) func106 #[.agg #[.int .i64 a0_0, .int .i64 a0_1], .string a1_1] ?_; (with_reducible refine (spec_DancedFrom.calls k a0_0 a0_1 a1_1 t0 t1 t2 _ A4.1).mono ?_); refine sqV fun w13 hb => ?_; replace B0 := sqT B0 hb; replace B2 := sqT B2 hb; replace B9 := sqT B9 hb; replace HB := sqS (sqB3 HB E0 E1 E2) hb; (try clear hb); obtain ⟨_, _, _, _⟩ := sqY2 B9))
  refine sqE g2 31 #[.int .i64 t0, .int .i64 t1] (by refine sqPut (cs := #[.int .i64 t0, .int .i64 0]) ?_ 1; refine sqPut (cs := #[.int .i64 0, .int .i64 0]) ?_ 0; exact sqK B9) underlying31 ?_
  exact ⟨Z16, sqB3 HB E0 E1 E2⟩
 rw [if_neg c3] at H
 have c3b0 : (a1_0 == 0) = false := sqe0 c3
 have c3b1 : (a1_0 != 0) = true := sqn1 c3
 (first | rw [c3b0] | rw [c3b1] | simp only [i64_w, i32_w, c3b0, c3b1] | skip)
 go_upto_if 18 with fail
 by_cases c15 : a1_0 = 1
 ·rw [if_pos c15] at H
  have c15b0 : (a1_0 == 1) = true := sqe1 c15
  have c15b1 : (a1_0 != 1) = false := sqn0 c15
  (first | rw [c15b0] | rw [c15b1] | simp only [i64_w, i32_w, c15b0, c15b1] | skip)
  clear c15
  obtain ⟨⟨t3, t4, t5⟩, A16, H⟩ := sqD H
  try dsimp only at H
  obtain ⟨rfl, rfl, rfl⟩ := sqO3 H
  go_wp2_with (first | ((with_reducible refine sqc 107 rfl ?_); refine sqC (some 24) func107 #[.string a1_1] ?_; (with_reducible refine (spec_ReadFraction.calls k a1_1 t3 t4 t5 _ A16.1).mono ?_); refine sqV fun w23 hb => ?_; replace B0 := sqT B0 hb; replace B2 := sqT B2 hb; replace B9 := sqT B9 hb; replace HB := sqS (sqB3 HB E0 E1 E2) hb; (try clear hb); have := N3.1; have := N2.1; obtain ⟨_, _, _, _⟩ := sqY2 B9))
  refine sqE g2 31 #[.int .i64 t3, .int .i64 t4] (by refine sqPut (cs := #[.int .i64 t3, .int .i64 0]) ?_ 1; refine sqPut (cs := #[.int .i64 0, .int .i64 0]) ?_ 0; exact sqK B9) underlying31 ?_
  exact ⟨Z16, sqB3 HB E0 E1 E2⟩
 rw [if_neg c15] at H
 have c15b0 : (a1_0 == 1) = false := sqe0 c15
 have c15b1 : (a1_0 != 1) = true := sqn1 c15
 (first | rw [c15b0] | rw [c15b1] | simp only [i64_w, i32_w, c15b0, c15b1] | skip)
 go_upto_if 27 with fail
 by_cases c26 : (a1_0 == 2 && (a1_1.toList == ([] : List UInt8))) = true
 ·rw [if_pos c26] at H
  have c26b0 : (a1_0 == 2 && (a1_1.toList == ([] : List UInt8))) = true := c26
  try have c26b8 : (a1_0 == 2 && a1_1.toList.isEmpty) = true := by (have h_ := c26b0; (repeat rw [show ∀ z : List UInt8, (z == ([] : List UInt8)) = z.isEmpty from fun z => by cases z <;> rfl] at h_); exact h_)
  (try (have c26b1 : decide (a1_0 = 2 && (a1_1.toList == ([] : List UInt8))) = true := by simpa using c26))
  (try (have c26b2 : (a1_0 == 2 && (a1_1.toList == ([] : List UInt8))) = true := by simpa using c26))
  (first | rw [c26b0] | rw [c26b1] | rw [c26b2] | rw [c26b8] | simp only [i64_w, i32_w, c26b0, c26b1] | skip)
  clear c26
  obtain ⟨⟨t6, t7⟩, A27, H⟩ := sqD H
  try dsimp only at H
  obtain ⟨rfl, rfl, rfl⟩ := sqO3 H
  go_wp2_with (first | ((with_reducible refine sqc 108 rfl ?_); refine sqC (some 32) func108 #[.agg #[.int .i64 a0_0, .int .i64 a0_1]] ?_; (with_reducible refine (spec_MirrorOf.calls k a0_0 a0_1 t6 t7 _ A27.1).mono ?_); refine sqV fun w36 hb => ?_; replace B0 := sqT B0 hb; replace B2 := sqT B2 hb; replace B9 := sqT B9 hb; replace HB := sqS (sqB3 HB E0 E1 E2) hb; (try clear hb); obtain ⟨_, _, _, _⟩ := sqY2 B9))
  refine sqE g2 31 #[.int .i64 t6, .int .i64 t7] (by refine sqPut (cs := #[.int .i64 t6, .int .i64 0]) ?_ 1; refine sqPut (cs := #[.int .i64 0, .int .i64 0]) ?_ 0; exact sqK B9) underlying31 ?_
  exact ⟨Z16, sqB3 HB E0 E1 E2⟩
 rw [if_neg c26] at H
 have c26b0 : (a1_0 == 2 && (a1_1.toList == ([] : List UInt8))) = false := by simpa using c26
 try have c26b8 : (a1_0 == 2 && a1_1.toList.isEmpty) = false := by (have h_ := c26b0; (repeat rw [show ∀ z : List UInt8, (z == ([] : List UInt8)) = z.isEmpty from fun z => by cases z <;> rfl] at h_); exact h_)
 (try (have c26b1 : decide (a1_0 = 2 && (a1_1.toList == ([] : List UInt8))) = false := by simpa using c26))
 (try (have c26b2 : (a1_0 == 2 && (a1_1.toList == ([] : List UInt8))) = false := by simpa using c26))
 (try (have c26b3 : ¬ (a1_0 = 2 && (a1_1.toList == ([] : List UInt8))) := by simpa using c26))
 (first | rw [c26b0] | rw [c26b1] | rw [c26b2] | rw [c26b3] | rw [c26b8] | simp only [i64_w, i32_w, c26b0, c26b1] | skip)
 clear c26
 go_upto_if 33 with fail
 by_cases c38 : (a1_0 == 3 && (a1_1.toList == ([] : List UInt8))) = true
 ·rw [if_pos c38] at H
  have c38b0 : (a1_0 == 3 && (a1_1.toList == ([] : List UInt8))) = true := c38
  try have c38b8 : (a1_0 == 3 && a1_1.toList.isEmpty) = true := by (have h_ := c38b0; (repeat rw [show ∀ z : List UInt8, (z == ([] : List UInt8)) = z.isEmpty from fun z => by cases z <;> rfl] at h_); exact h_)
  (try (have c38b1 : decide (a1_0 = 3 && (a1_1.toList == ([] : List UInt8))) = true := by simpa using c38))
  (try (have c38b2 : (a1_0 == 3 && (a1_1.toList == ([] : List UInt8))) = true := by simpa using c38))
  (first | rw [c38b0] | rw [c38b1] | rw [c38b2] | rw [c38b8] | simp only [i64_w, i32_w, c38b0, c38b1] | skip)
  clear c38
  obtain ⟨⟨t8, t9⟩, A39, H⟩ := sqD H
  try dsimp only at H
  obtain ⟨rfl, rfl, rfl⟩ := sqO3 H
  go_wp2_with (first | ((with_reducible refine sqc 90 rfl ?_); refine sqC (some 39) func90 #[.agg #[.int .i64 a0_0, .int .i64 a0_1]] ?_; (with_reducible refine (spec_UntiedOf.calls k a0_0 a0_1 t8 t9 _ A39.1).mono ?_); refine sqV fun w48 hb => ?_; replace B0 := sqT B0 hb; replace B2 := sqT B2 hb; replace B9 := sqT B9 hb; replace HB := sqS (sqB3 HB E0 E1 E2) hb; (try clear hb); obtain ⟨_, _, _, _⟩ := sqY2 B9))
  refine sqE g2 31 #[.int .i64 0, .int .i64 1] (Z54 B9) underlying31 ?_
  exact ⟨Z16, sqB3 HB E0 E1 E2⟩
 rw [if_neg c38] at H
 have c38b0 : (a1_0 == 3 && (a1_1.toList == ([] : List UInt8))) = false := by simpa using c38
 try have c38b8 : (a1_0 == 3 && a1_1.toList.isEmpty) = false := by (have h_ := c38b0; (repeat rw [show ∀ z : List UInt8, (z == ([] : List UInt8)) = z.isEmpty from fun z => by cases z <;> rfl] at h_); exact h_)
 (try (have c38b1 : decide (a1_0 = 3 && (a1_1.toList == ([] : List UInt8))) = false := by simpa using c38))
 (try (have c38b2 : (a1_0 == 3 && (a1_1.toList == ([] : List UInt8))) = false := by simpa using c38))
 (try (have c38b3 : ¬ (a1_0 = 3 && (a1_1.toList == ([] : List UInt8))) := by simpa using c38))
 (first | rw [c38b0] | rw [c38b1] | rw [c38b2] | rw [c38b3] | rw [c38b8] | simp only [i64_w, i32_w, c38b0, c38b1] | skip)
 clear c38
 obtain ⟨rfl, rfl, rfl⟩ := sqO3 H
 go_wp2_with fail
 refine sqE g2 31 #[.int .i64 a0_0, .int .i64 a0_1] (Z27 B9) underlying31 ?_
 exact ⟨Z16, sqB3 HB E0 E1 E2⟩

end Go.Proofs.YtofmlbgfcohhoaaGreatDoor.PFnExactDeskSay
