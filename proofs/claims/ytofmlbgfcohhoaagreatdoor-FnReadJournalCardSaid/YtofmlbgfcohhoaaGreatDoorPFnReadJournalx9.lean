import Derived.Test.YtofmlbgfcohhoaaGreatDoorPFnReadJournalx0
import Derived.Test.YtofmlbgfcohhoaaGreatDoorPFnReadJournalx6
import Derived.Test.YtofmlbgfcohhoaaGreatDoorPFnReadJournalx8
set_option maxHeartbeats 8000000
set_option maxRecDepth 100000
namespace Go.Proofs.YtofmlbgfcohhoaaGreatDoor.PFnReadJournal
open Go.RowKit Go.Proofs.YtofmlbgfcohhoaaGreatDoorW.PrintWords Go.Proofs.YtofmlbgfcohhoaaGreatDoorW.PrintLast Go.Proofs.YtofmlbgfcohhoaaGreatDoorW.PrintMore Go.Proofs.YtofmlbgfcohhoaaGreatDoor.Lib Go.Proofs.Tryz
attribute [local go_sem] max2_int min2_int max_two min_two max_three min_three max_four min_four
set_option linter.unusedVariables false
set_option linter.unusedSimpArgs false

section
attribute [local go_sem high] eqA38
mutual
def F3.j0 : Nat → ByteArray → Bool → Option (Int × Bool)
 | 0, _, _ => none
 | k + 1, x0, x1 => if x1 = true then (if 1 ≤ (x0.size : Int) then ((F3.f k (x0.extract 1 x0.size)).bind fun bt0 => (if bt0.2 = true then (some (wrap64 (-bt0.1), decide (bt0.1 > 0))) else (some (wrap64 (-bt0.1), false)))) else (none)) else ((F33.f (x0.size : Int) 1 7).bind fun t0 => (if t0 = true then (if (x0.size : Int) > 1 then (if 0 < (x0.size : Int) then (F3.j1 k x0 ((bt x0 0) == 48)) else (none)) else (F3.j1 k x0 false)) else (F3.j1 k x0 true)))
def F3.j1 : Nat → ByteArray → Bool → Option (Int × Bool)
 | 0, _, _ => none
 | k + 1, x0, x1 => if x1 = true then (some (0, false)) else (F3.l0 k x0 0 0)
def F3.l0 : Nat → ByteArray → Int → Int → Option (Int × Bool)
 | 0, _, _, _ => none
 | k + 1, x0, x6, x7 => if x7 < (x0.size : Int) then (if 0 ≤ x7 then (if (bt x0 x7) < 48 then (some (0, false)) else (if (bt x0 x7) > 57 then (some (0, false)) else (F3.l0 k x0 (wrap64 ((wrap64 (10 * x6)) + (((bt x0 x7) - 48) % 256))) (wrap64 (x7 + 1))))) else (none)) else (some (x6, true))
def F3.f : Nat → ByteArray → Option (Int × Bool)
 | 0, _ => none
 | k + 1, a0 => if (a0.size : Int) > 1 then (if 0 < (a0.size : Int) then (F3.j0 k a0 ((bt a0 0) == 45)) else (none)) else (F3.j0 k a0 false)
end
theorem F3.ml : ∀ k, (∀ y0, LeO (F3.f k y0) (F3.f (k + 1) y0)) ∧ (∀ y0 y1, LeO (F3.j0 k y0 y1) (F3.j0 (k + 1) y0 y1)) ∧ (∀ y0 y1, LeO (F3.j1 k y0 y1) (F3.j1 (k + 1) y0 y1)) ∧ (∀ y0 y1 y2, LeO (F3.l0 k y0 y1 y2) (F3.l0 (k + 1) y0 y1 y2))
 | 0 => ⟨fun _ r h => by simp [F3.f] at h, fun _ _ r h => by simp [F3.j0] at h, fun _ _ r h => by simp [F3.j1] at h, fun _ _ _ r h => by simp [F3.l0] at h⟩
 | k + 1 => by
  obtain ⟨ih0, ih1, ih2, ih3⟩ := F3.ml k
  refine ⟨?_, ?_, ?_, ?_⟩ <;> intros <;> (first | unfold F3.f | unfold F3.j0 | unfold F3.j1 | unfold F3.l0) <;> repeat' (with_reducible first | exact ih0 _ | exact ih1 _ _ | exact ih2 _ _ | exact ih3 _ _ _ | exact LeO.refl _ | exact LeO.none _ | refine LeO.ite ?_ ?_ | refine LeO.bind ?_ fun _ => ?_)
theorem F3.m : ∀ a0 k, LeO (F3.f k a0) (F3.f (k + 1) a0) := by
 intro a0 k
 obtain ⟨ih0, ih1, ih2, ih3⟩ := F3.ml k
 exact ih0 a0
theorem F3.c (k : Nat) : ∀ (a0 : ByteArray) (r1 : Int) (r2 : Bool) (w : World) (h : F3.f k a0 = some (r1, r2)),
  Calls prog 100 #[.string a0] w fun e w' => e = .returned (.tuple #[.int .i64 r1, .bool r2]) ∧ Drawn0 w w' := by
 induction k using Nat.strongRecOn with
 | _ k ih =>
 intro a0 r1 r2 w h
 cases k with
 | zero => exact absurd h (by simp [F3.f])
 | succ k =>
 simp only [F3.f] at h
 have H : (if (a0.size : Int) > 1 then (if 0 < (a0.size : Int) then (F3.j0 k a0 ((bt a0 0) == 45)) else (none)) else (F3.j0 k a0 false)) = some (r1, r2) := h
 clear h
 have HC2 := sqa H
 clear H
 go_enter func100, ntmps100
 go_upto_region 1 with (fail)
 go_cut [15] (fun v0 wc => ∃ (kq : Nat) (x0 : Bool), v0 = .bool x0 ∧ Aside0 (F3.j0 kq a0 x0 = some (r1, r2)) ∧ Aside0 (kq ≤ k) ∧ Drawn0 w wc)
 case first =>
  have H := HC2.1
  clear HC2
  by_cases c3 : (a0.size : Int) > 1
  ·rw [if_pos c3] at H
   have c3b0 : decide (1 < (a0.size : Int)) = true := decide_eq_true c3
   have c3b1 : decide (1 < a0.size) = true := decide_eq_true (by omega)
   clear c3
   (first | rw [c3b0] | (simp only [i64_w, i32_w]; rw [c3b0]) | skip)
   obtain ⟨c4, H⟩ := sqI H
   have c4b0 : decide (0 < (a0.size : Int)) = true := decide_eq_true c4
   have c4b1 : decide (0 < a0.size) = true := decide_eq_true (by omega)
   clear c4
   have H' := sqa H
   clear H
   have p5 : 0 ≤ (0 : Int) := (by omega)
   have q5 : 0 < a0.size := (by have : (0 : Int) < (a0.size : Int) := of_decide_eq_true Z7; omega)
   have hx5 : ∀ h : 0 < a0.size, ((a0[0]'h).toNat : Int) = bt a0 0 := bt_at a0 0
   clear p5
   have qi5 : (0 < (a0.size : Int)) = True := eq_true (of_decide_eq_true Z7)
   replace q5 := eq_true q5
   go_wp2
   go_meet
   case rel => exact ⟨_, (((bt a0 0) == 45)), Z2, H', ⟨Z3⟩, Z87⟩
  rw [if_neg c3] at H
  have c3b0 : decide (1 < (a0.size : Int)) = false := decide_eq_false c3
  have c3b1 : decide (1 < a0.size) = false := decide_eq_false (by omega)
  clear c3
  (first | rw [c3b0] | (simp only [i64_w, i32_w]; rw [c3b0]) | skip)
  have H' := sqa H
  clear H
  go_wp2
  go_meet
  case rel => exact ⟨_, (false), Z2, H', ⟨Z3⟩, Z87⟩
 case rest =>
  clear HC2
  obtain ⟨kq, x0, rfl, HA, HJ1, ⟨mc1, rfl⟩⟩ := hcut
  cases kq with
  | zero => exact absurd HA.out (by simp [F3.j0])
  | succ kj1 =>
   have H := HA.out
   clear HA
   simp only [F3.j0] at H
   by_cases c6 : x0 = true
   ·subst c6
    rw [if_pos rfl] at H
    obtain ⟨c7, H⟩ := sqI H
    have c7b0 := eq_true c7
    have c7b1 : decide (1 ≤ (a0.size : Int)) = true := decide_eq_true c7
    clear c7
    obtain ⟨⟨t0, t1⟩, A8, H⟩ := sqD H
    try dsimp only at H
    by_cases c9 : t1 = true
    ·subst c9
     rw [if_pos rfl] at H
     obtain ⟨rfl, rfl⟩ := sqO2 H
     go_wp2_with (first | ((with_reducible refine sqc 100 rfl ?_); refine sqC (some 19) func100 #[.string (a0.extract 1 a0.size)] ?_; (with_reducible refine (ih kj1 Z102 (a0.extract 1 a0.size) t0 true _ A8.1).mono ?_); rintro e w' ⟨rfl, ⟨nd, rfl⟩⟩; refine ⟨_, rfl, ?_⟩))
     go_ret2
     exact ⟨Z2, Z87⟩
    obtain rfl := sqb c9
    rw [if_neg sqF] at H
    obtain ⟨rfl, rfl⟩ := sqO2 H
    go_wp2_with (first | ((with_reducible refine sqc 100 rfl ?_); refine sqC (some 19) func100 #[.string (a0.extract 1 a0.size)] ?_; (with_reducible refine (ih kj1 Z102 (a0.extract 1 a0.size) t0 false _ A8.1).mono ?_); rintro e w' ⟨rfl, ⟨nd, rfl⟩⟩; refine ⟨_, rfl, ?_⟩))
    go_ret2
    exact ⟨Z2, Z87⟩
   obtain rfl := sqb c6
   rw [if_neg sqF] at H
   have HC0 := sqa H
   clear H
   go_upto_region 4 with (fail)
   go_cut [42] (fun v1 wc => ∃ (kq : Nat) (x1 : Bool), v1 = .bool x1 ∧ Aside0 (F3.j1 kq a0 x1 = some (r1, r2)) ∧ Aside0 (kq ≤ kj1) ∧ Drawn0 w wc)
   case first =>
    have H := HC0.1
    clear HC0
    obtain ⟨t2, A0, H⟩ := sqD H
    by_cases c0 : t2 = true
    ·subst c0
     rw [if_pos rfl] at H
     by_cases c1 : (a0.size : Int) > 1
     ·rw [if_pos c1] at H
      have c2 : decide (1 < (a0.size : Int)) = true := decide_eq_true c1
      have c5 : decide (1 < a0.size) = true := decide_eq_true (by omega)
      clear c1
      (first | rw [c2] | (simp only [i64_w, i32_w]; rw [c2]) | skip)
      obtain ⟨c8, H⟩ := sqI H
      have c10 : decide (0 < (a0.size : Int)) = true := decide_eq_true c8
      have c11 : decide (0 < a0.size) = true := decide_eq_true (by omega)
      clear c8
      have H' := sqa H
      clear H
      go_wp2_with (first | ((with_reducible refine sqc 101 rfl ?_); refine sqC (some 31) func101 #[.int .i64 (a0.size : Int), .int .i64 1, .int .i64 7] ?_; (with_reducible refine (F33.c (a0.size : Int) 1 7 true _ A0.1).mono ?_); rintro e w' ⟨rfl, ⟨nd, rfl⟩⟩; refine ⟨_, rfl, ?_⟩; have p0 : 0 ≤ (0 : Int) := (by omega); have q0 : 0 < a0.size := (by have : (0 : Int) < (a0.size : Int) := of_decide_eq_true Z7; omega); have hx0 : ∀ h : 0 < a0.size, ((a0[0]'h).toNat : Int) = bt a0 0 := bt_at a0 0; clear p0; have qi0 : (0 < (a0.size : Int)) = True := eq_true (of_decide_eq_true Z7); replace q0 := eq_true q0))
      go_meet
      case rel => exact ⟨_, (((bt a0 0) == 48)), Z2, H', ⟨Z104⟩, Z87⟩
     rw [if_neg c1] at H
     have c2 : decide (1 < (a0.size : Int)) = false := decide_eq_false c1
     have c5 : decide (1 < a0.size) = false := decide_eq_false (by omega)
     clear c1
     (first | rw [c2] | (simp only [i64_w, i32_w]; rw [c2]) | skip)
     have H' := sqa H
     clear H
     go_wp2_with (first | ((with_reducible refine sqc 101 rfl ?_); refine sqC (some 31) func101 #[.int .i64 (a0.size : Int), .int .i64 1, .int .i64 7] ?_; (with_reducible refine (F33.c (a0.size : Int) 1 7 true _ A0.1).mono ?_); rintro e w' ⟨rfl, ⟨nd, rfl⟩⟩; refine ⟨_, rfl, ?_⟩))
     go_meet
     case rel => exact ⟨_, (false), Z2, H', ⟨Z104⟩, Z87⟩
    obtain rfl := sqb c0
    rw [if_neg sqF] at H
    have H' := sqa H
    clear H
    go_wp2_with (first | ((with_reducible refine sqc 101 rfl ?_); refine sqC (some 31) func101 #[.int .i64 (a0.size : Int), .int .i64 1, .int .i64 7] ?_; (with_reducible refine (F33.c (a0.size : Int) 1 7 false _ A0.1).mono ?_); rintro e w' ⟨rfl, ⟨nd, rfl⟩⟩; refine ⟨_, rfl, ?_⟩))
    go_meet
    case rel => exact ⟨_, (true), Z2, H', ⟨Z104⟩, Z87⟩
   case rest =>
    clear HC0
    obtain ⟨kq, x1, rfl, HA, HJ9, ⟨mc9, rfl⟩⟩ := hcut
    cases kq with
    | zero => exact absurd HA.out (by simp [F3.j1])
    | succ kj9 =>
     have H := HA.out
     clear HA
     simp only [F3.j1] at H
     by_cases c16 : x1 = true
     ·subst c16
      rw [if_pos rfl] at H
      obtain ⟨rfl, rfl⟩ := sqO2 H
      go_wp2
      go_ret2
      exact ⟨Z2, Z87⟩
     obtain rfl := sqb c16
     rw [if_neg sqF] at H
     have H' := sqa H
     clear H
     go_wp2
     go_loopg [6, 7] kj9 (fun kq v6 v7 w' => ∃ (x6_3 : Int) (x7_3 : Int), v6 = .int .i64 x6_3 ∧ v7 = .int .i64 x7_3 ∧ Aside0 (F3.l0 kq a0 x6_3 x7_3 = some (r1, r2)) ∧ Aside0 (kq ≤ kj9) ∧ Drawn0 w w')
     case atStart => exact ⟨(0), (0), Z2, Z2, H', ⟨Nat.le_refl _⟩, Z87⟩
     case round =>
      clear H'
      obtain ⟨x6_3, x7_3, rfl, rfl, HA, HK3, ⟨m3, rfl⟩⟩ := hrel
      cases gk with
      | zero => exact absurd HA.out (by simp [F3.l0])
      | succ k3 =>
       have H := HA.out
       clear HA
       simp only [F3.l0] at H
       by_cases c17 : x7_3 < (a0.size : Int)
       ·rw [if_pos c17] at H
        have c21 : decide (x7_3 < (a0.size : Int)) = true := decide_eq_true c17
        clear c17
        obtain ⟨c18, H⟩ := sqI H
        have c24 : decide (0 ≤ x7_3) = true := decide_eq_true c18
        clear c18
        by_cases c20 : (bt a0 x7_3) < 48
        ·rw [if_pos c20] at H
         have c25 : decide ((bt a0 x7_3) < 48) = true := decide_eq_true c20
         clear c20
         obtain ⟨rfl, rfl⟩ := sqO2 H
         have p1 : 0 ≤ (x7_3 : Int) := of_decide_eq_true Z7
         have q1 : x7_3 < (a0.size : Int) := of_decide_eq_true Z7
         have hx1 := bt_at a0 x7_3
         replace p1 := eq_true p1
         replace q1 := eq_true q1
         go_wp2
         go_ret2
         exact ⟨Z2, Z87⟩
        rw [if_neg c20] at H
        have c25 : decide ((bt a0 x7_3) < 48) = false := decide_eq_false c20
        clear c20
        by_cases c22 : (bt a0 x7_3) > 57
        ·rw [if_pos c22] at H
         have c27 : decide (57 < (bt a0 x7_3)) = true := decide_eq_true c22
         clear c22
         obtain ⟨rfl, rfl⟩ := sqO2 H
         have p1 : 0 ≤ (x7_3 : Int) := of_decide_eq_true Z7
         have q1 : x7_3 < (a0.size : Int) := of_decide_eq_true Z7
         have hx1 := bt_at a0 x7_3
         replace p1 := eq_true p1
         replace q1 := eq_true q1
         have p2 : 0 ≤ (x7_3 : Int) := of_decide_eq_true Z7
         have q2 : x7_3 < (a0.size : Int) := of_decide_eq_true Z7
         have hx2 := bt_at a0 x7_3
         replace p2 := eq_true p2
         replace q2 := eq_true q2
         go_wp2
         go_ret2
         exact ⟨Z2, Z87⟩
        rw [if_neg c22] at H
        have c27 : decide (57 < (bt a0 x7_3)) = false := decide_eq_false c22
        clear c22
        have H' := sqa H
        clear H
        have p1 : 0 ≤ (x7_3 : Int) := of_decide_eq_true Z7
        have q1 : x7_3 < (a0.size : Int) := of_decide_eq_true Z7
        have hx1 := bt_at a0 x7_3
        replace p1 := eq_true p1
        replace q1 := eq_true q1
        have p2 : 0 ≤ (x7_3 : Int) := of_decide_eq_true Z7
        have q2 : x7_3 < (a0.size : Int) := of_decide_eq_true Z7
        have hx2 := bt_at a0 x7_3
        replace p2 := eq_true p2
        replace q2 := eq_true q2
        have p3 : 0 ≤ (x7_3 : Int) := of_decide_eq_true Z7
        have q3 : x7_3 < (a0.size : Int) := of_decide_eq_true Z7
        have hx3 := bt_at a0 x7_3
        replace p3 := eq_true p3
        replace q3 := eq_true q3
        go_wp2
        go_roundg k3
        case measure => have := HJ1.out; have := HJ9.out; have := HK3.out; omega
        case rel => exact ⟨(wrap64 ((wrap64 (10 * x6_3)) + (((bt a0 x7_3) - 48) % 256))), (wrap64 (x7_3 + 1)), Z2, Z2, H', ⟨by have := HJ1.out; have := HJ9.out; have := HK3.out; omega⟩, Z87⟩
       rw [if_neg c17] at H
       have c21 : decide (x7_3 < (a0.size : Int)) = false := decide_eq_false c17
       clear c17
       obtain ⟨rfl, rfl⟩ := sqO2 H
       go_wp2
       go_ret2
       exact ⟨Z2, Z87⟩

def F59.f (k : Nat) (a0 : ByteArray) : Option (Int × Int × Bool) := (F22.f k a0 47).bind fun t0 => (if 0 < (t0.length : Int) then ((F3.f k (rdOf ByteArray.empty t0 0)).bind fun bt0 => (if (t0.length : Int) = 2 then (if 1 < (t0.length : Int) then ((F3.f k (rdOf ByteArray.empty t0 1)).bind fun bt1 => (if bt0.2 = true then (if bt1.2 = true then (if (t0.length : Int) > 2 then (some (0, 0, false)) else ((F48.f k bt0.1 bt1.1).bind fun t1 => (if t1.toList = a0.toList then (some (bt0.1, bt1.1, true)) else (some (0, 0, false))))) else (some (0, 0, false))) else (some (0, 0, false)))) else (none)) else (if bt0.2 = true then (if (t0.length : Int) > 2 then (some (0, 0, false)) else ((F48.f k bt0.1 1).bind fun t2 => (if t2.toList = a0.toList then (some (bt0.1, 1, true)) else (some (0, 0, false))))) else (some (0, 0, false))))) else (none))
theorem F59.m : ∀ a0 k, LeO (F59.f k a0) (F59.f (k + 1) a0) := by
 intro a0 k
 unfold F59.f
 repeat' (with_reducible first | exact F48.m _ _ _ | exact F22.m _ _ _ | exact F3.m _ _ | exact LeO.refl _ | exact LeO.none _ | refine LeO.ite ?_ ?_ | refine LeO.bind ?_ fun _ => ?_)
theorem F59.c (k : Nat) (a0 : ByteArray) (r1 : Int) (r2 : Int) (r3 : Bool) (w : World) (H : F59.f k a0 = some (r1, r2, r3)) :
  Calls prog 107 #[.string a0] w fun e w' => e = .returned (.tuple #[.agg #[.int .i64 r1, .int .i64 r2], .bool r3]) ∧ Below w.heap.size w w' := by
 have hu31 := underlying31
 have HB := sqh w
 unfold F59.f at H
 obtain ⟨t0, A2, H⟩ := sqD H
 obtain ⟨c3, H⟩ := sqI H
 have c3b0 : decide (0 < (t0.length : Int)) = true := decide_eq_true c3
 have c3b1 : decide (0 < t0.length) = true := decide_eq_true (by omega)
 clear c3
 obtain ⟨⟨t208, t1⟩, A4, H⟩ := sqD H
 try dsimp only at H
 go_enter func107, ntmps107
 go_upto_if 22 with (first | ((with_reducible refine sqd 2 rfl ?_); (try (refine gate_guard (by rfl) ?_; dsimp only)); refine sqBx w (sqB HB) (cs := #[.int .i64 0, .int .i64 0]) (t := 31) ?_; intro g0 hg w0 B0 E0 HB hb; clear hb hg) | ((with_reducible refine sqc 99 rfl ?_); refine sqC (some 12) func99 #[.string a0, .int .u8 47] ?_; (with_reducible refine (F22.c k a0 47 t0 _ A2.1).mono ?_); rintro e w1 ⟨v0, rfl, ho0, hb⟩; refine ⟨_, rfl, ?_⟩; have O0 := sqL ho0 (sqB1 HB E0); replace B0 := sqT B0 hb; replace HB := sqS (sqB1 HB E0) hb; (try clear ho0); obtain ⟨Ao0, co0, eo0⟩ := Kd.R_slice O0.1; subst eo0; have p0 : 0 ≤ (0 : Int) := (by omega); have q0 : 0 < (t0.length : Int) := of_decide_eq_true Z7; obtain ⟨ad0, e0, hx0⟩ := Kd.at_string (Kd.R_reads' O0.1).2.2 0 p0 q0; cases e0; have qi0 : (0 < t0.length) = True := eq_true (by omega); (try rw [show ((0 : Int)).toNat = 0 from rfl] at hx0); (try rw [Addr.add_zero'] at hx0); replace p0 := eq_true p0; replace q0 := eq_true q0) | ((with_reducible refine sqc 100 rfl ?_); refine sqC (some 17) func100 #[.string (rdOf ByteArray.empty t0 0)] ?_; (with_reducible refine (F3.c k (rdOf ByteArray.empty t0 0) t208 t1 _ A4.1).mono ?_); rintro e w' ⟨rfl, ⟨nd, rfl⟩⟩; refine ⟨_, rfl, ?_⟩; (try (rw [drewN_self w1]; generalize hq_ : World.drewN w1 _ = w1; have n0_ : Aside0 (Kd.R Kd.string 9 w1 w.heap.size (fun _ => True) (.slice (some ad0) t0.length co0) t0) := ⟨Z89 O0⟩; have n1_ : Aside0 (w1.heap[g0]? = some (.cells #[.int .i64 0, .int .i64 0] 31 (0, 0))) := ⟨Z61 B0⟩; have n2_ : Aside0 (Below w.heap.size w w1) := ⟨Z90 E0⟩; clear O0 B0 HB hq_; have O0 := n0_; have B0 := n1_; have HB := n2_; clear n0_ n1_ n2_))))
 by_cases c5 : (t0.length : Int) = 2
 ·rw [if_pos c5] at H
  have c5b0 : ((t0.length : Int) == 2) = true := sqe1 c5
  have c5b1 : ((t0.length : Int) != 2) = false := sqn0 c5
  (first | rw [c5b0] | rw [c5b1] | simp only [i64_w, i32_w, c5b0, c5b1] | skip)
  clear c5
  obtain ⟨c6, H⟩ := sqI H
  have c6b0 : decide (1 < (t0.length : Int)) = true := decide_eq_true c6
  have c6b1 : decide (1 < t0.length) = true := decide_eq_true (by omega)
  clear c6
  obtain ⟨⟨t2, t212⟩, A7, H⟩ := sqD H
  try dsimp only at H
  have p1 : 0 ≤ (1 : Int) := (by omega); have q1 : 1 < (t0.length : Int) := of_decide_eq_true Z7; obtain ⟨ad1, e1, hx1⟩ := Kd.at_string (Kd.R_reads' O0.1).2.2 1 p1 q1; obtain rfl : ad0 = ad1 := (by injection e1); (try simp only [show (1 : Int).toNat = 1 from rfl, Nat.reduceMul, Nat.reduceEqDiff, Go.Addr.add, ↓reduceIte] at hx1); have qi1 : (1 < t0.length) = True := eq_true (by omega); (try rw [show ((1 : Int)).toNat = 1 from rfl] at hx1); replace p1 := eq_true p1; replace q1 := eq_true q1
  go_upto_region 6 with (first | ((with_reducible refine sqc 100 rfl ?_); refine sqC (some 27) func100 #[.string (rdOf ByteArray.empty t0 1)] ?_; (with_reducible refine (F3.c k (rdOf ByteArray.empty t0 1) t2 t212 _ A7.1).mono ?_); rintro e w' ⟨rfl, ⟨nd, rfl⟩⟩; refine ⟨_, rfl, ?_⟩; (try (rw [drewN_self w1]; generalize hq_ : World.drewN w1 _ = w1; have n0_ : Aside0 (Kd.R Kd.string 9 w1 w.heap.size (fun _ => True) (.slice (some ad0) t0.length co0) t0) := ⟨Z89 O0⟩; have n1_ : Aside0 (w1.heap[g0]? = some (.cells #[.int .i64 0, .int .i64 0] 31 (0, 0))) := ⟨Z61 B0⟩; have n2_ : Aside0 (Below w.heap.size w w1) := ⟨Z90 E0⟩; clear O0 B0 HB hq_; have O0 := n0_; have B0 := n1_; have HB := n2_; clear n0_ n1_ n2_))))
  by_cases c8 : t1 = true
  ·subst c8
   rw [if_pos rfl] at H
   by_cases c9 : t212 = true
   ·subst c9
    rw [if_pos rfl] at H
    by_cases c10 : (t0.length : Int) > 2
    ·rw [if_pos c10] at H
     have c0 : decide (2 < (t0.length : Int)) = true := decide_eq_true c10
     have c1 : decide (2 < t0.length) = true := decide_eq_true (by omega)
     clear c10
     obtain ⟨rfl, rfl, rfl⟩ := sqO3 H
     go_wp2_with (first | ((with_reducible refine sqd 10 rfl ?_); (try (refine gate_guard (by rfl) ?_; dsimp only)); refine sqBx w (sqB1 HB E0) (cs := #[.int .i64 0, .int .i64 0]) (t := 31) ?_; intro g1 hg w2 B2 E1 HB hb; replace O0 := sqU O0 hb; obtain ⟨N0, N1⟩ := sqM hg B0; replace B0 := sqT B0 hb; clear hb hg; have := sqn2 N1 N0; have := sqY2 B2; have := sqY2 B0))
     refine sqE g0 31 #[.int .i64 0, .int .i64 0] (Z105 N0 B0) underlying31 ?_
     exact ⟨Z14, sqB2 HB E0 E1⟩
    rw [if_neg c10] at H
    have c0 : decide (2 < (t0.length : Int)) = false := decide_eq_false c10
    have c1 : decide (2 < t0.length) = false := decide_eq_false (by omega)
    clear c10
    obtain ⟨t3, A0, H⟩ := sqD H
    by_cases c2 : t3.toList = a0.toList
    ·rw [if_pos c2] at H
     have c4 := sqe1 c2
     have c7 := sqn0 c2
     clear c2
     obtain ⟨rfl, rfl, rfl⟩ := sqO3 H
     go_wp2_with (first | ((with_reducible refine sqd 10 rfl ?_); (try (refine gate_guard (by rfl) ?_; dsimp only)); refine sqBx w (sqB1 HB E0) (cs := #[.int .i64 0, .int .i64 0]) (t := 31) ?_; intro g1 hg w3 B2 E1 HB hb; replace O0 := sqU O0 hb; obtain ⟨N0, N1⟩ := sqM hg B0; replace B0 := sqT B0 hb; clear hb hg; have := sqn2 N1 N0; have := sqY2 B2) | (go_at_call 89; (with_reducible refine (F48.c k t208 t2 t3 _ A0.1).mono ?_); rintro e w4 ⟨rfl, hb⟩; replace O0 := sqa (Kd.R_below (Z106 O0 B2) hb); replace B0 := sqH N0 B0 hb; replace B2 := sqa (blk_below (g := g1) (o := .cells #[.int .i64 t208, .int .i64 t2] 31 (0, 0)) (Z107 B2) hb); replace HB := sqS (sqB2 HB E0 E1) hb; have := sqY2 B2; have := sqY2 B0))
     refine sqE g0 31 #[.int .i64 t208, .int .i64 t2] (Z107 B0) underlying31 ?_
     exact ⟨Z14, sqB2 HB E0 E1⟩
    rw [if_neg c2] at H
    have c4 := sqe0 c2
    have c7 := sqn1 c2
    obtain ⟨rfl, rfl, rfl⟩ := sqO3 H
    go_wp2_with (first | ((with_reducible refine sqd 10 rfl ?_); (try (refine gate_guard (by rfl) ?_; dsimp only)); refine sqBx w (sqB1 HB E0) (cs := #[.int .i64 0, .int .i64 0]) (t := 31) ?_; intro g1 hg w5 B2 E1 HB hb; replace O0 := sqU O0 hb; obtain ⟨N0, N1⟩ := sqM hg B0; replace B0 := sqT B0 hb; clear hb hg; have := sqn2 N1 N0; have := sqY2 B2) | (go_at_call 89; (with_reducible refine (F48.c k t208 t2 t3 _ A0.1).mono ?_); rintro e w6 ⟨rfl, hb⟩; replace O0 := sqa (Kd.R_below (Z106 O0 B2) hb); replace B0 := sqH N0 B0 hb; replace B2 := sqa (blk_below (g := g1) (o := .cells #[.int .i64 t208, .int .i64 t2] 31 (0, 0)) (Z107 B2) hb); replace HB := sqS (sqB2 HB E0 E1) hb; have := sqY2 B0))
    refine sqE g0 31 #[.int .i64 0, .int .i64 0] (Z37 B0) underlying31 ?_
    exact ⟨Z14, sqB2 HB E0 E1⟩
   obtain rfl := sqb c9
   rw [if_neg sqF] at H
   obtain ⟨rfl, rfl, rfl⟩ := sqO3 H
   go_wp2_with (first | ((with_reducible refine sqd 10 rfl ?_); (try (refine gate_guard (by rfl) ?_; dsimp only)); refine sqBx w (sqB1 HB E0) (cs := #[.int .i64 0, .int .i64 0]) (t := 31) ?_; intro g1 hg w7 B2 E1 HB hb; replace O0 := sqU O0 hb; obtain ⟨N0, N1⟩ := sqM hg B0; replace B0 := sqT B0 hb; clear hb hg; have := sqn2 N1 N0; have := sqY2 B2; have := sqY2 B0))
   refine sqE g0 31 #[.int .i64 0, .int .i64 0] (Z105 N0 B0) underlying31 ?_
   exact ⟨Z14, sqB2 HB E0 E1⟩
  obtain rfl := sqb c8
  rw [if_neg sqF] at H
  obtain ⟨rfl, rfl, rfl⟩ := sqO3 H
  go_wp2_with (first | ((with_reducible refine sqd 10 rfl ?_); (try (refine gate_guard (by rfl) ?_; dsimp only)); refine sqBx w (sqB1 HB E0) (cs := #[.int .i64 0, .int .i64 0]) (t := 31) ?_; intro g2 hg w8 B8 E2 HB hb; replace O0 := sqU O0 hb; obtain ⟨N2, N3⟩ := sqM hg B0; replace B0 := sqT B0 hb; clear hb hg; have := sqn2 N3 N2; have := sqY2 B8; have := sqY2 B0))
  refine sqE g0 31 #[.int .i64 0, .int .i64 0] (Z105 N2 B0) underlying31 ?_
  exact ⟨Z14, sqB2 HB E0 E2⟩
 rw [if_neg c5] at H
 have c5b0 : ((t0.length : Int) == 2) = false := sqe0 c5
 have c5b1 : ((t0.length : Int) != 2) = true := sqn1 c5
 (first | rw [c5b0] | rw [c5b1] | simp only [i64_w, i32_w, c5b0, c5b1] | skip)
 go_upto_region 9 with (first | ((with_reducible refine sqd 10 rfl ?_); (try (refine gate_guard (by rfl) ?_; dsimp only)); refine sqBx w (sqB1 HB E0) (cs := #[.int .i64 0, .int .i64 0]) (t := 31) ?_; intro g3 hg w9 B9 E3 HB hb; replace O0 := sqU O0 hb; obtain ⟨N4, N5⟩ := sqM hg B0; replace B0 := sqT B0 hb; clear hb hg; have := sqn2 N5 N4; have := sqY2 B9; have := sqY2 B0))
 by_cases c51 : t1 = true
 ·subst c51
  rw [if_pos rfl] at H
  by_cases c52 : (t0.length : Int) > 2
  ·rw [if_pos c52] at H
   have c12 : decide (2 < (t0.length : Int)) = true := decide_eq_true c52
   have c13 : decide (2 < t0.length) = true := decide_eq_true (by omega)
   clear c52
   obtain ⟨rfl, rfl, rfl⟩ := sqO3 H
   go_wp2_with fail
   refine sqE g0 31 #[.int .i64 0, .int .i64 0] (Z105 N4 B0) underlying31 ?_
   exact ⟨Z14, sqB2 HB E0 E3⟩
  rw [if_neg c52] at H
  have c12 : decide (2 < (t0.length : Int)) = false := decide_eq_false c52
  have c13 : decide (2 < t0.length) = false := decide_eq_false (by omega)
  clear c52
  obtain ⟨t4, A1, H⟩ := sqD H
  by_cases c61 : t4.toList = a0.toList
  ·rw [if_pos c61] at H
   have c15 := sqe1 c61
   have c16 := sqn0 c61
   clear c61
   obtain ⟨rfl, rfl, rfl⟩ := sqO3 H
   go_wp2_with (first | (go_at_call 89; (with_reducible refine (F48.c k t208 1 t4 _ A1.1).mono ?_); rintro e w68 ⟨rfl, hb⟩; replace O0 := sqa (Kd.R_below (Z108 O0 B9) hb); replace B0 := sqH N4 B0 hb; replace B9 := sqa (blk_below (g := g3) (o := .cells #[.int .i64 t208, .int .i64 1] 31 (0, 0)) (Z107 B9) hb); replace HB := sqS (sqB2 HB E0 E3) hb; have := sqY2 B9; have := sqY2 B0))
   refine sqE g0 31 #[.int .i64 t208, .int .i64 1] (Z107 B0) underlying31 ?_
   exact ⟨Z14, sqB2 HB E0 E3⟩
  rw [if_neg c61] at H
  have c15 := sqe0 c61
  have c16 := sqn1 c61
  obtain ⟨rfl, rfl, rfl⟩ := sqO3 H
  go_wp2_with (first | (go_at_call 89; (with_reducible refine (F48.c k t208 1 t4 _ A1.1).mono ?_); rintro e w77 ⟨rfl, hb⟩; replace O0 := sqa (Kd.R_below (Z108 O0 B9) hb); replace B0 := sqH N4 B0 hb; replace B9 := sqa (blk_below (g := g3) (o := .cells #[.int .i64 t208, .int .i64 1] 31 (0, 0)) (Z107 B9) hb); replace HB := sqS (sqB2 HB E0 E3) hb; have := sqY2 B0))
  refine sqE g0 31 #[.int .i64 0, .int .i64 0] (Z37 B0) underlying31 ?_
  exact ⟨Z14, sqB2 HB E0 E3⟩
 obtain rfl := sqb c51
 rw [if_neg sqF] at H
 obtain ⟨rfl, rfl, rfl⟩ := sqO3 H
 go_wp2_with fail
 refine sqE g0 31 #[.int .i64 0, .int .i64 0] (Z105 N4 B0) underlying31 ?_
 exact ⟨Z14, sqB2 HB E0 E3⟩

def F72.f (k : Nat) (a0_0 : Int) (a0_1 : Int) : Option (Int × Int) := (F7.f k a0_0 a0_1).bind fun t0 => (if t0 = true then ((F4.f k (wrap64 (-a0_0)) a0_1).bind fun bt0 => (some (bt0.1, bt0.2.1))) else (some (0, 0)))
theorem F72.m : ∀ a0 a1 k, LeO (F72.f k a0 a1) (F72.f (k + 1) a0 a1) := by
 intro a0 a1 k
 unfold F72.f
 repeat' (with_reducible first | exact F7.m _ _ _ | exact F4.m _ _ _ | exact LeO.refl _ | exact LeO.none _ | refine LeO.ite ?_ ?_ | refine LeO.bind ?_ fun _ => ?_)
theorem F72.c (k : Nat) (a0_0 : Int) (a0_1 : Int) (r1 : Int) (r2 : Int) (w : World) (H : F72.f k a0_0 a0_1 = some (r1, r2)) :
  Calls prog 108 #[.agg #[.int .i64 a0_0, .int .i64 a0_1]] w fun e w' => e = .returned (.agg #[.int .i64 r1, .int .i64 r2]) ∧ Below w.heap.size w w' := by
 have hu31 := underlying31
 have HB := sqh w
 unfold F72.f at H
 obtain ⟨t0, A2, H⟩ := sqD H
 by_cases c3 : t0 = true
 ·subst c3
  rw [if_pos rfl] at H
  obtain ⟨⟨t1, t2, t3⟩, A4, H⟩ := sqD H
  try dsimp only at H
  obtain ⟨rfl, rfl⟩ := sqO2 H
  go_enter func108, ntmps108
  go_wp2_with (first | ((with_reducible refine sqd 1 rfl ?_); refine sqBx w (sqB HB) (cs := #[.int .i64 a0_0, .int .i64 a0_1]) (t := 31) ?_; intro g0 hg w5 B0 E0 HB hb; clear hb hg) | ((with_reducible refine sqd 2 rfl ?_); refine sqBx w (sqB1 HB E0) (cs := #[.int .i64 0, .int .i64 0]) (t := 31) ?_; intro g1 hg w6 B2 E1 HB hb; obtain ⟨N0, N1⟩ := sqM hg B0; replace B0 := sqT B0 hb; clear hb hg; have := sqn2 N0 N1; have := sqY2 B0) | ((with_reducible refine sqc 77 rfl ?_); refine sqC (some 6) func77 #[.agg #[.int .i64 a0_0, .int .i64 a0_1]] ?_; (with_reducible refine (F7.c k a0_0 a0_1 true _ A2.1).mono ?_); refine sqV fun w9 hb => ?_; obtain ⟨B0, B2⟩ := sqT2 hb B0 B2; replace HB := sqS (sqB2 HB E0 E1) hb; have := sqY2 B0) | ((with_reducible refine sqc 136 rfl ?_); refine sqC (some 15) func136 #[.int .i64 (wrap64 (-a0_0)), .int .i64 a0_1] ?_; (with_reducible refine (F4.c k (wrap64 (-a0_0)) a0_1 t1 t2 t3 _ A4.1).mono ?_); refine sqV fun w0 hb => ?_; obtain ⟨B0, B2⟩ := sqT2 hb B0 B2; replace HB := sqS (sqB2 HB E0 E1) hb) | ((with_reducible refine sqd 3 rfl ?_); refine sqBx w (sqB2 HB E0 E1) (cs := #[.int .i64 0, .int .i64 0]) (t := 31) ?_; intro g2 hg w1 B8 E2 HB hb; obtain ⟨N2, N3⟩ := sqM hg B0; replace B0 := sqT B0 hb; obtain ⟨N4, N5⟩ := sqM hg B2; replace B2 := sqT B2 hb; clear hb hg; have := sqn4 N3 N2 N5 N4; have := sqY2 B8; have := sqY2 B2))
  refine sqEr g1 31 #[.int .i64 t1, .int .i64 t2] (by refine sqPut (cs := #[.int .i64 t1, .int .i64 0]) ?_ 1; refine sqPut (cs := #[.int .i64 0, .int .i64 0]) ?_ 0; refine sqFar ?_ N4; refine sqFar ?_ N4; exact sqK B2) underlying31 ?_
  exact ⟨Z14, sqB3 HB E0 E1 E2⟩
 obtain rfl := sqb c3
 rw [if_neg sqF] at H
 obtain ⟨rfl, rfl⟩ := sqO2 H
 go_enter func108, ntmps108
 go_wp2_with (first | ((with_reducible refine sqd 1 rfl ?_); refine sqBx w (sqB HB) (cs := #[.int .i64 a0_0, .int .i64 a0_1]) (t := 31) ?_; intro g0 hg w2 B0 E0 HB hb; clear hb hg) | ((with_reducible refine sqd 2 rfl ?_); refine sqBx w (sqB1 HB E0) (cs := #[.int .i64 0, .int .i64 0]) (t := 31) ?_; intro g1 hg w3 B2 E1 HB hb; obtain ⟨N0, N1⟩ := sqM hg B0; replace B0 := sqT B0 hb; clear hb hg; have := sqn2 N0 N1; have := sqY2 B0) | ((with_reducible refine sqc 77 rfl ?_); refine sqC (some 6) func77 #[.agg #[.int .i64 a0_0, .int .i64 a0_1]] ?_; (with_reducible refine (F7.c k a0_0 a0_1 false _ A2.1).mono ?_); refine sqV fun w4 hb => ?_; obtain ⟨B0, B2⟩ := sqT2 hb B0 B2; replace HB := sqS (sqB2 HB E0 E1) hb; have := sqY2 B2))
 refine sqEr g1 31 #[.int .i64 0, .int .i64 0] (Z37 B2) underlying31 ?_
 exact ⟨Z14, sqB2 HB E0 E1⟩

def F65.f (k : Nat) (a0_0 : Int) (a0_1 : Int) (a1_0 : Int) (a1_1 : ByteArray) : Option (Int × Int × Bool) := if a1_0 = 0 then ((F8.f k a0_0 a0_1 a1_1).bind fun bt0 => (some (bt0.1, bt0.2.1, bt0.2.2))) else (if a1_0 = 1 then ((F59.f k a1_1).bind fun bt1 => (some (bt1.1, bt1.2.1, bt1.2.2))) else (if (a1_0 == 2 && (a1_1.toList == ([] : List UInt8))) = true then ((F72.f k a0_0 a0_1).bind fun bt2 => (some (bt2.1, bt2.2, true))) else (if (a1_0 == 3 && (a1_1.toList == ([] : List UInt8))) = true then ((F16.f k a0_0 a0_1).bind fun bt3 => (some (0, 1, bt3.2))) else (some (a0_0, a0_1, false)))))
theorem F65.m : ∀ a0 a1 a2 a3 k, LeO (F65.f k a0 a1 a2 a3) (F65.f (k + 1) a0 a1 a2 a3) := by
 intro a0 a1 a2 a3 k
 unfold F65.f
 repeat' (with_reducible first | exact F8.m _ _ _ _ | exact F72.m _ _ _ | exact F59.m _ _ | exact F16.m _ _ _ | exact LeO.refl _ | exact LeO.none _ | refine LeO.ite ?_ ?_ | refine LeO.bind ?_ fun _ => ?_)
theorem F65.c (k : Nat) (a0_0 : Int) (a0_1 : Int) (a1_0 : Int) (a1_1 : ByteArray) (r1 : Int) (r2 : Int) (r3 : Bool) (w : World) (H : F65.f k a0_0 a0_1 a1_0 a1_1 = some (r1, r2, r3)) :
  Calls prog 57 #[.agg #[.int .i64 a0_0, .int .i64 a0_1], .agg #[.int .i64 a1_0, .string a1_1]] w fun e w' => e = .returned (.tuple #[.agg #[.int .i64 r1, .int .i64 r2], .bool r3]) ∧ Below w.heap.size w w' := by
 have hu31 := underlying31
 have hu38 := underlying38
 have HB := sqh w
 unfold F65.f at H
 go_enter func57, ntmps57
 go_upto_if 8 with (first | ((with_reducible refine sqd 2 rfl ?_); refine sqBx w (sqB HB) (cs := #[.int .i64 a0_0, .int .i64 a0_1]) (t := 31) ?_; intro g0 hg w5 B0 E0 HB hb; clear hb hg) | ((with_reducible refine sqd 3 rfl ?_); refine sqBx w (sqB1 HB E0) (cs := #[.int .i64 a1_0, .string a1_1]) (t := 38) ?_; intro g1 hg w6 B2 E1 HB hb; obtain ⟨N0, N1⟩ := sqM hg B0; replace B0 := sqT B0 hb; clear hb hg) | ((with_reducible refine sqd 4 rfl ?_); refine sqBx w (sqB2 HB E0 E1) (cs := #[.int .i64 0, .int .i64 0]) (t := 31) ?_; intro g2 hg w7 B8 E2 HB hb; obtain ⟨N2, N3⟩ := sqM hg B0; replace B0 := sqT B0 hb; obtain ⟨N4, N5⟩ := sqM hg B2; replace B2 := sqT B2 hb; clear hb hg; have := sqn4 N1 N0 N4 N5; have := sqY2 B2; have := sqn2 N2 N3; have := sqY2 B0; have := sqY2 B8))
 by_cases c3 : a1_0 = 0
 ·rw [if_pos c3] at H
  have c3b0 : (a1_0 == 0) = true := sqe1 c3
  have c3b1 : (a1_0 != 0) = false := sqn0 c3
  (first | rw [c3b0] | rw [c3b1] | simp only [i64_w, i32_w, c3b0, c3b1] | skip)
  clear c3
  obtain ⟨⟨t0, t1, t2⟩, A4, H⟩ := sqD H
  try dsimp only at H
  obtain ⟨rfl, rfl, rfl⟩ := sqO3 H
  go_wp2_with (first | ((with_reducible refine sqc 106 rfl ?_); refine sqC (some 15) func106 #[.agg #[.int .i64 a0_0, .int .i64 a0_1], .string a1_1] ?_; (with_reducible refine (F8.c k a0_0 a0_1 a1_1 t0 t1 t2 _ A4.1).mono ?_); refine sqV fun w0 hb => ?_; obtain ⟨B0, B2, B8⟩ := sqT3 hb B0 B2 B8; replace HB := sqS (sqB3 HB E0 E1 E2) hb; have := sqY2 B8))
  refine sqE g2 31 #[.int .i64 t0, .int .i64 t1] (by refine sqPut (cs := #[.int .i64 t0, .int .i64 0]) ?_ 1; refine sqPut (cs := #[.int .i64 0, .int .i64 0]) ?_ 0; exact sqK B8) underlying31 ?_
  exact ⟨Z14, sqB3 HB E0 E1 E2⟩
 rw [if_neg c3] at H
 have c3b0 : (a1_0 == 0) = false := sqe0 c3
 have c3b1 : (a1_0 != 0) = true := sqn1 c3
 (first | rw [c3b0] | rw [c3b1] | simp only [i64_w, i32_w, c3b0, c3b1] | skip)
 go_upto_if 18 with fail
 by_cases c0 : a1_0 = 1
 ·rw [if_pos c0] at H
  have c1 := sqe1 c0
  have c2 := sqn0 c0
  (first | rw [c1] | rw [c2] | simp only [i64_w, i32_w, c1, c2] | skip)
  clear c0
  obtain ⟨⟨t3, t232, t233⟩, A0, H⟩ := sqD H
  try dsimp only at H
  obtain ⟨rfl, rfl, rfl⟩ := sqO3 H
  go_wp2_with (first | ((with_reducible refine sqc 107 rfl ?_); refine sqC (some 24) func107 #[.string a1_1] ?_; (with_reducible refine (F59.c k a1_1 t3 t232 t233 _ A0.1).mono ?_); refine sqV fun w1 hb => ?_; obtain ⟨B0, B2, B8⟩ := sqT3 hb B0 B2 B8; replace HB := sqS (sqB3 HB E0 E1 E2) hb; have := sqn2 N3 N2; have := sqY2 B8))
  refine sqE g2 31 #[.int .i64 t3, .int .i64 t232] (by refine sqPut (cs := #[.int .i64 t3, .int .i64 0]) ?_ 1; refine sqPut (cs := #[.int .i64 0, .int .i64 0]) ?_ 0; exact sqK B8) underlying31 ?_
  exact ⟨Z14, sqB3 HB E0 E1 E2⟩
 rw [if_neg c0] at H
 have c1 := sqe0 c0
 have c2 := sqn1 c0
 (first | rw [c1] | rw [c2] | simp only [i64_w, i32_w, c1, c2] | skip)
 go_upto_if 27 with fail
 by_cases c4 : (a1_0 == 2 && (a1_1.toList == ([] : List UInt8))) = true
 ·rw [if_pos c4] at H
  have c5 : (a1_0 == 2 && (a1_1.toList == ([] : List UInt8))) = true := c4
  try have c6 : (a1_0 == 2 && a1_1.toList.isEmpty) = true := by (have h_ := c5; (repeat rw [sqy] at h_); exact h_)
  (try (have c7 : decide (a1_0 = 2 && (a1_1.toList == ([] : List UInt8))) = true := by simpa using c4))
  (try (have c8 : (a1_0 == 2 && (a1_1.toList == ([] : List UInt8))) = true := by simpa using c4))
  (first | rw [c5] | rw [c7] | rw [c8] | rw [c6] | simp only [i64_w, i32_w, c5, c7] | skip)
  clear c4
  obtain ⟨⟨t4, t5⟩, A1, H⟩ := sqD H
  try dsimp only at H
  obtain ⟨rfl, rfl, rfl⟩ := sqO3 H
  go_wp2_with (first | ((with_reducible refine sqc 108 rfl ?_); refine sqC (some 32) func108 #[.agg #[.int .i64 a0_0, .int .i64 a0_1]] ?_; (with_reducible refine (F72.c k a0_0 a0_1 t4 t5 _ A1.1).mono ?_); refine sqV fun w2 hb => ?_; obtain ⟨B0, B2, B8⟩ := sqT3 hb B0 B2 B8; replace HB := sqS (sqB3 HB E0 E1 E2) hb; have := sqY2 B8))
  refine sqE g2 31 #[.int .i64 t4, .int .i64 t5] (by refine sqPut (cs := #[.int .i64 t4, .int .i64 0]) ?_ 1; refine sqPut (cs := #[.int .i64 0, .int .i64 0]) ?_ 0; exact sqK B8) underlying31 ?_
  exact ⟨Z14, sqB3 HB E0 E1 E2⟩
 rw [if_neg c4] at H
 have c5 : (a1_0 == 2 && (a1_1.toList == ([] : List UInt8))) = false := by simpa using c4
 try have c6 : (a1_0 == 2 && a1_1.toList.isEmpty) = false := by (have h_ := c5; (repeat rw [sqy] at h_); exact h_)
 (try (have c7 : decide (a1_0 = 2 && (a1_1.toList == ([] : List UInt8))) = false := by simpa using c4))
 (try (have c8 : (a1_0 == 2 && (a1_1.toList == ([] : List UInt8))) = false := by simpa using c4))
 (try (have c9 : ¬ (a1_0 = 2 && (a1_1.toList == ([] : List UInt8))) := by simpa using c4))
 (first | rw [c5] | rw [c7] | rw [c8] | rw [c9] | rw [c6] | simp only [i64_w, i32_w, c5, c7] | skip)
 clear c4
 go_upto_if 33 with fail
 by_cases c38 : (a1_0 == 3 && (a1_1.toList == ([] : List UInt8))) = true
 ·rw [if_pos c38] at H
  have c11 : (a1_0 == 3 && (a1_1.toList == ([] : List UInt8))) = true := c38
  try have c12 : (a1_0 == 3 && a1_1.toList.isEmpty) = true := by (have h_ := c11; (repeat rw [sqy] at h_); exact h_)
  (try (have c13 : decide (a1_0 = 3 && (a1_1.toList == ([] : List UInt8))) = true := by simpa using c38))
  (try (have c14 : (a1_0 == 3 && (a1_1.toList == ([] : List UInt8))) = true := by simpa using c38))
  (first | rw [c11] | rw [c13] | rw [c14] | rw [c12] | simp only [i64_w, i32_w, c11, c13] | skip)
  clear c38
  obtain ⟨⟨t6, t7⟩, A2, H⟩ := sqD H
  try dsimp only at H
  obtain ⟨rfl, rfl, rfl⟩ := sqO3 H
  go_wp2_with (first | ((with_reducible refine sqc 90 rfl ?_); refine sqC (some 39) func90 #[.agg #[.int .i64 a0_0, .int .i64 a0_1]] ?_; (with_reducible refine (F16.c k a0_0 a0_1 t6 t7 _ A2.1).mono ?_); refine sqV fun w3 hb => ?_; obtain ⟨B0, B2, B8⟩ := sqT3 hb B0 B2 B8; replace HB := sqS (sqB3 HB E0 E1 E2) hb; have := sqY2 B8))
  refine sqE g2 31 #[.int .i64 0, .int .i64 1] (Z37 B8) underlying31 ?_
  exact ⟨Z14, sqB3 HB E0 E1 E2⟩
 rw [if_neg c38] at H
 have c11 : (a1_0 == 3 && (a1_1.toList == ([] : List UInt8))) = false := by simpa using c38
 try have c12 : (a1_0 == 3 && a1_1.toList.isEmpty) = false := by (have h_ := c11; (repeat rw [sqy] at h_); exact h_)
 (try (have c13 : decide (a1_0 = 3 && (a1_1.toList == ([] : List UInt8))) = false := by simpa using c38))
 (try (have c14 : (a1_0 == 3 && (a1_1.toList == ([] : List UInt8))) = false := by simpa using c38))
 (try (have c16 : ¬ (a1_0 = 3 && (a1_1.toList == ([] : List UInt8))) := by simpa using c38))
 (first | rw [c11] | rw [c13] | rw [c14] | rw [c16] | rw [c12] | simp only [i64_w, i32_w, c11, c13] | skip)
 clear c38
 obtain ⟨rfl, rfl, rfl⟩ := sqO3 H
 go_wp2_with fail
 refine sqE g2 31 #[.int .i64 a0_0, .int .i64 a0_1] (Z81 B8) underlying31 ?_
 exact ⟨Z14, sqB3 HB E0 E1 E2⟩
end
end Go.Proofs.YtofmlbgfcohhoaaGreatDoor.PFnReadJournal
