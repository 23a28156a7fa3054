import Derived.Test.YtofmlbgfcohhoaaGreatDoorPFnDeskSayx15
import Derived.Test.YtofmlbgfcohhoaaGreatDoorPFnDeskSayx16
set_option maxHeartbeats 8000000
set_option maxRecDepth 100000
namespace Go.Proofs.YtofmlbgfcohhoaaGreatDoor.PFnDeskSay
open Go.RowKit Go.Proofs.YtofmlbgfcohhoaaGreatDoorW.PrintWords Go.Proofs.YtofmlbgfcohhoaaGreatDoorW.PrintLast Go.Proofs.YtofmlbgfcohhoaaGreatDoorW.PrintMore Go.Proofs.YtofmlbgfcohhoaaGreatDoor.Lib Go.Proofs.Tryz
attribute [local go_sem] max2_int min2_int max_two min_two max_three min_three max_four min_four   -- for this text's walks alone
set_option linter.unusedVariables false
set_option linter.unusedSimpArgs false

attribute [local go_sem high] eqA38
mutual
def F5.j0 : Nat → ByteArray → Bool → Option (Int × Bool)
 | 0, _, _ => none
 | k + 1, x0, x1 => if x1 = true then (if 1 ≤ (x0.size : Int) then ((F5.f k (x0.extract 1 x0.size)).bind fun bt0 => (if bt0.2 = true then (some (wrap64 (-bt0.1), decide (bt0.1 > 0))) else (some (wrap64 (-bt0.1), false)))) else (none)) else ((F2.f (x0.size : Int) 1 7).bind fun t0 => (if t0 = true then (if (x0.size : Int) > 1 then (if 0 < (x0.size : Int) then (F5.j1 k x0 ((bt x0 0) == 48)) else (none)) else (F5.j1 k x0 false)) else (F5.j1 k x0 true)))
def F5.j1 : Nat → ByteArray → Bool → Option (Int × Bool)
 | 0, _, _ => none
 | k + 1, x0, x1 => if x1 = true then (some (0, false)) else (F5.l0 k x0 0 0)
def F5.l0 : Nat → ByteArray → Int → Int → Option (Int × Bool)
 | 0, _, _, _ => none
 | k + 1, x0, x6, x7 => if x7 < (x0.size : Int) then (if 0 ≤ x7 then (if (bt x0 x7) < 48 then (some (0, false)) else (if (bt x0 x7) > 57 then (some (0, false)) else (F5.l0 k x0 (wrap64 ((wrap64 (10 * x6)) + (((bt x0 x7) - 48) % 256))) (wrap64 (x7 + 1))))) else (none)) else (some (x6, true))
def F5.f : Nat → ByteArray → Option (Int × Bool)
 | 0, _ => none
 | k + 1, a0 => if (a0.size : Int) > 1 then (if 0 < (a0.size : Int) then (F5.j0 k a0 ((bt a0 0) == 45)) else (none)) else (F5.j0 k a0 false)
end
theorem F5.c (k : Nat) : ∀ (a0 : ByteArray) (r1 : Int) (r2 : Bool) (w : World) (h : F5.f k a0 = some (r1, r2)),
  Calls prog 100 #[.string a0] w fun e w' => e = .returned (.tuple #[.int .i64 r1, .bool r2]) ∧ Drawn0 w w' := by
 induction k using Nat.strongRecOn with
 | _ k ih =>
 intro a0 r1 r2 w h
 cases k with
 | zero => exact absurd h (by simp [F5.f])
 | succ k =>
 simp only [F5.f] at h
 have H : (if (a0.size : Int) > 1 then (if 0 < (a0.size : Int) then (F5.j0 k a0 ((bt a0 0) == 45)) else (none)) else (F5.j0 k a0 false)) = some (r1, r2) := h
 clear h
 have HC2 := sqa H
 clear H
 go_enter func100, ntmps100
 go_upto_region 1 with (fail)
 go_cut [15] (fun v0 wc => ∃ (kq : Nat) (x0 : Bool), v0 = .bool x0 ∧ Aside0 (F5.j0 kq a0 x0 = some (r1, r2)) ∧ Aside0 (kq ≤ k) ∧ Drawn0 w wc)
 case first =>
  have H := HC2.1
  clear HC2
  obtain ⟨c3, H⟩ | ⟨c3, H⟩ := sqi2 H
  ·have c3b0 : decide (1 < (a0.size : Int)) = true := decide_eq_true c3
   have c3b1 : decide (1 < a0.size) = true := decide_eq_true (by omega)
   clear c3
   (first | rw [c3b0] | (simp only [i64_w, i32_w]; rw [c3b0]) | skip)
   obtain ⟨c4, c4b0, H⟩ := sqJ4 H
   have c4b1 : decide (0 < a0.size) = true := decide_eq_true (by omega)
   clear c4
   have H' := sqa H
   clear H
   have p5 : 0 ≤ (0 : Int) := (by omega)
   have q5 : 0 < a0.size := (by have : (0 : Int) < (a0.size : Int) := of_decide_eq_true Z16; omega)
   have hx5 : ∀ h : 0 < a0.size, ((a0[0]'h).toNat : Int) = bt a0 0 := bt_at a0 0
   clear p5
   have qi5 : (0 < (a0.size : Int)) = True := eq_true (of_decide_eq_true Z16)
   replace q5 := eq_true q5
   go_wp2
   go_meet
   case rel => exact ⟨_, (((bt a0 0) == 45)), Z1, H', ⟨Z11⟩, Z15⟩
  have c3b0 : decide (1 < (a0.size : Int)) = false := decide_eq_false c3
  have c3b1 : decide (1 < a0.size) = false := decide_eq_false (by omega)
  clear c3
  (first | rw [c3b0] | (simp only [i64_w, i32_w]; rw [c3b0]) | skip)
  have H' := sqa H
  clear H
  go_wp2
  go_meet
  case rel => exact ⟨_, (false), Z1, H', ⟨Z11⟩, Z15⟩
 case rest =>
  clear HC2
  obtain ⟨kq, x0, rfl, HA, HJ1, ⟨mc1, rfl⟩⟩ := hcut
  cases kq with
  | zero => exact absurd HA.out (by simp [F5.j0])
  | succ kj1 =>
   have H := HA.out
   clear HA
   simp only [F5.j0] at H
   obtain rfl | rfl := sqt x0
   ·rw [if_pos rfl] at H
    obtain ⟨c7b0, c7b1, H⟩ := sqJ3 H
    obtain ⟨⟨t0, t1⟩, A8, H⟩ := sqD H
    try dsimp only at H
    obtain rfl | rfl := sqt t1
    ·rw [if_pos rfl] at H
     obtain ⟨rfl, rfl⟩ := sqO2 H
     go_wp2_with (first | ((with_reducible refine sqc 100 rfl ?_); refine sqC (some 19) func100 #[.string (a0.extract 1 a0.size)] ?_; (with_reducible refine (ih kj1 Z22 (a0.extract 1 a0.size) t0 true _ A8.1).mono ?_); rintro e w' ⟨rfl, ⟨nd, rfl⟩⟩; refine ⟨_, rfl, ?_⟩))
     go_ret2
     exact ⟨Z1, Z15⟩
    rw [if_neg sqF] at H
    obtain ⟨rfl, rfl⟩ := sqO2 H
    go_wp2_with (first | ((with_reducible refine sqc 100 rfl ?_); refine sqC (some 19) func100 #[.string (a0.extract 1 a0.size)] ?_; (with_reducible refine (ih kj1 Z22 (a0.extract 1 a0.size) t0 false _ A8.1).mono ?_); rintro e w' ⟨rfl, ⟨nd, rfl⟩⟩; refine ⟨_, rfl, ?_⟩))
    go_ret2
    exact ⟨Z1, Z15⟩
   rw [if_neg sqF] at H
   have HC0 := sqa H
   clear H
   go_upto_region 4 with (fail)
   go_cut [42] (fun v1 wc => ∃ (kq : Nat) (x1 : Bool), v1 = .bool x1 ∧ Aside0 (F5.j1 kq a0 x1 = some (r1, r2)) ∧ Aside0 (kq ≤ kj1) ∧ Drawn0 w wc)
   case first =>
    have H := HC0.1
    clear HC0
    obtain ⟨t2, A0, H⟩ := sqD H
    obtain rfl | rfl := sqt t2
    ·rw [if_pos rfl] at H
     obtain ⟨c1, H⟩ | ⟨c1, H⟩ := sqi2 H
     ·have c2 : decide (1 < (a0.size : Int)) = true := decide_eq_true c1
      have c5 : decide (1 < a0.size) = true := decide_eq_true (by omega)
      clear c1
      (first | rw [c2] | (simp only [i64_w, i32_w]; rw [c2]) | skip)
      obtain ⟨c8, c10, H⟩ := sqJ4 H
      have c11 : decide (0 < a0.size) = true := decide_eq_true (by omega)
      clear c8
      have H' := sqa H
      clear H
      go_wp2_with (first | ((with_reducible refine sqc 101 rfl ?_); refine sqvd (some 31) func101 (F2.c (a0.size : Int) 1 7 true _ A0.1) fun nd => ?_; have p0 : 0 ≤ (0 : Int) := (by omega); have q0 : 0 < a0.size := (by have : (0 : Int) < (a0.size : Int) := of_decide_eq_true Z16; omega); have hx0 : ∀ h : 0 < a0.size, ((a0[0]'h).toNat : Int) = bt a0 0 := bt_at a0 0; clear p0; have qi0 : (0 < (a0.size : Int)) = True := eq_true (of_decide_eq_true Z16); replace q0 := eq_true q0))
      go_meet
      case rel => exact ⟨_, (((bt a0 0) == 48)), Z1, H', ⟨Z27⟩, Z15⟩
     have c2 : decide (1 < (a0.size : Int)) = false := decide_eq_false c1
     have c5 : decide (1 < a0.size) = false := decide_eq_false (by omega)
     clear c1
     (first | rw [c2] | (simp only [i64_w, i32_w]; rw [c2]) | skip)
     have H' := sqa H
     clear H
     go_wp2_with (first | ((with_reducible refine sqc 101 rfl ?_); refine sqvd (some 31) func101 (F2.c (a0.size : Int) 1 7 true _ A0.1) fun nd => ?_))
     go_meet
     case rel => exact ⟨_, (false), Z1, H', ⟨Z27⟩, Z15⟩
    rw [if_neg sqF] at H
    have H' := sqa H
    clear H
    go_wp2_with (first | ((with_reducible refine sqc 101 rfl ?_); refine sqvd (some 31) func101 (F2.c (a0.size : Int) 1 7 false _ A0.1) fun nd => ?_))
    go_meet
    case rel => exact ⟨_, (true), Z1, H', ⟨Z27⟩, Z15⟩
   case rest =>
    clear HC0
    obtain ⟨kq, x1, rfl, HA, HJ9, ⟨mc9, rfl⟩⟩ := hcut
    cases kq with
    | zero => exact absurd HA.out (by simp [F5.j1])
    | succ kj9 =>
     have H := HA.out
     clear HA
     simp only [F5.j1] at H
     obtain rfl | rfl := sqt x1
     ·rw [if_pos rfl] at H
      obtain ⟨rfl, rfl⟩ := sqO2 H
      go_wp2
      go_ret2
      exact ⟨Z1, Z15⟩
     rw [if_neg sqF] at H
     have H' := sqa H
     clear H
     go_wp2
     go_loopg [6, 7] kj9 (fun kq v6 v7 w' => ∃ (x6_3 : Int) (x7_3 : Int), v6 = .int .i64 x6_3 ∧ v7 = .int .i64 x7_3 ∧ Aside0 (F5.l0 kq a0 x6_3 x7_3 = some (r1, r2)) ∧ Aside0 (kq ≤ kj9) ∧ Drawn0 w w')
     case atStart => exact ⟨(0), (0), Z1, Z1, H', ⟨Nat.le_refl _⟩, Z15⟩
     case round =>
      clear H'
      obtain ⟨x6_3, x7_3, rfl, rfl, HA, HK3, ⟨m3, rfl⟩⟩ := hrel
      cases gk with
      | zero => exact absurd HA.out (by simp [F5.l0])
      | succ k3 =>
       have H := HA.out
       clear HA
       simp only [F5.l0] at H
       obtain ⟨c21, H⟩ | ⟨c21, H⟩ := sqi3 H
       ·obtain ⟨c24, H⟩ := sqJ2 H
        obtain ⟨c25, H⟩ | ⟨c25, H⟩ := sqi3 H
        ·obtain ⟨rfl, rfl⟩ := sqO2 H
         have p1 : 0 ≤ (x7_3 : Int) := of_decide_eq_true Z16
         have q1 : x7_3 < (a0.size : Int) := of_decide_eq_true Z16
         have hx1 := bt_at a0 x7_3
         replace p1 := eq_true p1
         replace q1 := eq_true q1
         go_wp2
         go_ret2
         exact ⟨Z1, Z15⟩
        obtain ⟨c27, H⟩ | ⟨c27, H⟩ := sqi3g H
        ·obtain ⟨rfl, rfl⟩ := sqO2 H
         have p1 : 0 ≤ (x7_3 : Int) := of_decide_eq_true Z16
         have q1 : x7_3 < (a0.size : Int) := of_decide_eq_true Z16
         have hx1 := bt_at a0 x7_3
         replace p1 := eq_true p1
         replace q1 := eq_true q1
         have p2 : 0 ≤ (x7_3 : Int) := of_decide_eq_true Z16
         have q2 : x7_3 < (a0.size : Int) := of_decide_eq_true Z16
         have hx2 := bt_at a0 x7_3
         replace p2 := eq_true p2
         replace q2 := eq_true q2
         go_wp2
         go_ret2
         exact ⟨Z1, Z15⟩
        have H' := sqa H
        clear H
        have p1 : 0 ≤ (x7_3 : Int) := of_decide_eq_true Z16
        have q1 : x7_3 < (a0.size : Int) := of_decide_eq_true Z16
        have hx1 := bt_at a0 x7_3
        replace p1 := eq_true p1
        replace q1 := eq_true q1
        have p2 : 0 ≤ (x7_3 : Int) := of_decide_eq_true Z16
        have q2 : x7_3 < (a0.size : Int) := of_decide_eq_true Z16
        have hx2 := bt_at a0 x7_3
        replace p2 := eq_true p2
        replace q2 := eq_true q2
        have p3 : 0 ≤ (x7_3 : Int) := of_decide_eq_true Z16
        have q3 : x7_3 < (a0.size : Int) := of_decide_eq_true Z16
        have hx3 := bt_at a0 x7_3
        replace p3 := eq_true p3
        replace q3 := eq_true q3
        go_wp2
        go_roundg k3
        case measure => have := HJ1.out; have := HJ9.out; have := HK3.out; omega
        case rel => exact ⟨(wrap64 ((wrap64 (10 * x6_3)) + (((bt a0 x7_3) - 48) % 256))), (wrap64 (x7_3 + 1)), Z1, Z1, H', ⟨by have := HJ1.out; have := HJ9.out; have := HK3.out; omega⟩, Z15⟩
       obtain ⟨rfl, rfl⟩ := sqO2 H
       go_wp2
       go_ret2
       exact ⟨Z1, Z15⟩

def F66.f (k : Nat) (a0 : ByteArray) : Option (Int × Int × Bool) := (F21.f k a0 47).bind fun t0 => (if 0 < (t0.length : Int) then ((F5.f k (rdOf ByteArray.empty t0 0)).bind fun bt0 => (if (t0.length : Int) = 2 then (if 1 < (t0.length : Int) then ((F5.f k (rdOf ByteArray.empty t0 1)).bind fun bt1 => (if bt0.2 = true then (if bt1.2 = true then (if (t0.length : Int) > 2 then (some (0, 0, false)) else ((F19.f k bt0.1 bt1.1).bind fun t1 => (if t1.toList = a0.toList then (some (bt0.1, bt1.1, true)) else (some (0, 0, false))))) else (some (0, 0, false))) else (some (0, 0, false)))) else (none)) else (if bt0.2 = true then (if (t0.length : Int) > 2 then (some (0, 0, false)) else ((F19.f k bt0.1 1).bind fun t2 => (if t2.toList = a0.toList then (some (bt0.1, 1, true)) else (some (0, 0, false))))) else (some (0, 0, false))))) else (none))
theorem F66.c (k : Nat) (a0 : ByteArray) (r1 : Int) (r2 : Int) (r3 : Bool) (w : World) (H : F66.f k a0 = some (r1, r2, r3)) :
  Calls prog 107 #[.string a0] w fun e w' => e = .returned (.tuple #[.agg #[.int .i64 r1, .int .i64 r2], .bool r3]) ∧ Below w.heap.size w w' := by
 have hu31 := underlying31
 have HB := sqh w
 unfold F66.f at H
 obtain ⟨t0, A2, H⟩ := sqD H
 obtain ⟨c3, c3b0, H⟩ := sqJ4 H
 have c3b1 : decide (0 < t0.length) = true := decide_eq_true (by omega)
 clear c3
 obtain ⟨⟨t460, t1⟩, A4, H⟩ := sqD H
 try dsimp only at H
 go_enter func107, ntmps107
 go_upto_if 22 with (first | ((with_reducible refine sqd 2 rfl ?_); (try (refine gate_guard (by rfl) ?_; dsimp only)); refine sqx0 w (sqB HB) #[.int .i64 0, .int .i64 0] 31 fun g0 w0 B0 E0 HB => ?_) | ((with_reducible refine sqc 99 rfl ?_); refine sqvo (some 12) func99 (F21.c k a0 47 t0 _ A2.1) fun v0 w1 ho0 hb => ?_; have O0 := sqL ho0 (sqB1 HB E0); replace B0 := sqT B0 hb; replace HB := sqS (sqB1 HB E0) hb; (try clear ho0); obtain ⟨Ao0, co0, eo0⟩ := Kd.R_slice O0.1; subst eo0; have p0 : 0 ≤ (0 : Int) := (by omega); have q0 : 0 < (t0.length : Int) := of_decide_eq_true Z16; obtain ⟨ad0, e0, hx0⟩ := Kd.at_string (Kd.R_reads' O0.1).2.2 0 p0 q0; cases e0; have qi0 : (0 < t0.length) = True := eq_true (by omega); (try rw [show ((0 : Int)).toNat = 0 from rfl] at hx0); (try rw [Addr.add_zero'] at hx0); replace p0 := eq_true p0; replace q0 := eq_true q0) | ((with_reducible refine sqc 100 rfl ?_); refine sqvd (some 17) func100 (F5.c k (rdOf ByteArray.empty t0 0) t460 t1 _ A4.1) fun nd => ?_; (try (rw [drewN_self w1]; generalize hq_ : World.drewN w1 _ = w1; have n0_ : Aside0 (Kd.R Kd.string 9 w1 w.heap.size (fun _ => True) (.slice (some ad0) t0.length co0) t0) := ⟨Z28 O0⟩; have n1_ : Aside0 (w1.heap[g0]? = some (.cells #[.int .i64 0, .int .i64 0] 31 (0, 0))) := ⟨Z29 B0⟩; have n2_ : Aside0 (Below w.heap.size w w1) := ⟨Z30 E0⟩; clear O0 B0 HB hq_; have O0 := n0_; have B0 := n1_; have HB := n2_; clear n0_ n1_ n2_))))
 obtain ⟨c5, H⟩ | ⟨c5, H⟩ := sqi2 H
 ·have c5b0 : ((t0.length : Int) == 2) = true := sqe1 c5
  have c5b1 : ((t0.length : Int) != 2) = false := sqn0 c5
  (first | rw [c5b0] | rw [c5b1] | simp only [i64_w, i32_w, c5b0, c5b1] | skip)
  clear c5
  obtain ⟨c6, c6b0, H⟩ := sqJ4 H
  have c6b1 : decide (1 < t0.length) = true := decide_eq_true (by omega)
  clear c6
  obtain ⟨⟨t2, t3⟩, A7, H⟩ := sqD H
  try dsimp only at H
  have p1 : 0 ≤ (1 : Int) := (by omega); have q1 : 1 < (t0.length : Int) := of_decide_eq_true Z16; obtain ⟨ad1, e1, hx1⟩ := Kd.at_string (Kd.R_reads' O0.1).2.2 1 p1 q1; obtain rfl : ad0 = ad1 := (by injection e1); (try simp only [show (1 : Int).toNat = 1 from rfl, Nat.reduceMul, Nat.reduceEqDiff, Go.Addr.add, ↓reduceIte] at hx1); have qi1 : (1 < t0.length) = True := eq_true (by omega); (try rw [show ((1 : Int)).toNat = 1 from rfl] at hx1); replace p1 := eq_true p1; replace q1 := eq_true q1
  go_upto_region 6 with (first | ((with_reducible refine sqc 100 rfl ?_); refine sqvd (some 27) func100 (F5.c k (rdOf ByteArray.empty t0 1) t2 t3 _ A7.1) fun nd => ?_; (try (rw [drewN_self w1]; generalize hq_ : World.drewN w1 _ = w1; have n0_ : Aside0 (Kd.R Kd.string 9 w1 w.heap.size (fun _ => True) (.slice (some ad0) t0.length co0) t0) := ⟨Z28 O0⟩; have n1_ : Aside0 (w1.heap[g0]? = some (.cells #[.int .i64 0, .int .i64 0] 31 (0, 0))) := ⟨Z29 B0⟩; have n2_ : Aside0 (Below w.heap.size w w1) := ⟨Z30 E0⟩; clear O0 B0 HB hq_; have O0 := n0_; have B0 := n1_; have HB := n2_; clear n0_ n1_ n2_))))
  obtain rfl | rfl := sqt t1
  ·rw [if_pos rfl] at H
   obtain rfl | rfl := sqt t3
   ·rw [if_pos rfl] at H
    obtain ⟨c10, H⟩ | ⟨c10, H⟩ := sqi2 H
    ·have c0 : decide (2 < (t0.length : Int)) = true := decide_eq_true c10
     have c1 : decide (2 < t0.length) = true := decide_eq_true (by omega)
     clear c10
     obtain ⟨rfl, rfl, rfl⟩ := sqO3 H
     go_wp2_with (first | ((with_reducible refine sqd 10 rfl ?_); (try (refine gate_guard (by rfl) ?_; dsimp only)); refine sqx w (sqB1 HB E0) #[.int .i64 0, .int .i64 0] 31 fun g1 hg w2 B2 E1 HB hb => ?_; replace O0 := sqU O0 hb; obtain ⟨N0, N1⟩ := sqM hg B0; replace B0 := sqT B0 hb; clear hb hg; have := sqn2 N1 N0; have := sqY2 B2; have := sqY2 B0))
     refine sqE g0 31 #[.int .i64 0, .int .i64 0] (Z31 N0 B0) underlying31 ?_
     exact ⟨Z5, sqB2 HB E0 E1⟩
    have c0 : decide (2 < (t0.length : Int)) = false := decide_eq_false c10
    have c1 : decide (2 < t0.length) = false := decide_eq_false (by omega)
    clear c10
    obtain ⟨t4, A0, H⟩ := sqD H
    obtain ⟨c4, c7, H⟩ | ⟨c4, c7, c2, H⟩ := sqi4 H
    ·obtain ⟨rfl, rfl, rfl⟩ := sqO3 H
     go_wp2_with (first | ((with_reducible refine sqd 10 rfl ?_); (try (refine gate_guard (by rfl) ?_; dsimp only)); refine sqx w (sqB1 HB E0) #[.int .i64 0, .int .i64 0] 31 fun g1 hg w3 B2 E1 HB hb => ?_; replace O0 := sqU O0 hb; obtain ⟨N0, N1⟩ := sqM hg B0; replace B0 := sqT B0 hb; clear hb hg; have := sqn2 N1 N0; have := sqY2 B2) | (go_at_call 89; (with_reducible refine (F19.c k t460 t2 t4 _ A0.1).mono ?_); rintro e w4 ⟨rfl, hb⟩; replace O0 := sqa (Kd.R_below (Z32 O0 B2) hb); replace B0 := sqH N0 B0 hb; replace B2 := sqa (blk_below (g := g1) (o := .cells #[.int .i64 t460, .int .i64 t2] 31 (0, 0)) (Z33 B2) hb); replace HB := sqS (sqB2 HB E0 E1) hb; have := sqY2 B2; have := sqY2 B0))
     refine sqE g0 31 #[.int .i64 t460, .int .i64 t2] (Z33 B0) underlying31 ?_
     exact ⟨Z5, sqB2 HB E0 E1⟩
    obtain ⟨rfl, rfl, rfl⟩ := sqO3 H
    go_wp2_with (first | ((with_reducible refine sqd 10 rfl ?_); (try (refine gate_guard (by rfl) ?_; dsimp only)); refine sqx w (sqB1 HB E0) #[.int .i64 0, .int .i64 0] 31 fun g1 hg w5 B2 E1 HB hb => ?_; replace O0 := sqU O0 hb; obtain ⟨N0, N1⟩ := sqM hg B0; replace B0 := sqT B0 hb; clear hb hg; have := sqn2 N1 N0; have := sqY2 B2) | (go_at_call 89; (with_reducible refine (F19.c k t460 t2 t4 _ A0.1).mono ?_); rintro e w6 ⟨rfl, hb⟩; replace O0 := sqa (Kd.R_below (Z32 O0 B2) hb); replace B0 := sqH N0 B0 hb; replace B2 := sqa (blk_below (g := g1) (o := .cells #[.int .i64 t460, .int .i64 t2] 31 (0, 0)) (Z33 B2) hb); replace HB := sqS (sqB2 HB E0 E1) hb; have := sqY2 B0))
    refine sqE g0 31 #[.int .i64 0, .int .i64 0] (Z12 B0) underlying31 ?_
    exact ⟨Z5, sqB2 HB E0 E1⟩
   rw [if_neg sqF] at H
   obtain ⟨rfl, rfl, rfl⟩ := sqO3 H
   go_wp2_with (first | ((with_reducible refine sqd 10 rfl ?_); (try (refine gate_guard (by rfl) ?_; dsimp only)); refine sqx w (sqB1 HB E0) #[.int .i64 0, .int .i64 0] 31 fun g1 hg w7 B2 E1 HB hb => ?_; replace O0 := sqU O0 hb; obtain ⟨N0, N1⟩ := sqM hg B0; replace B0 := sqT B0 hb; clear hb hg; have := sqn2 N1 N0; have := sqY2 B2; have := sqY2 B0))
   refine sqE g0 31 #[.int .i64 0, .int .i64 0] (Z31 N0 B0) underlying31 ?_
   exact ⟨Z5, sqB2 HB E0 E1⟩
  rw [if_neg sqF] at H
  obtain ⟨rfl, rfl, rfl⟩ := sqO3 H
  go_wp2_with (first | ((with_reducible refine sqd 10 rfl ?_); (try (refine gate_guard (by rfl) ?_; dsimp only)); refine sqx w (sqB1 HB E0) #[.int .i64 0, .int .i64 0] 31 fun g2 hg w8 B9 E2 HB hb => ?_; replace O0 := sqU O0 hb; obtain ⟨N2, N3⟩ := sqM hg B0; replace B0 := sqT B0 hb; clear hb hg; have := sqn2 N3 N2; have := sqY2 B9; have := sqY2 B0))
  refine sqE g0 31 #[.int .i64 0, .int .i64 0] (Z31 N2 B0) underlying31 ?_
  exact ⟨Z5, sqB2 HB E0 E2⟩
 have c5b0 : ((t0.length : Int) == 2) = false := sqe0 c5
 have c5b1 : ((t0.length : Int) != 2) = true := sqn1 c5
 (first | rw [c5b0] | rw [c5b1] | simp only [i64_w, i32_w, c5b0, c5b1] | skip)
 go_upto_region 9 with (first | ((with_reducible refine sqd 10 rfl ?_); (try (refine gate_guard (by rfl) ?_; dsimp only)); refine sqx w (sqB1 HB E0) #[.int .i64 0, .int .i64 0] 31 fun g3 hg w9 B10 E3 HB hb => ?_; replace O0 := sqU O0 hb; obtain ⟨N4, N5⟩ := sqM hg B0; replace B0 := sqT B0 hb; clear hb hg; have := sqn2 N5 N4; have := sqY2 B10; have := sqY2 B0))
 obtain rfl | rfl := sqt t1
 ·rw [if_pos rfl] at H
  obtain ⟨c52, H⟩ | ⟨c52, H⟩ := sqi2 H
  ·have c12 : decide (2 < (t0.length : Int)) = true := decide_eq_true c52
   have c13 : decide (2 < t0.length) = true := decide_eq_true (by omega)
   clear c52
   obtain ⟨rfl, rfl, rfl⟩ := sqO3 H
   go_wp2_with fail
   refine sqE g0 31 #[.int .i64 0, .int .i64 0] (Z31 N4 B0) underlying31 ?_
   exact ⟨Z5, sqB2 HB E0 E3⟩
  have c12 : decide (2 < (t0.length : Int)) = false := decide_eq_false c52
  have c13 : decide (2 < t0.length) = false := decide_eq_false (by omega)
  clear c52
  obtain ⟨t5, A1, H⟩ := sqD H
  obtain ⟨c15, c16, H⟩ | ⟨c15, c16, c61, H⟩ := sqi4 H
  ·obtain ⟨rfl, rfl, rfl⟩ := sqO3 H
   go_wp2_with (first | (go_at_call 89; (with_reducible refine (F19.c k t460 1 t5 _ A1.1).mono ?_); rintro e w68 ⟨rfl, hb⟩; replace O0 := sqa (Kd.R_below (Z34 O0 B10) hb); replace B0 := sqH N4 B0 hb; replace B10 := sqa (blk_below (g := g3) (o := .cells #[.int .i64 t460, .int .i64 1] 31 (0, 0)) (Z33 B10) hb); replace HB := sqS (sqB2 HB E0 E3) hb; have := sqY2 B10; have := sqY2 B0))
   refine sqE g0 31 #[.int .i64 t460, .int .i64 1] (Z33 B0) underlying31 ?_
   exact ⟨Z5, sqB2 HB E0 E3⟩
  obtain ⟨rfl, rfl, rfl⟩ := sqO3 H
  go_wp2_with (first | (go_at_call 89; (with_reducible refine (F19.c k t460 1 t5 _ A1.1).mono ?_); rintro e w77 ⟨rfl, hb⟩; replace O0 := sqa (Kd.R_below (Z34 O0 B10) hb); replace B0 := sqH N4 B0 hb; replace B10 := sqa (blk_below (g := g3) (o := .cells #[.int .i64 t460, .int .i64 1] 31 (0, 0)) (Z33 B10) hb); replace HB := sqS (sqB2 HB E0 E3) hb; have := sqY2 B0))
  refine sqE g0 31 #[.int .i64 0, .int .i64 0] (Z12 B0) underlying31 ?_
  exact ⟨Z5, sqB2 HB E0 E3⟩
 rw [if_neg sqF] at H
 obtain ⟨rfl, rfl, rfl⟩ := sqO3 H
 go_wp2_with fail
 refine sqE g0 31 #[.int .i64 0, .int .i64 0] (Z31 N4 B0) underlying31 ?_
 exact ⟨Z5, sqB2 HB E0 E3⟩

def F72.f (k : Nat) (a0_0 : Int) (a0_1 : Int) : Option (Int × Int) := (F0.f k a0_0 a0_1).bind fun t0 => (if t0 = true then ((F6.f k (wrap64 (-a0_0)) a0_1).bind fun bt0 => (some (bt0.1, bt0.2.1))) else (some (0, 0)))
theorem F72.c (k : Nat) (a0_0 : Int) (a0_1 : Int) (r1 : Int) (r2 : Int) (w : World) (H : F72.f k a0_0 a0_1 = some (r1, r2)) :
  Calls prog 108 #[.agg #[.int .i64 a0_0, .int .i64 a0_1]] w fun e w' => e = .returned (.agg #[.int .i64 r1, .int .i64 r2]) ∧ Below w.heap.size w w' := by
 have hu31 := underlying31
 have HB := sqh w
 unfold F72.f at H
 obtain ⟨t0, A2, H⟩ := sqD H
 obtain rfl | rfl := sqt t0
 ·rw [if_pos rfl] at H
  obtain ⟨⟨t1, t2, t3⟩, A4, H⟩ := sqD H
  try dsimp only at H
  obtain ⟨rfl, rfl⟩ := sqO2 H
  go_enter func108, ntmps108
  go_wp2_with (first | ((with_reducible refine sqd 1 rfl ?_); refine sqx0 w (sqB HB) #[.int .i64 a0_0, .int .i64 a0_1] 31 fun g0 w5 B0 E0 HB => ?_) | ((with_reducible refine sqd 2 rfl ?_); refine sqx1 w (sqB1 HB E0) #[.int .i64 0, .int .i64 0] 31 B0 fun g1 w6 B2 E1 HB N0 N1 B0 => ?_; have := sqn2 N0 N1; have := sqY2 B0) | ((with_reducible refine sqc 77 rfl ?_); refine sqv (some 6) func77 (F0.c k a0_0 a0_1 true _ A2.1) fun w9 hb => ?_; obtain ⟨B0, B2⟩ := sqT2 hb B0 B2; replace HB := sqS (sqB2 HB E0 E1) hb; have := sqY2 B0) | ((with_reducible refine sqc 136 rfl ?_); refine sqv (some 15) func136 (F6.c k (wrap64 (-a0_0)) a0_1 t1 t2 t3 _ A4.1) fun w0 hb => ?_; obtain ⟨B0, B2⟩ := sqT2 hb B0 B2; replace HB := sqS (sqB2 HB E0 E1) hb) | ((with_reducible refine sqd 3 rfl ?_); refine sqx w (sqB2 HB E0 E1) #[.int .i64 0, .int .i64 0] 31 fun g2 hg w1 B9 E2 HB hb => ?_; obtain ⟨N2, N3⟩ := sqM hg B0; replace B0 := sqT B0 hb; obtain ⟨N4, N5⟩ := sqM hg B2; replace B2 := sqT B2 hb; clear hb hg; have := sqn4 N3 N2 N5 N4; have := sqY2 B9; have := sqY2 B2))
  refine sqEr g1 31 #[.int .i64 t1, .int .i64 t2] (by refine sqPut (cs := #[.int .i64 t1, .int .i64 0]) ?_ 1; refine sqPut (cs := #[.int .i64 0, .int .i64 0]) ?_ 0; refine sqFar ?_ N4; refine sqFar ?_ N4; exact sqK B2) underlying31 ?_
  exact ⟨Z5, sqB3 HB E0 E1 E2⟩
 rw [if_neg sqF] at H
 obtain ⟨rfl, rfl⟩ := sqO2 H
 go_enter func108, ntmps108
 go_wp2_with (first | ((with_reducible refine sqd 1 rfl ?_); refine sqx0 w (sqB HB) #[.int .i64 a0_0, .int .i64 a0_1] 31 fun g0 w2 B0 E0 HB => ?_) | ((with_reducible refine sqd 2 rfl ?_); refine sqx1 w (sqB1 HB E0) #[.int .i64 0, .int .i64 0] 31 B0 fun g1 w3 B2 E1 HB N0 N1 B0 => ?_; have := sqn2 N0 N1; have := sqY2 B0) | ((with_reducible refine sqc 77 rfl ?_); refine sqv (some 6) func77 (F0.c k a0_0 a0_1 false _ A2.1) fun w4 hb => ?_; obtain ⟨B0, B2⟩ := sqT2 hb B0 B2; replace HB := sqS (sqB2 HB E0 E1) hb; have := sqY2 B2))
 refine sqEr g1 31 #[.int .i64 0, .int .i64 0] (Z12 B2) underlying31 ?_
 exact ⟨Z5, sqB2 HB E0 E1⟩

def F69.f (k : Nat) (a0_0 : Int) (a0_1 : Int) (a1_0 : Int) (a1_1 : ByteArray) : Option (Int × Int × Bool) := if a1_0 = 0 then ((F11.f k a0_0 a0_1 a1_1).bind fun bt0 => (some (bt0.1, bt0.2.1, bt0.2.2))) else (if a1_0 = 1 then ((F66.f k a1_1).bind fun bt1 => (some (bt1.1, bt1.2.1, bt1.2.2))) else (if (a1_0 == 2 && (a1_1.toList == ([] : List UInt8))) = true then ((F72.f k a0_0 a0_1).bind fun bt2 => (some (bt2.1, bt2.2, true))) else (if (a1_0 == 3 && (a1_1.toList == ([] : List UInt8))) = true then ((F18.f k a0_0 a0_1).bind fun bt3 => (some (0, 1, bt3.2))) else (some (a0_0, a0_1, false)))))
theorem F69.c (k : Nat) (a0_0 : Int) (a0_1 : Int) (a1_0 : Int) (a1_1 : ByteArray) (r1 : Int) (r2 : Int) (r3 : Bool) (w : World) (H : F69.f k a0_0 a0_1 a1_0 a1_1 = some (r1, r2, r3)) :
  Calls prog 57 #[.agg #[.int .i64 a0_0, .int .i64 a0_1], .agg #[.int .i64 a1_0, .string a1_1]] w fun e w' => e = .returned (.tuple #[.agg #[.int .i64 r1, .int .i64 r2], .bool r3]) ∧ Below w.heap.size w w' := by
 have hu31 := underlying31
 have hu38 := underlying38
 have HB := sqh w
 unfold F69.f at H
 go_enter func57, ntmps57
 go_upto_if 8 with (first | ((with_reducible refine sqd 2 rfl ?_); refine sqx0 w (sqB HB) #[.int .i64 a0_0, .int .i64 a0_1] 31 fun g0 w5 B0 E0 HB => ?_) | ((with_reducible refine sqd 3 rfl ?_); refine sqx1 w (sqB1 HB E0) #[.int .i64 a1_0, .string a1_1] 38 B0 fun g1 w6 B2 E1 HB N0 N1 B0 => ?_) | ((with_reducible refine sqd 4 rfl ?_); refine sqx w (sqB2 HB E0 E1) #[.int .i64 0, .int .i64 0] 31 fun g2 hg w7 B9 E2 HB hb => ?_; obtain ⟨N2, N3⟩ := sqM hg B0; replace B0 := sqT B0 hb; obtain ⟨N4, N5⟩ := sqM hg B2; replace B2 := sqT B2 hb; clear hb hg; have := sqn4 N1 N0 N4 N5; have := sqY2 B2; have := sqn2 N2 N3; have := sqY2 B0; have := sqY2 B9))
 obtain ⟨c3, H⟩ | ⟨c3, H⟩ := sqi2 H
 ·have c3b0 : (a1_0 == 0) = true := sqe1 c3
  have c3b1 : (a1_0 != 0) = false := sqn0 c3
  (first | rw [c3b0] | rw [c3b1] | simp only [i64_w, i32_w, c3b0, c3b1] | skip)
  clear c3
  obtain ⟨⟨t0, t1, t2⟩, A4, H⟩ := sqD H
  try dsimp only at H
  obtain ⟨rfl, rfl, rfl⟩ := sqO3 H
  go_wp2_with (first | ((with_reducible refine sqc 106 rfl ?_); refine sqv (some 15) func106 (F11.c k a0_0 a0_1 a1_1 t0 t1 t2 _ A4.1) fun w0 hb => ?_; obtain ⟨B0, B2, B9⟩ := sqT3 hb B0 B2 B9; replace HB := sqS (sqB3 HB E0 E1 E2) hb; have := sqY2 B9))
  refine sqE g2 31 #[.int .i64 t0, .int .i64 t1] (by refine sqPut (cs := #[.int .i64 t0, .int .i64 0]) ?_ 1; refine sqPut (cs := #[.int .i64 0, .int .i64 0]) ?_ 0; exact sqK B9) underlying31 ?_
  exact ⟨Z5, sqB3 HB E0 E1 E2⟩
 have c3b0 : (a1_0 == 0) = false := sqe0 c3
 have c3b1 : (a1_0 != 0) = true := sqn1 c3
 (first | rw [c3b0] | rw [c3b1] | simp only [i64_w, i32_w, c3b0, c3b1] | skip)
 go_upto_if 18 with fail
 obtain ⟨c0, H⟩ | ⟨c0, H⟩ := sqi2 H
 ·have c1 := sqe1 c0
  have c2 := sqn0 c0
  (first | rw [c1] | rw [c2] | simp only [i64_w, i32_w, c1, c2] | skip)
  clear c0
  obtain ⟨⟨t3, t4, t5⟩, A0, H⟩ := sqD H
  try dsimp only at H
  obtain ⟨rfl, rfl, rfl⟩ := sqO3 H
  go_wp2_with (first | ((with_reducible refine sqc 107 rfl ?_); refine sqv (some 24) func107 (F66.c k a1_1 t3 t4 t5 _ A0.1) fun w1 hb => ?_; obtain ⟨B0, B2, B9⟩ := sqT3 hb B0 B2 B9; replace HB := sqS (sqB3 HB E0 E1 E2) hb; have := sqn2 N3 N2; have := sqY2 B9))
  refine sqE g2 31 #[.int .i64 t3, .int .i64 t4] (by refine sqPut (cs := #[.int .i64 t3, .int .i64 0]) ?_ 1; refine sqPut (cs := #[.int .i64 0, .int .i64 0]) ?_ 0; exact sqK B9) underlying31 ?_
  exact ⟨Z5, sqB3 HB E0 E1 E2⟩
 have c1 := sqe0 c0
 have c2 := sqn1 c0
 (first | rw [c1] | rw [c2] | simp only [i64_w, i32_w, c1, c2] | skip)
 go_upto_if 27 with fail
 obtain ⟨c4, H⟩ | ⟨c4, H⟩ := sqi2 H
 ·have c5 : (a1_0 == 2 && (a1_1.toList == ([] : List UInt8))) = true := c4
  try have c6 : (a1_0 == 2 && a1_1.toList.isEmpty) = true := by (have h_ := c5; (repeat rw [sqy] at h_); exact h_)
  (try (have c7 : decide (a1_0 = 2 && (a1_1.toList == ([] : List UInt8))) = true := by simpa using c4))
  (try (have c8 : (a1_0 == 2 && (a1_1.toList == ([] : List UInt8))) = true := by simpa using c4))
  (first | rw [c5] | rw [c7] | rw [c8] | rw [c6] | simp only [i64_w, i32_w, c5, c7] | skip)
  clear c4
  obtain ⟨⟨t6, t7⟩, A1, H⟩ := sqD H
  try dsimp only at H
  obtain ⟨rfl, rfl, rfl⟩ := sqO3 H
  go_wp2_with (first | ((with_reducible refine sqc 108 rfl ?_); refine sqv (some 32) func108 (F72.c k a0_0 a0_1 t6 t7 _ A1.1) fun w2 hb => ?_; obtain ⟨B0, B2, B9⟩ := sqT3 hb B0 B2 B9; replace HB := sqS (sqB3 HB E0 E1 E2) hb; have := sqY2 B9))
  refine sqE g2 31 #[.int .i64 t6, .int .i64 t7] (by refine sqPut (cs := #[.int .i64 t6, .int .i64 0]) ?_ 1; refine sqPut (cs := #[.int .i64 0, .int .i64 0]) ?_ 0; exact sqK B9) underlying31 ?_
  exact ⟨Z5, sqB3 HB E0 E1 E2⟩
 have c5 : (a1_0 == 2 && (a1_1.toList == ([] : List UInt8))) = false := by simpa using c4
 try have c6 : (a1_0 == 2 && a1_1.toList.isEmpty) = false := by (have h_ := c5; (repeat rw [sqy] at h_); exact h_)
 (try (have c7 : decide (a1_0 = 2 && (a1_1.toList == ([] : List UInt8))) = false := by simpa using c4))
 (try (have c8 : (a1_0 == 2 && (a1_1.toList == ([] : List UInt8))) = false := by simpa using c4))
 (try (have c9 : ¬ (a1_0 = 2 && (a1_1.toList == ([] : List UInt8))) := by simpa using c4))
 (first | rw [c5] | rw [c7] | rw [c8] | rw [c9] | rw [c6] | simp only [i64_w, i32_w, c5, c7] | skip)
 clear c4
 go_upto_if 33 with fail
 obtain ⟨c38, H⟩ | ⟨c38, H⟩ := sqi2 H
 ·have c11 : (a1_0 == 3 && (a1_1.toList == ([] : List UInt8))) = true := c38
  try have c12 : (a1_0 == 3 && a1_1.toList.isEmpty) = true := by (have h_ := c11; (repeat rw [sqy] at h_); exact h_)
  (try (have c13 : decide (a1_0 = 3 && (a1_1.toList == ([] : List UInt8))) = true := by simpa using c38))
  (try (have c14 : (a1_0 == 3 && (a1_1.toList == ([] : List UInt8))) = true := by simpa using c38))
  (first | rw [c11] | rw [c13] | rw [c14] | rw [c12] | simp only [i64_w, i32_w, c11, c13] | skip)
  clear c38
  obtain ⟨⟨t8, t9⟩, A2, H⟩ := sqD H
  try dsimp only at H
  obtain ⟨rfl, rfl, rfl⟩ := sqO3 H
  go_wp2_with (first | ((with_reducible refine sqc 90 rfl ?_); refine sqv (some 39) func90 (F18.c k a0_0 a0_1 t8 t9 _ A2.1) fun w3 hb => ?_; obtain ⟨B0, B2, B9⟩ := sqT3 hb B0 B2 B9; replace HB := sqS (sqB3 HB E0 E1 E2) hb; have := sqY2 B9))
  refine sqE g2 31 #[.int .i64 0, .int .i64 1] (Z12 B9) underlying31 ?_
  exact ⟨Z5, sqB3 HB E0 E1 E2⟩
 have c11 : (a1_0 == 3 && (a1_1.toList == ([] : List UInt8))) = false := by simpa using c38
 try have c12 : (a1_0 == 3 && a1_1.toList.isEmpty) = false := by (have h_ := c11; (repeat rw [sqy] at h_); exact h_)
 (try (have c13 : decide (a1_0 = 3 && (a1_1.toList == ([] : List UInt8))) = false := by simpa using c38))
 (try (have c14 : (a1_0 == 3 && (a1_1.toList == ([] : List UInt8))) = false := by simpa using c38))
 (try (have c16 : ¬ (a1_0 = 3 && (a1_1.toList == ([] : List UInt8))) := by simpa using c38))
 (first | rw [c11] | rw [c13] | rw [c14] | rw [c16] | rw [c12] | simp only [i64_w, i32_w, c11, c13] | skip)
 clear c38
 obtain ⟨rfl, rfl, rfl⟩ := sqO3 H
 go_wp2_with fail
 refine sqE g2 31 #[.int .i64 a0_0, .int .i64 a0_1] (Z4 B9) underlying31 ?_
 exact ⟨Z5, sqB3 HB E0 E1 E2⟩

end Go.Proofs.YtofmlbgfcohhoaaGreatDoor.PFnDeskSay
