import Derived.Test.YtofmlbgfcohhoaaGreatDoorPFnDeskSayx12
import Derived.Test.YtofmlbgfcohhoaaGreatDoorPFnDeskSayx13
set_option maxHeartbeats 8000000
set_option maxRecDepth 100000
namespace Go.Proofs.YtofmlbgfcohhoaaGreatDoor.PFnDeskSay
open Go.RowKit Go.Proofs.YtofmlbgfcohhoaaGreatDoorW.PrintWords Go.Proofs.YtofmlbgfcohhoaaGreatDoorW.PrintLast Go.Proofs.YtofmlbgfcohhoaaGreatDoorW.PrintMore Go.Proofs.YtofmlbgfcohhoaaGreatDoor.Lib Go.Proofs.Tryz
attribute [local go_sem] max2_int min2_int max_two min_two max_three min_three max_four min_four   -- for this text's walks alone
set_option linter.unusedVariables false
set_option linter.unusedSimpArgs false

mutual
def F18.j0 : Nat → Bool → Int → Int → Option (ByteArray × Bool)
 | 0, _, _, _ => none
 | k + 1, x0, x1, x2 => if x0 = true then (some ((⟨#[]⟩ : ByteArray), false)) else (F18.l0 k (⟨#[]⟩ : ByteArray) x1 x2)
def F18.l0 : Nat → ByteArray → Int → Int → Option (ByteArray × Bool)
 | 0, _, _, _ => none
 | k + 1, x4, x0, x1 => if x0 = 0 then (some (x4, true)) else (if x0 < 0 then ((F57.f k x0 x1 1).bind fun bt0 => (if x4.size + 1 ≤ 9223372036854775807 then (F18.l0 k (x4 ++ (⟨#[84]⟩ : ByteArray)) bt0.1 bt0.2.1) else (none))) else ((F64.f k x0 x1).bind fun bt1 => (if x4.size + 1 ≤ 9223372036854775807 then (F18.l0 k (x4 ++ (⟨#[82]⟩ : ByteArray)) bt1.1 bt1.2) else (none))))
end
def F18.f (k : Nat) (a0_0 : Int) (a0_1 : Int) : Option (ByteArray × Bool) := (F0.f k a0_0 a0_1).bind fun t0 => (if t0 = true then ((F2.f a0_0 (-12) 12).bind fun t1 => (if t1 = true then (F18.j0 k (decide (a0_1 > 12)) a0_0 a0_1) else (F18.j0 k true a0_0 a0_1))) else (F18.j0 k true a0_0 a0_1))
theorem F18.c (k : Nat) (a0_0 : Int) (a0_1 : Int) (r1 : ByteArray) (r2 : Bool) (w : World) (H : F18.f k a0_0 a0_1 = some (r1, r2)) :
  Calls prog 90 #[.agg #[.int .i64 a0_0, .int .i64 a0_1]] w fun e w' => e = .returned (.tuple #[.string r1, .bool r2]) ∧ Below w.heap.size w w' := by
 have hu31 := underlying31
 have HB := sqh w
 unfold F18.f at H
 have HC2 := sqa H
 clear H
 go_enter func90, ntmps90
 go_upto_region 1 with (first | ((with_reducible refine sqd 1 rfl ?_); refine sqx0 w (sqB HB) #[.int .i64 a0_0, .int .i64 a0_1] 31 fun g0 w3 B0 E0 HB => ?_))
 (try simp only [Act.put, List.setIfInBounds_toArray, List.set_cons_zero, List.set_cons_succ])
 go_cut [19] (fun v0 wc => ∃ (kq : Nat) (x0 : Bool), v0 = .bool x0 ∧ Aside0 (F18.j0 kq x0 a0_0 a0_1 = some (r1, r2)) ∧ Aside0 (kq ≤ k) ∧ Aside0 (wc.heap[g0]? = some (.cells #[.int .i64 a0_0, .int .i64 a0_1] 31 (0, 0))) ∧ Aside0 (Below w.heap.size w wc))
 case first =>
  have H := HC2.1
  clear HC2
  obtain ⟨t0, A4, H⟩ := sqD H
  obtain rfl | rfl := sqt t0
  ·rw [if_pos rfl] at H
   obtain ⟨t1, A6, H⟩ := sqD H
   obtain rfl | rfl := sqt t1
   ·rw [if_pos rfl] at H
    have H' := sqa H
    clear H
    have := sqY2 B0
    go_wp2_with (first | ((with_reducible refine sqc 77 rfl ?_); refine sqv (some 7) func77 (F0.c k a0_0 a0_1 true _ A4.1) fun w9 hb => ?_; replace B0 := sqT B0 hb; replace HB := sqS (sqB1 HB E0) hb; have := sqY2 B0) | (go_at_call 101; (with_reducible refine (F2.c a0_0 (-12) 12 true _ A6.1).mono ?_); rintro e w' ⟨rfl, ⟨nd, rfl⟩⟩))
    go_meet
    case rel => exact ⟨_, (decide (a0_1 > 12)), Z1, H', ⟨Z11⟩, ⟨sqK B0⟩, ⟨sqB1 HB E0⟩⟩
   rw [if_neg sqF] at H
   have H' := sqa H
   clear H
   have := sqY2 B0
   go_wp2_with (first | ((with_reducible refine sqc 77 rfl ?_); refine sqv (some 7) func77 (F0.c k a0_0 a0_1 true _ A4.1) fun w0 hb => ?_; replace B0 := sqT B0 hb; replace HB := sqS (sqB1 HB E0) hb; have := sqY2 B0) | (go_at_call 101; (with_reducible refine (F2.c a0_0 (-12) 12 false _ A6.1).mono ?_); rintro e w' ⟨rfl, ⟨nd, rfl⟩⟩))
   go_meet
   case rel => exact ⟨_, (true), Z1, H', ⟨Z11⟩, ⟨sqK B0⟩, ⟨sqB1 HB E0⟩⟩
  rw [if_neg sqF] at H
  have H' := sqa H
  clear H
  have := sqY2 B0
  go_wp2_with (first | ((with_reducible refine sqc 77 rfl ?_); refine sqv (some 7) func77 (F0.c k a0_0 a0_1 false _ A4.1) fun w1 hb => ?_; replace B0 := sqT B0 hb; replace HB := sqS (sqB1 HB E0) hb))
  go_meet
  case rel => exact ⟨_, (true), Z1, H', ⟨Z11⟩, ⟨sqK B0⟩, ⟨sqB1 HB E0⟩⟩
 case rest =>
  clear HC2
  obtain ⟨kq, x0, rfl, HA, HJ1, B0, HB⟩ := hcut
  cases kq with
  | zero => exact absurd HA.out (by simp [F18.j0])
  | succ kj1 =>
   have H := HA.out
   clear HA
   simp only [F18.j0] at H
   obtain rfl | rfl := sqt x0
   ·rw [if_pos rfl] at H
    obtain ⟨rfl, rfl⟩ := sqO2 H
    go_wp2
    go_ret2
    exact ⟨Z5, sqB1 HB E0⟩
   rw [if_neg sqF] at H
   have H' := sqa H
   clear H
   have := sqY2 B0
   go_wp2_with (first | ((with_reducible refine sqd 5 rfl ?_); refine sqx1 w (sqB1 HB E0) #[.int .i64 0, .int .i64 0] 31 B0 fun g1 w2 B2 E1 HB N0 N1 B0 => ?_; have := sqn2 N1 N0; have := sqY2 B2))
   go_loopg [4] kj1 (fun kq v4 w' => ∃ (x4_2 : ByteArray) (x1 : Int) (x2 : Int), v4 = .string x4_2 ∧ Aside0 (F18.l0 kq x4_2 x1 x2 = some (r1, r2)) ∧ Aside0 (kq ≤ kj1) ∧ Aside0 (w'.heap[g0]? = some (.cells #[.int .i64 a0_0, .int .i64 a0_1] 31 (0, 0))) ∧ Aside0 (w'.heap[g1]? = some (.cells #[.int .i64 x1, .int .i64 x2] 31 (0, 0))) ∧ Aside0 (Below w.heap.size w w'))
   case atStart => exact ⟨((⟨#[]⟩ : ByteArray)), (a0_0), (a0_1), Z1, H', ⟨Nat.le_refl _⟩, ⟨Z9 N0 B0⟩, ⟨Z4 B2⟩, ⟨sqB2 HB E0 E1⟩⟩
   case round =>
    clear H'
    obtain ⟨x4_2, x1, x2, rfl, HA, HK2, B0, B2, HB⟩ := hrel
    cases gk with
    | zero => exact absurd HA.out (by simp [F18.l0])
    | succ k2 =>
     have H := HA.out
     clear HA
     simp only [F18.l0] at H
     obtain ⟨c1, c2, H⟩ | ⟨c1, c2, c21, H⟩ := sqi4 H
     ·obtain ⟨rfl, rfl⟩ := sqO2 H
      have := sqn2 N1 N0
      have := sqY2 B2
      go_wp2
      go_ret2
      exact ⟨Z5, sqB2 HB E0 E1⟩
     obtain ⟨c4, H⟩ | ⟨c4, H⟩ := sqi3 H
     ·obtain ⟨⟨t2, t3, t4⟩, A0, H⟩ := sqD H
      try dsimp only at H
      obtain ⟨c6, c8, c9, H⟩ := sqJ5 H
      try have c10 : (9223372036854775807 < x4_2.size + 1) = False := eq_false (Nat.not_lt.2 c6)
      have H' := sqa H
      clear H
      have := sqn2 N1 N0
      have := sqY2 B2
      go_wp2_with (first | ((with_reducible refine sqc 127 rfl ?_); refine sqv (some 29) func127 (F57.c k2 x1 x2 1 t2 t3 t4 _ A0.1) fun w4 hb => ?_; obtain ⟨B0, B2⟩ := sqT2 hb B0 B2; replace HB := sqS (sqB2 HB E0 E1) hb; have := sqY2 B2))
      go_roundg k2
      case measure => have := HJ1.out; have := HK2.out; omega
      case rel => exact ⟨(x4_2 ++ (⟨#[84]⟩ : ByteArray)), (t2), (t3), Z1, H', ⟨by have := HJ1.out; have := HK2.out; omega⟩, ⟨Z9 N0 B0⟩, ⟨by refine sqPut (cs := #[.int .i64 t2, .int .i64 x2]) ?_ 1; refine sqPut (cs := #[.int .i64 x1, .int .i64 x2]) ?_ 0; exact sqK B2⟩, ⟨sqB2 HB E0 E1⟩⟩
     obtain ⟨⟨t5, t6⟩, A1, H⟩ := sqD H
     try dsimp only at H
     obtain ⟨c32, c12, c13, H⟩ := sqJ5 H
     try have c14 : (9223372036854775807 < x4_2.size + 1) = False := eq_false (Nat.not_lt.2 c32)
     have H' := sqa H
     clear H
     have := sqn2 N1 N0
     have := sqY2 B2
     go_wp2_with (first | ((with_reducible refine sqc 128 rfl ?_); refine sqv (some 35) func128 (F64.c k2 x1 x2 t5 t6 _ A1.1) fun w5 hb => ?_; obtain ⟨B0, B2⟩ := sqT2 hb B0 B2; replace HB := sqS (sqB2 HB E0 E1) hb; have := sqY2 B2))
     go_roundg k2
     case measure => have := HJ1.out; have := HK2.out; omega
     case rel => exact ⟨(x4_2 ++ (⟨#[82]⟩ : ByteArray)), (t5), (t6), Z1, H', ⟨by have := HJ1.out; have := HK2.out; omega⟩, ⟨Z9 N0 B0⟩, ⟨by refine sqPut (cs := #[.int .i64 t5, .int .i64 x2]) ?_ 1; refine sqPut (cs := #[.int .i64 x1, .int .i64 x2]) ?_ 0; exact sqK B2⟩, ⟨sqB2 HB E0 E1⟩⟩

def F26.l0 : Nat → ByteArray → Int → Option (Bool)
 | 0, _, _ => none
 | k + 1, x0, x3 => if x3 < (x0.size : Int) then (if 0 ≤ x3 then (if (bt x0 x3) = 84 then (F26.l0 k x0 (wrap64 (x3 + 1))) else (if (bt x0 x3) = 116 then (F26.l0 k x0 (wrap64 (x3 + 1))) else (if (bt x0 x3) = 82 then (F26.l0 k x0 (wrap64 (x3 + 1))) else (some false)))) else (none)) else (some (decide ((x0.size : Int) ≤ 40)))
def F26.f (k : Nat) (a0 : ByteArray) : Option (Bool) := F26.l0 k a0 0
theorem F26.c (k : Nat) (a0 : ByteArray) (r : Bool) (w : World) (H : F26.f k a0 = some r) :
  Calls prog 134 #[.string a0] w fun e w' => e = .returned (.bool r) ∧ Drawn0 w w' := by
 unfold F26.f at H
 have H' := sqa H
 clear H
 go_enter func134, ntmps134
 go_wp2
 go_loopg [3] k (fun kq v3 w' => ∃ (x3_1 : Int), v3 = .int .i64 x3_1 ∧ Aside0 (F26.l0 kq a0 x3_1 = some r) ∧ Aside0 (kq ≤ k) ∧ Drawn0 w w')
 case atStart => exact ⟨(0), Z1, H', ⟨Nat.le_refl _⟩, Z15⟩
 case round =>
  clear H'
  obtain ⟨x3_1, rfl, HA, HK1, ⟨m1, rfl⟩⟩ := hrel
  cases gk with
  | zero => exact absurd HA.out (by simp [F26.l0])
  | succ k1 =>
   have H := HA.out
   clear HA
   simp only [F26.l0] at H
   obtain ⟨c2b0, H⟩ | ⟨c2b0, H⟩ := sqi3 H
   ·obtain ⟨c3b0, H⟩ := sqJ2 H
    obtain ⟨c5b0, c5b1, H⟩ | ⟨c5b0, c5b1, c5, H⟩ := sqi4 H
    ·have H' := sqa H
     clear H
     have p4 : 0 ≤ (x3_1 : Int) := of_decide_eq_true Z16
     have q4 : x3_1 < (a0.size : Int) := of_decide_eq_true Z16
     have hx4 := bt_at a0 x3_1
     replace p4 := eq_true p4
     replace q4 := eq_true q4
     go_wp2
     go_roundg k1
     case measure => have := HK1.out; omega
     case rel => exact ⟨(wrap64 (x3_1 + 1)), Z1, H', ⟨Z2 HK1⟩, Z15⟩
    obtain ⟨c7b0, c7b1, H⟩ | ⟨c7b0, c7b1, c7, H⟩ := sqi4 H
    ·have H' := sqa H
     clear H
     have p4 : 0 ≤ (x3_1 : Int) := of_decide_eq_true Z16
     have q4 : x3_1 < (a0.size : Int) := of_decide_eq_true Z16
     have hx4 := bt_at a0 x3_1
     replace p4 := eq_true p4
     replace q4 := eq_true q4
     have p6 : 0 ≤ (x3_1 : Int) := of_decide_eq_true Z16
     have q6 : x3_1 < (a0.size : Int) := of_decide_eq_true Z16
     have hx6 := bt_at a0 x3_1
     replace p6 := eq_true p6
     replace q6 := eq_true q6
     go_wp2
     go_roundg k1
     case measure => have := HK1.out; omega
     case rel => exact ⟨(wrap64 (x3_1 + 1)), Z1, H', ⟨Z2 HK1⟩, Z15⟩
    obtain ⟨c9b0, c9b1, H⟩ | ⟨c9b0, c9b1, c9, H⟩ := sqi4 H
    ·have H' := sqa H
     clear H
     have p4 : 0 ≤ (x3_1 : Int) := of_decide_eq_true Z16
     have q4 : x3_1 < (a0.size : Int) := of_decide_eq_true Z16
     have hx4 := bt_at a0 x3_1
     replace p4 := eq_true p4
     replace q4 := eq_true q4
     have p6 : 0 ≤ (x3_1 : Int) := of_decide_eq_true Z16
     have q6 : x3_1 < (a0.size : Int) := of_decide_eq_true Z16
     have hx6 := bt_at a0 x3_1
     replace p6 := eq_true p6
     replace q6 := eq_true q6
     have p8 : 0 ≤ (x3_1 : Int) := of_decide_eq_true Z16
     have q8 : x3_1 < (a0.size : Int) := of_decide_eq_true Z16
     have hx8 := bt_at a0 x3_1
     replace p8 := eq_true p8
     replace q8 := eq_true q8
     go_wp2
     go_roundg k1
     case measure => have := HK1.out; omega
     case rel => exact ⟨(wrap64 (x3_1 + 1)), Z1, H', ⟨Z2 HK1⟩, Z15⟩
    obtain rfl := sqo H
    have p4 : 0 ≤ (x3_1 : Int) := of_decide_eq_true Z16
    have q4 : x3_1 < (a0.size : Int) := of_decide_eq_true Z16
    have hx4 := bt_at a0 x3_1
    replace p4 := eq_true p4
    replace q4 := eq_true q4
    have p6 : 0 ≤ (x3_1 : Int) := of_decide_eq_true Z16
    have q6 : x3_1 < (a0.size : Int) := of_decide_eq_true Z16
    have hx6 := bt_at a0 x3_1
    replace p6 := eq_true p6
    replace q6 := eq_true q6
    have p8 : 0 ≤ (x3_1 : Int) := of_decide_eq_true Z16
    have q8 : x3_1 < (a0.size : Int) := of_decide_eq_true Z16
    have hx8 := bt_at a0 x3_1
    replace p8 := eq_true p8
    replace q8 := eq_true q8
    go_wp2
    go_ret
    exact ⟨Z1, Z15⟩
   obtain rfl := sqo H
   go_wp2
   go_ret
   exact ⟨Z1, Z15⟩

def F67.f (k : Nat) (a0_0 : Int) (a0_1 : Int) (a1 : Int) : Option (Int × Int × Bool) := if a1 = 84 then ((F57.f k a0_0 a0_1 1).bind fun bt0 => (some (bt0.1, bt0.2.1, bt0.2.2))) else (if a1 = 116 then ((F57.f k a0_0 a0_1 (-1)).bind fun bt1 => (some (bt1.1, bt1.2.1, bt1.2.2))) else ((F64.f k a0_0 a0_1).bind fun bt2 => ((F0.f k a0_0 a0_1).bind fun t0 => (some (bt2.1, bt2.2, t0)))))
theorem F67.c (k : Nat) (a0_0 : Int) (a0_1 : Int) (a1 : Int) (r1 : Int) (r2 : Int) (r3 : Bool) (w : World) (H : F67.f k a0_0 a0_1 a1 = some (r1, r2, r3)) :
  Calls prog 135 #[.agg #[.int .i64 a0_0, .int .i64 a0_1], .int .u8 a1] w fun e w' => e = .returned (.tuple #[.agg #[.int .i64 r1, .int .i64 r2], .bool r3]) ∧ Below w.heap.size w w' := by
 have hu31 := underlying31
 have HB := sqh w
 unfold F67.f at H
 obtain ⟨c3b0, c3b1, H⟩ | ⟨c3b0, c3b1, c3, H⟩ := sqi4 H
 ·obtain ⟨⟨t0, t1, t2⟩, A4, H⟩ := sqD H
  try dsimp only at H
  obtain ⟨rfl, rfl, rfl⟩ := sqO3 H
  go_enter func135, ntmps135
  go_wp2_with (first | ((with_reducible refine sqd 2 rfl ?_); refine sqx0 w (sqB HB) #[.int .i64 a0_0, .int .i64 a0_1] 31 fun g0 w5 B0 E0 HB => ?_) | ((with_reducible refine sqd 4 rfl ?_); refine sqx1 w (sqB1 HB E0) #[.int .i64 0, .int .i64 0] 31 B0 fun g1 w6 B2 E1 HB N0 N1 B0 => ?_; have := sqn2 N0 N1; have := sqY2 B0) | ((with_reducible refine sqc 127 rfl ?_); refine sqv (some 10) func127 (F57.c k a0_0 a0_1 1 t0 t1 t2 _ A4.1) fun w9 hb => ?_; obtain ⟨B0, B2⟩ := sqT2 hb B0 B2; replace HB := sqS (sqB2 HB E0 E1) hb; have := sqY2 B2))
  refine sqE g1 31 #[.int .i64 t0, .int .i64 t1] (by refine sqPut (cs := #[.int .i64 t0, .int .i64 0]) ?_ 1; refine sqPut (cs := #[.int .i64 0, .int .i64 0]) ?_ 0; exact sqK B2) underlying31 ?_
  exact ⟨Z5, sqB2 HB E0 E1⟩
 obtain ⟨c1, c2, H⟩ | ⟨c1, c2, c0, H⟩ := sqi4 H
 ·obtain ⟨⟨t3, t4, t5⟩, A0, H⟩ := sqD H
  try dsimp only at H
  obtain ⟨rfl, rfl, rfl⟩ := sqO3 H
  go_enter func135, ntmps135
  go_wp2_with (first | ((with_reducible refine sqd 2 rfl ?_); refine sqx0 w (sqB HB) #[.int .i64 a0_0, .int .i64 a0_1] 31 fun g0 w0 B0 E0 HB => ?_) | ((with_reducible refine sqd 4 rfl ?_); refine sqx1 w (sqB1 HB E0) #[.int .i64 0, .int .i64 0] 31 B0 fun g1 w2 B2 E1 HB N0 N1 B0 => ?_; have := sqn2 N0 N1; have := sqY2 B0) | ((with_reducible refine sqc 127 rfl ?_); refine sqv (some 16) func127 (F57.c k a0_0 a0_1 (-1) t3 t4 t5 _ A0.1) fun w3 hb => ?_; obtain ⟨B0, B2⟩ := sqT2 hb B0 B2; replace HB := sqS (sqB2 HB E0 E1) hb; have := sqY2 B2))
  refine sqE g1 31 #[.int .i64 t3, .int .i64 t4] (by refine sqPut (cs := #[.int .i64 t3, .int .i64 0]) ?_ 1; refine sqPut (cs := #[.int .i64 0, .int .i64 0]) ?_ 0; exact sqK B2) underlying31 ?_
  exact ⟨Z5, sqB2 HB E0 E1⟩
 obtain ⟨⟨t6, t7⟩, A1, H⟩ := sqD H
 try dsimp only at H
 obtain ⟨t8, A2, H⟩ := sqD H
 obtain ⟨rfl, rfl, rfl⟩ := sqO3 H
 go_enter func135, ntmps135
 try go_wp2_with (first | ((with_reducible refine sqd 2 rfl ?_); refine sqx0 w (sqB HB) #[.int .i64 a0_0, .int .i64 a0_1] 31 fun g0 w4 B0 E0 HB => ?_) | ((with_reducible refine sqd 4 rfl ?_); refine sqx1 w (sqB1 HB E0) #[.int .i64 0, .int .i64 0] 31 B0 fun g1 w7 B2 E1 HB N0 N1 B0 => ?_))
 replace B0 := sqa (blk_drew B0.1)
 replace B2 := sqa (blk_drew B2.1)
 replace HB := sqa (below_drew1 HB.1)
 refine start_ (n := 6) (S := fun w' => w'.cell? ⟨g0, 0, none⟩ = some (.int .i64 a0_0) ∧ w'.cell? ⟨g0, 1, none⟩ = some (.int .i64 a0_1)) (ds := []) #[false, false, false, false, false, false] (by kernel_rfl) rfl rfl (sqk1 B0) (fun hHeld => ?_)
 generalize w7.drew = w8 at B0 B2 HB hHeld ⊢
 refine sqQk 0 (some 19) hHeld (h := ?_)
 refine sqQk 2 (some 21) hHeld (h := ?_)
 refine sq1k 1 (some 20) (h := fun K hK => ?_)
 refine sqg func128 #[.agg #[.int .i64 a0_0, .int .i64 a0_1]] ?_
 with_reducible refine (F64.c k a0_0 a0_1 t6 t7 _ A1.1).mono ?_
 rintro e w24 ⟨rfl, hb⟩
 refine ⟨_, rfl, ?_⟩
 replace B0 := sqT B0 hb
 replace B2 := sqT B2 hb
 replace HB := sqS (sqB2 HB E0 E1) hb
 refine hK.out _ _ (sqk1 B0) (fun hHeld => ?_)
 clear hK K
 refine sqN (some 20) ?_
 refine sq1k 3 (some 22) (h := fun K hK => ?_)
 refine sqg func77 #[.agg #[.int .i64 a0_0, .int .i64 a0_1]] ?_
 with_reducible refine (F0.c k a0_0 a0_1 t8 _ A2.1).mono ?_
 rintro e w25 ⟨rfl, hb⟩
 refine ⟨_, rfl, ?_⟩
 replace B0 := sqT B0 hb
 replace B2 := sqT B2 hb
 replace HB := sqS (sqB2 HB E0 E1) hb
 refine hK.out _ _ (sqk1 B0) (fun hHeld => ?_)
 clear hK K
 refine sqN (some 22) ?_
 refine sq1k 4 none (h := fun K hK => ?_)
 have := sqY2 B2
 have := sqn2 N0 N1
 refine skip_ (w1 := ?_) (by rfl) rfl ?_ ?_
 rotate_left
 ·go_simp
  rfl
 refine hK.out _ _ (sql1 N0 hHeld) (fun hHeld => ?_)
 clear hK K
 refine sqPk 5 (some 5) (h := ?_)
 refine done_ (by kernel_rfl) ?_
 try go_wp2
 refine sqE g1 31 #[.int .i64 t6, .int .i64 t7] (by refine sqPut (cs := #[.int .i64 t6, .int .i64 0]) ?_ 1; refine sqPut (cs := #[.int .i64 0, .int .i64 0]) ?_ 0; exact sqK B2) underlying31 ?_
 exact ⟨Z5, sqB2 HB E0 E1⟩

end Go.Proofs.YtofmlbgfcohhoaaGreatDoor.PFnDeskSay
