import Derived.Test.YtofmlbgfcohhoaaGreatDoorPFnDeskSayx3
set_option maxHeartbeats 8000000
set_option maxRecDepth 100000
namespace Go.Proofs.YtofmlbgfcohhoaaGreatDoor.PFnDeskSay
open Go.RowKit Go.Proofs.YtofmlbgfcohhoaaGreatDoorW.PrintWords Go.Proofs.YtofmlbgfcohhoaaGreatDoorW.PrintLast Go.Proofs.YtofmlbgfcohhoaaGreatDoorW.PrintMore Go.Proofs.YtofmlbgfcohhoaaGreatDoor.Lib Go.Proofs.Tryz
attribute [local go_sem] max2_int min2_int max_two min_two max_three min_three max_four min_four   -- for this text's walks alone
set_option linter.unusedVariables false
set_option linter.unusedSimpArgs false

def F36.l0 : Nat → Int → Int → Int → Option (Int × Int)
 | 0, _, _, _ => none
 | k + 1, x3, x0, x1 => if x3 < x1 then (if x0 = 0 then (none) else (if (Int.tmod (wrap64 (x3 * x1)) x0) = 1 then (F36.l0 k (wrap64 (x3 + 1)) x0 x3) else (F36.l0 k (wrap64 (x3 + 1)) x0 x1))) else (some (x0, x1))
def F36.f (k : Nat) (a0_0 : Int) (a0_1 : Int) : Option (Int × Int) := F36.l0 k 1 a0_0 a0_1
theorem F36.c (k : Nat) (a0_0 : Int) (a0_1 : Int) (r1 : Int) (r2 : Int) (w : World) (H : F36.f k a0_0 a0_1 = some (r1, r2)) :
  Calls prog 149 #[.agg #[.int .i64 a0_0, .int .i64 a0_1]] w fun e w' => e = .returned (.agg #[.int .i64 r1, .int .i64 r2]) ∧ Below w.heap.size w w' := by
 have hu116 := underlying116
 have HB := sqh w
 unfold F36.f at H
 have H' := sqa H
 clear H
 go_enter func149, ntmps149
 go_wp2_with (first | ((with_reducible refine sqd 1 rfl ?_); refine sqx0 w (sqB HB) #[.int .i64 a0_0, .int .i64 a0_1] 116 fun g0 w2 B0 E0 HB => ?_) | ((with_reducible refine sqd 2 rfl ?_); refine sqx1 w (sqB1 HB E0) #[.int .i64 0, .int .i64 0] 116 B0 fun g1 w3 B2 E1 HB N0 N1 B0 => ?_))
 go_loopg [3] k (fun kq v3 w' => ∃ (x3_1 : Int) (x0 : Int), v3 = .int .i64 x3_1 ∧ Aside0 (F36.l0 kq x3_1 a0_0 x0 = some (r1, r2)) ∧ Aside0 (kq ≤ k) ∧ Aside0 (w'.heap[g0]? = some (.cells #[.int .i64 a0_0, .int .i64 x0] 116 (0, 0))) ∧ Aside0 (w'.heap[g1]? = some (.cells #[.int .i64 0, .int .i64 0] 116 (0, 0))) ∧ Aside0 (Below w.heap.size w w'))
 case atStart => exact ⟨(1), (a0_1), Z1, H', ⟨Nat.le_refl _⟩, ⟨sqK B0⟩, ⟨sqK B2⟩, ⟨sqB2 HB E0 E1⟩⟩
 case round =>
  clear H'
  obtain ⟨x3_1, x0, rfl, HA, HK1, B0, B2, HB⟩ := hrel
  cases gk with
  | zero => exact absurd HA.out (by simp [F36.l0])
  | succ k1 =>
   have H := HA.out
   clear HA
   simp only [F36.l0] at H
   obtain ⟨c4b0, H⟩ | ⟨c4b0, H⟩ := sqi3 H
   ·by_cases c5 : a0_0 = 0
    ·rw [if_pos c5] at H
     exact absurd H (by simp)
    rw [if_neg c5] at H
    have c5b0 : (a0_0 == 0) = false := sqe0 c5
    have c5b1 : (a0_0 != 0) = true := sqn1 c5
    obtain ⟨c6b0, c6b1, H⟩ | ⟨c6b0, c6b1, c6, H⟩ := sqi4 H
    ·have H' := sqa H
     clear H
     have := sqn2 N0 N1
     have := sqY2 B0
     go_wp2
     go_roundg k1
     case measure => have := HK1.out; omega
     case rel => exact ⟨(wrap64 (x3_1 + 1)), (x3_1), Z1, H', ⟨Z2 HK1⟩, ⟨by refine sqPut (cs := #[.int .i64 a0_0, .int .i64 x0]) ?_ 1; exact sqK B0⟩, ⟨Z3 N1 B2⟩, ⟨sqB2 HB E0 E1⟩⟩
    have H' := sqa H
    clear H
    have := sqn2 N0 N1
    have := sqY2 B0
    go_wp2
    go_roundg k1
    case measure => have := HK1.out; omega
    case rel => exact ⟨(wrap64 (x3_1 + 1)), (x0), Z1, H', ⟨Z2 HK1⟩, ⟨sqK B0⟩, ⟨sqK B2⟩, ⟨sqB2 HB E0 E1⟩⟩
   obtain ⟨rfl, rfl⟩ := sqO2 H
   have := sqn2 N0 N1
   have := sqY2 B0
   have := sqY2 B2
   go_wp2
   refine sqEr g1 116 #[.int .i64 a0_0, .int .i64 x0] (Z4 B2) underlying116 ?_
   exact ⟨Z5, sqB2 HB E0 E1⟩

-- given: function 150 (strings_CutPrefix)

def F74.f (k : Nat) (a0_0 : Int) (a0_1 : Int) (a1 : Int) : Option (Int) := (F3.f k a0_0 a0_1).bind fun t0 => (if t0 = true then (if a1 < 1 then (some (-1)) else (if a1 > 12 then (some (-1)) else ((F20.f k a1 a0_0).bind fun t1 => (some (wrap64 (a1 * t1)))))) else (some (-1)))
theorem F74.c (k : Nat) (a0_0 : Int) (a0_1 : Int) (a1 : Int) (r : Int) (w : World) (H : F74.f k a0_0 a0_1 a1 = some r) :
  Calls prog 152 #[.agg #[.int .i64 a0_0, .int .i64 a0_1], .int .i64 a1] w fun e w' => e = .returned (.int .i64 r) ∧ Below w.heap.size w w' := by
 have hu31 := underlying31
 have HB := sqh w
 unfold F74.f at H
 obtain ⟨t0, A3, H⟩ := sqD H
 obtain rfl | rfl := sqt t0
 ·rw [if_pos rfl] at H
  obtain ⟨c5b0, H⟩ | ⟨c5b0, H⟩ := sqi3 H
  ·obtain rfl := sqo H
   go_enter func152, ntmps152
   go_wp2_with (first | ((with_reducible refine sqd 2 rfl ?_); refine sqx0 w (sqB HB) #[.int .i64 a0_0, .int .i64 a0_1] 31 fun g0 w6 B0 E0 HB => ?_; have := sqY2 B0) | ((with_reducible refine sqc 70 rfl ?_); refine sqv (some 6) func70 (F3.c k a0_0 a0_1 true _ A3.1) fun w8 hb => ?_; replace B0 := sqT B0 hb; replace HB := sqS (sqB1 HB E0) hb))
   go_ret
   exact ⟨Z5, sqB1 HB E0⟩
  obtain ⟨c9b0, H⟩ | ⟨c9b0, H⟩ := sqi3g H
  ·obtain rfl := sqo H
   go_enter func152, ntmps152
   go_wp2_with (first | ((with_reducible refine sqd 2 rfl ?_); refine sqx0 w (sqB HB) #[.int .i64 a0_0, .int .i64 a0_1] 31 fun g0 w0 B0 E0 HB => ?_; have := sqY2 B0) | ((with_reducible refine sqc 70 rfl ?_); refine sqv (some 6) func70 (F3.c k a0_0 a0_1 true _ A3.1) fun w1 hb => ?_; replace B0 := sqT B0 hb; replace HB := sqS (sqB1 HB E0) hb))
   go_ret
   exact ⟨Z5, sqB1 HB E0⟩
  obtain ⟨t1, A0, H⟩ := sqD H
  obtain rfl := sqo H
  go_enter func152, ntmps152
  go_wp2_with (first | ((with_reducible refine sqd 2 rfl ?_); refine sqx0 w (sqB HB) #[.int .i64 a0_0, .int .i64 a0_1] 31 fun g0 w2 B0 E0 HB => ?_; have := sqY2 B0) | ((with_reducible refine sqc 70 rfl ?_); refine sqv (some 6) func70 (F3.c k a0_0 a0_1 true _ A3.1) fun w3 hb => ?_; replace B0 := sqT B0 hb; replace HB := sqS (sqB1 HB E0) hb; have := sqY2 B0) | ((with_reducible refine sqc 117 rfl ?_); refine sqv (some 20) func117 (F20.c k a1 a0_0 t1 _ A0.1) fun w4 hb => ?_; replace B0 := sqT B0 hb; replace HB := sqS (sqB1 HB E0) hb))
  go_ret
  exact ⟨Z5, sqB1 HB E0⟩
 rw [if_neg sqF] at H
 obtain rfl := sqo H
 go_enter func152, ntmps152
 go_wp2_with (first | ((with_reducible refine sqd 2 rfl ?_); refine sqx0 w (sqB HB) #[.int .i64 a0_0, .int .i64 a0_1] 31 fun g0 w5 B0 E0 HB => ?_; have := sqY2 B0) | ((with_reducible refine sqc 70 rfl ?_); refine sqv (some 6) func70 (F3.c k a0_0 a0_1 false _ A3.1) fun w7 hb => ?_; replace B0 := sqT B0 hb; replace HB := sqS (sqB1 HB E0) hb))
 go_ret
 exact ⟨Z5, sqB1 HB E0⟩

end Go.Proofs.YtofmlbgfcohhoaaGreatDoor.PFnDeskSay
