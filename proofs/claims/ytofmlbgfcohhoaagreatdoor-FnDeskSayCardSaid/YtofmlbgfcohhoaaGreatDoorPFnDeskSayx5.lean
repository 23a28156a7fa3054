import Derived.Test.YtofmlbgfcohhoaaGreatDoorPFnDeskSayx4
set_option maxHeartbeats 8000000
set_option maxRecDepth 100000
namespace Go.Proofs.YtofmlbgfcohhoaaGreatDoor.PFnDeskSay
open Go.RowKit Go.Proofs.YtofmlbgfcohhoaaGreatDoorW.PrintWords Go.Proofs.YtofmlbgfcohhoaaGreatDoorW.PrintLast Go.Proofs.YtofmlbgfcohhoaaGreatDoorW.PrintMore Go.Proofs.YtofmlbgfcohhoaaGreatDoor.Lib Go.Proofs.Tryz
attribute [local go_sem] max2_int min2_int max_two min_two max_three min_three max_four min_four   -- for this text's walks alone
set_option linter.unusedVariables false
set_option linter.unusedSimpArgs false

def F25.f (k : Nat) (a0 : Int) (a1 : Int) : Option (Int × Int) := (F20.f k a0 a1).bind fun t145 => (if a1 < 0 then (if (wrap64 (-t145)) = 0 then (none) else (some (wrap64 (Int.tdiv a0 (wrap64 (-t145))), wrap64 (Int.tdiv a1 (wrap64 (-t145)))))) else (if a1 = 0 then (if a0 < 0 then (if (wrap64 (-t145)) = 0 then (none) else (some (wrap64 (Int.tdiv a0 (wrap64 (-t145))), wrap64 (Int.tdiv a1 (wrap64 (-t145)))))) else (if t145 = 0 then (none) else (some (wrap64 (Int.tdiv a0 t145), wrap64 (Int.tdiv a1 t145))))) else (if t145 = 0 then (none) else (some (wrap64 (Int.tdiv a0 t145), wrap64 (Int.tdiv a1 t145))))))
def F25.T4 : Bool × List (List Nat × List Nat) := (true, [([], []), ([], []), ([0, 1], [0, 1]), ([], []), ([], []), ([3, 4], [3, 4]), ([2, 5], [2, 5]), ([6, 0, 1, 2, 3, 4, 5, 6], [6])])
def F25.B4 : List Nat := [0, 0, 3, 0, 0, 24, 63, 127]
theorem F25.tab4 : rtab .any (opsOf f120 4) = F25.T4 := by kernel_rfl
theorem F25.bits4 : waitsOk F25.T4.2 F25.B4 = true := by kernel_rfl
theorem F25.c (k : Nat) (a0 : Int) (a1 : Int) (r1 : Int) (r2 : Int) (w : World) (H : F25.f k a0 a1 = some (r1, r2)) :
  Calls prog 120 #[.int .i64 a0, .int .i64 a1] w fun e w' => e = .returned (.agg #[.int .i64 r1, .int .i64 r2]) ∧ Below w.heap.size w w' := by
 have hu31 := underlying31
 have HB := sqh w
 unfold F25.f at H
 obtain ⟨t145, A3, H⟩ := sqD H
 obtain ⟨c4b0, H⟩ | ⟨c4b0, H⟩ := sqi3 H
 ·by_cases c5 : (wrap64 (-t145)) = 0
  ·rw [if_pos c5] at H
   exact absurd H (by simp)
  rw [if_neg c5] at H
  have c5b0 : ((wrap64 (-t145)) == 0) = false := sqe0 c5
  have c5b1 : ((wrap64 (-t145)) != 0) = true := sqn1 c5
  obtain ⟨rfl, rfl⟩ := sqO2 H
  go_enter func120, ntmps120
  try go_wp2_with (first | ((with_reducible refine sqd 4 rfl ?_); refine sqx0 w (sqB HB) #[.int .i64 0, .int .i64 0] 31 fun g0 w6 B0 E0 HB => ?_) | ((with_reducible refine sqc 117 rfl ?_); refine sqv (some 8) func117 (F20.c k a0 a1 t145 _ A3.1) fun w7 hb => ?_; replace B0 := sqT B0 hb; replace HB := sqS (sqB1 HB E0) hb))
  replace B0 := sqa (blk_drew B0.1)
  replace HB := sqa (below_drew1 HB.1)
  refine start_ (n := 8) (S := fun w' => True) (ds := []) #[false, false, false, false, false, false, false, false] (by kernel_rfl) rfl rfl trivial (fun hHeld => ?_); refine with_tabW F25.tab4 F25.bits4 (fun HT_ HW_ => ?_)
  generalize w7.drew = w8 at B0 HB hHeld ⊢
  refine sqP 0 (some 21) (h := ?_)
  refine sqP 1 (some 22) (h := ?_)
  refine sqP 2 (some 23) (h := ?_)
  refine sqP 3 (some 24) (h := ?_)
  refine sqP 4 (some 25) (h := ?_)
  refine sqP 5 (some 26) (h := ?_)
  refine sqP 6 (some 27) (h := ?_)
  refine sq1 7 none (h := fun K hK => ?_)
  have := sqY2 B0
  refine skip_ (w1 := ?_) (by rfl) rfl ?_ ?_
  rotate_left
  ·go_simp
   rfl
  refine hK.out _ _ trivial (fun hHeld => ?_)
  clear hK K
  refine done_ (done_of HT_.out (by kernel_rfl)) ?_
  try go_wp2
  refine sqEr g0 31 #[.int .i64 (wrap64 (Int.tdiv a0 (wrap64 (-t145)))), .int .i64 (wrap64 (Int.tdiv a1 (wrap64 (-t145))))] (Z104 B0) underlying31 ?_
  exact ⟨Z5, sqB1 HB E0⟩
 obtain ⟨c1, c2, H⟩ | ⟨c1, c2, c0, H⟩ := sqi4 H
 ·by_cases c3 : a0 < 0
  ·rw [if_pos c3] at H
   have c6 : decide (a0 < 0) = true := decide_eq_true c3
   clear c3
   obtain ⟨c7, H⟩ | ⟨c7, H⟩ := sqi2 H
   ·exact absurd H (by simp)
   have c8 := sqe0 c7
   have c9 := sqn1 c7
   obtain ⟨rfl, rfl⟩ := sqO2 H
   go_enter func120, ntmps120
   try go_wp2_with (first | ((with_reducible refine sqd 4 rfl ?_); refine sqx0 w (sqB HB) #[.int .i64 0, .int .i64 0] 31 fun g0 w0 B0 E0 HB => ?_) | ((with_reducible refine sqc 117 rfl ?_); refine sqv (some 8) func117 (F20.c k a0 a1 t145 _ A3.1) fun w2 hb => ?_; replace B0 := sqT B0 hb; replace HB := sqS (sqB1 HB E0) hb))
   replace B0 := sqa (blk_drew B0.1)
   replace HB := sqa (below_drew1 HB.1)
   refine start_ (n := 8) (S := fun w' => True) (ds := []) #[false, false, false, false, false, false, false, false] (by kernel_rfl) rfl rfl trivial (fun hHeld => ?_); refine with_tabW F25.tab4 F25.bits4 (fun HT_ HW_ => ?_)
   generalize w2.drew = w3 at B0 HB hHeld ⊢
   refine sqP 0 (some 21) (h := ?_)
   refine sqP 1 (some 22) (h := ?_)
   refine sqP 2 (some 23) (h := ?_)
   refine sqP 3 (some 24) (h := ?_)
   refine sqP 4 (some 25) (h := ?_)
   refine sqP 5 (some 26) (h := ?_)
   refine sqP 6 (some 27) (h := ?_)
   refine sq1 7 none (h := fun K hK => ?_)
   have := sqY2 B0
   refine skip_ (w1 := ?_) (by rfl) rfl ?_ ?_
   rotate_left
   ·go_simp
    rfl
   refine hK.out _ _ trivial (fun hHeld => ?_)
   clear hK K
   refine done_ (done_of HT_.out (by kernel_rfl)) ?_
   try go_wp2
   refine sqEr g0 31 #[.int .i64 (wrap64 (Int.tdiv a0 (wrap64 (-t145)))), .int .i64 (wrap64 (Int.tdiv a1 (wrap64 (-t145))))] (Z104 B0) underlying31 ?_
   exact ⟨Z5, sqB1 HB E0⟩
  rw [if_neg c3] at H
  have c6 : decide (a0 < 0) = false := decide_eq_false c3
  clear c3
  obtain ⟨c19, H⟩ | ⟨c19, H⟩ := sqi2 H
  ·exact absurd H (by simp)
  have c14 := sqe0 c19
  have c15 := sqn1 c19
  obtain ⟨rfl, rfl⟩ := sqO2 H
  go_enter func120, ntmps120
  try go_wp2_with (first | ((with_reducible refine sqd 4 rfl ?_); refine sqx0 w (sqB HB) #[.int .i64 0, .int .i64 0] 31 fun g0 w4 B0 E0 HB => ?_) | ((with_reducible refine sqc 117 rfl ?_); refine sqv (some 8) func117 (F20.c k a0 a1 t145 _ A3.1) fun w5 hb => ?_; replace B0 := sqT B0 hb; replace HB := sqS (sqB1 HB E0) hb))
  replace B0 := sqa (blk_drew B0.1)
  replace HB := sqa (below_drew1 HB.1)
  refine start_ (n := 8) (S := fun w' => True) (ds := []) #[false, false, false, false, false, false, false, false] (by kernel_rfl) rfl rfl trivial (fun hHeld => ?_); refine with_tabW F25.tab4 F25.bits4 (fun HT_ HW_ => ?_)
  generalize w5.drew = w9 at B0 HB hHeld ⊢
  refine sqP 0 (some 21) (h := ?_)
  refine sqP 1 (some 22) (h := ?_)
  refine sqP 2 (some 23) (h := ?_)
  refine sqP 3 (some 24) (h := ?_)
  refine sqP 4 (some 25) (h := ?_)
  refine sqP 5 (some 26) (h := ?_)
  refine sqP 6 (some 27) (h := ?_)
  refine sq1 7 none (h := fun K hK => ?_)
  have := sqY2 B0
  refine skip_ (w1 := ?_) (by rfl) rfl ?_ ?_
  rotate_left
  ·go_simp
   rfl
  refine hK.out _ _ trivial (fun hHeld => ?_)
  clear hK K
  refine done_ (done_of HT_.out (by kernel_rfl)) ?_
  try go_wp2
  refine sqEr g0 31 #[.int .i64 (wrap64 (Int.tdiv a0 t145)), .int .i64 (wrap64 (Int.tdiv a1 t145))] (Z105 B0) underlying31 ?_
  exact ⟨Z5, sqB1 HB E0⟩
 obtain ⟨c25, H⟩ | ⟨c25, H⟩ := sqi2 H
 ·exact absurd H (by simp)
 have c17 := sqe0 c25
 have c18 := sqn1 c25
 obtain ⟨rfl, rfl⟩ := sqO2 H
 go_enter func120, ntmps120
 try go_wp2_with (first | ((with_reducible refine sqd 4 rfl ?_); refine sqx0 w (sqB HB) #[.int .i64 0, .int .i64 0] 31 fun g0 w26 B0 E0 HB => ?_) | ((with_reducible refine sqc 117 rfl ?_); refine sqv (some 8) func117 (F20.c k a0 a1 t145 _ A3.1) fun w27 hb => ?_; replace B0 := sqT B0 hb; replace HB := sqS (sqB1 HB E0) hb))
 replace B0 := sqa (blk_drew B0.1)
 replace HB := sqa (below_drew1 HB.1)
 refine start_ (n := 8) (S := fun w' => True) (ds := []) #[false, false, false, false, false, false, false, false] (by kernel_rfl) rfl rfl trivial (fun hHeld => ?_); refine with_tabW F25.tab4 F25.bits4 (fun HT_ HW_ => ?_)
 generalize w27.drew = w28 at B0 HB hHeld ⊢
 refine sqP 0 (some 21) (h := ?_)
 refine sqP 1 (some 22) (h := ?_)
 refine sqP 2 (some 23) (h := ?_)
 refine sqP 3 (some 24) (h := ?_)
 refine sqP 4 (some 25) (h := ?_)
 refine sqP 5 (some 26) (h := ?_)
 refine sqP 6 (some 27) (h := ?_)
 refine sq1 7 none (h := fun K hK => ?_)
 have := sqY2 B0
 refine skip_ (w1 := ?_) (by rfl) rfl ?_ ?_
 rotate_left
 ·go_simp
  rfl
 refine hK.out _ _ trivial (fun hHeld => ?_)
 clear hK K
 refine done_ (done_of HT_.out (by kernel_rfl)) ?_
 try go_wp2
 refine sqEr g0 31 #[.int .i64 (wrap64 (Int.tdiv a0 t145)), .int .i64 (wrap64 (Int.tdiv a1 t145))] (Z105 B0) underlying31 ?_
 exact ⟨Z5, sqB1 HB E0⟩

def F42.l0 : Nat → ByteArray → Int → Int → Int → Int → Option (Int × Int × Bool)
 | 0, _, _, _, _, _ => none
 | k + 1, x1, x9, x0, x2, x3 => if x0 < x9 then (if 0 ≤ x0 then (if x0 < (x1.size : Int) then (if (bt x1 x0) = 84 then ((F61.f k x2 x3 1).bind fun bt0 => (if bt0.2.2 = true then (F42.l0 k x1 x9 (wrap64 (x0 + 1)) bt0.1 bt0.2.1) else (some (0, 0, false)))) else (if (bt x1 x0) = 116 then ((F61.f k x2 x3 (-1)).bind fun bt1 => (if bt1.2.2 = true then (F42.l0 k x1 x9 (wrap64 (x0 + 1)) bt1.1 bt1.2.1) else (some (0, 0, false)))) else ((F25.f k (wrap64 (-x3)) x2).bind fun bt2 => (F42.l0 k x1 x9 (wrap64 (x0 + 1)) bt2.1 bt2.2)))) else (none)) else (none)) else (some (x2, x3, true))
def F42.f (k : Nat) (a0_0 : Int) (a0_1 : Int) (a1 : ByteArray) : Option (Int × Int × Bool) := F42.l0 k a1 (a1.size : Int) 0 a0_0 a0_1
theorem F42.c (k : Nat) (a0_0 : Int) (a0_1 : Int) (a1 : ByteArray) (r1 : Int) (r2 : Int) (r3 : Bool) (w : World) (H : F42.f k a0_0 a0_1 a1 = some (r1, r2, r3)) :
  Calls prog 72 #[.agg #[.int .i64 a0_0, .int .i64 a0_1], .string a1] w fun e w' => e = .returned (.tuple #[.agg #[.int .i64 r1, .int .i64 r2], .bool r3]) ∧ Below w.heap.size w w' := by
 have hu31 := underlying31
 have HB := sqh w
 unfold F42.f at H
 have H' := sqa H
 clear H
 go_enter func72, ntmps72
 go_wp2_with (first | ((with_reducible refine sqd 2 rfl ?_); refine sqx0 w (sqB HB) #[.int .i64 a0_0, .int .i64 a0_1] 31 fun g0 w3 B0 E0 HB => ?_) | ((with_reducible refine sqd 4 rfl ?_); refine sqx1 w (sqB1 HB E0) #[.int .i64 0, .int .i64 0] 31 B0 fun g1 w4 B2 E1 HB N0 N1 B0 => ?_))
 go_loopg [10] k (fun kq v0 w' => ∃ (x0 : Int) (x1 : Int) (x2 : Int) (x148000_1 : Int) (x148001_1 : Int), v0 = .int .i64 x0 ∧ Aside0 (F42.l0 kq a1 (a1.size : Int) x0 x1 x2 = some (r1, r2, r3)) ∧ Aside0 (kq ≤ k) ∧ Aside0 (w'.heap[g0]? = some (.cells #[.int .i64 x1, .int .i64 x2] 31 (0, 0))) ∧ Aside0 (w'.heap[g1]? = some (.cells #[.int .i64 x148000_1, .int .i64 x148001_1] 31 (0, 0))) ∧ Aside0 (Below w.heap.size w w'))
 case atStart => exact ⟨(0), (a0_0), (a0_1), (0), (0), Z1, H', ⟨Nat.le_refl _⟩, ⟨sqK B0⟩, ⟨sqK B2⟩, ⟨sqB2 HB E0 E1⟩⟩
 case round =>
  clear H'
  obtain ⟨x0, x1, x2, x148000_1, x148001_1, rfl, HA, HK1, B0, B2, HB⟩ := hrel
  cases gk with
  | zero => exact absurd HA.out (by simp [F42.l0])
  | succ k1 =>
   have H := HA.out
   clear HA
   simp only [F42.l0] at H
   obtain ⟨c5b0, H⟩ | ⟨c5b0, H⟩ := sqi3 H
   ·obtain ⟨c6b0, H⟩ := sqJ2 H
    obtain ⟨c7b0, H⟩ := sqJ2 H
    obtain ⟨c9b0, c9b1, H⟩ | ⟨c9b0, c9b1, c9, H⟩ := sqi4 H
    ·obtain ⟨⟨t0, t1, t2⟩, A0, H⟩ := sqD H
     try dsimp only at H
     obtain rfl | rfl := sqt t2
     ·rw [if_pos rfl] at H
      have H' := sqa H
      clear H
      have p8 : 0 ≤ (x0 : Int) := of_decide_eq_true Z16
      have q8 : x0 < (a1.size : Int) := of_decide_eq_true Z16
      have hx8 := bt_at a1 x0
      replace p8 := eq_true p8
      replace q8 := eq_true q8
      have := sqn2 N0 N1
      have := sqY2 B0
      go_wp2_with (first | ((with_reducible refine sqc 119 rfl ?_); refine sqv (some 26) func119 (F61.c k1 x1 x2 1 t0 t1 true _ A0.1) fun w0 hb => ?_; obtain ⟨B0, B2⟩ := sqT2 hb B0 B2; replace HB := sqS (sqB2 HB E0 E1) hb; have := sqY2 B0))
      go_roundg k1
      case measure => have := HK1.out; omega
      case rel => exact ⟨(wrap64 (x0 + 1)), (t0), (t1), (x148000_1), (x148001_1), Z1, H', ⟨Z2 HK1⟩, ⟨by refine sqPut (cs := #[.int .i64 t0, .int .i64 x2]) ?_ 1; refine sqPut (cs := #[.int .i64 x1, .int .i64 x2]) ?_ 0; exact sqK B0⟩, ⟨Z9 N1 B2⟩, ⟨sqB2 HB E0 E1⟩⟩
     rw [if_neg sqF] at H
     obtain ⟨rfl, rfl, rfl⟩ := sqO3 H
     have p8 : 0 ≤ (x0 : Int) := of_decide_eq_true Z16
     have q8 : x0 < (a1.size : Int) := of_decide_eq_true Z16
     have hx8 := bt_at a1 x0
     replace p8 := eq_true p8
     replace q8 := eq_true q8
     have := sqn2 N0 N1
     have := sqY2 B0
     go_wp2_with (first | ((with_reducible refine sqc 119 rfl ?_); refine sqv (some 26) func119 (F61.c k1 x1 x2 1 t0 t1 false _ A0.1) fun w1 hb => ?_; obtain ⟨B0, B2⟩ := sqT2 hb B0 B2; replace HB := sqS (sqB2 HB E0 E1) hb; have := sqY2 B0; have := sqY2 B2))
     refine sqE g1 31 #[.int .i64 0, .int .i64 0] (Z106 N1 B2) underlying31 ?_
     exact ⟨Z5, sqB2 HB E0 E1⟩
    obtain ⟨c1, c2, H⟩ | ⟨c1, c2, c21, H⟩ := sqi4 H
    ·obtain ⟨⟨t3, t4, t5⟩, A1, H⟩ := sqD H
     try dsimp only at H
     obtain rfl | rfl := sqt t5
     ·rw [if_pos rfl] at H
      have H' := sqa H
      clear H
      have p8 : 0 ≤ (x0 : Int) := of_decide_eq_true Z16
      have q8 : x0 < (a1.size : Int) := of_decide_eq_true Z16
      have hx8 := bt_at a1 x0
      replace p8 := eq_true p8
      replace q8 := eq_true q8
      have := sqn2 N0 N1
      have := sqY2 B0
      go_wp2_with (first | ((with_reducible refine sqc 119 rfl ?_); refine sqv (some 33) func119 (F61.c k1 x1 x2 (-1) t3 t4 true _ A1.1) fun w2 hb => ?_; obtain ⟨B0, B2⟩ := sqT2 hb B0 B2; replace HB := sqS (sqB2 HB E0 E1) hb; have := sqY2 B0))
      go_roundg k1
      case measure => have := HK1.out; omega
      case rel => exact ⟨(wrap64 (x0 + 1)), (t3), (t4), (x148000_1), (x148001_1), Z1, H', ⟨Z2 HK1⟩, ⟨by refine sqPut (cs := #[.int .i64 t3, .int .i64 x2]) ?_ 1; refine sqPut (cs := #[.int .i64 x1, .int .i64 x2]) ?_ 0; exact sqK B0⟩, ⟨Z9 N1 B2⟩, ⟨sqB2 HB E0 E1⟩⟩
     rw [if_neg sqF] at H
     obtain ⟨rfl, rfl, rfl⟩ := sqO3 H
     have p8 : 0 ≤ (x0 : Int) := of_decide_eq_true Z16
     have q8 : x0 < (a1.size : Int) := of_decide_eq_true Z16
     have hx8 := bt_at a1 x0
     replace p8 := eq_true p8
     replace q8 := eq_true q8
     have := sqn2 N0 N1
     have := sqY2 B0
     go_wp2_with (first | ((with_reducible refine sqc 119 rfl ?_); refine sqv (some 33) func119 (F61.c k1 x1 x2 (-1) t3 t4 false _ A1.1) fun w5 hb => ?_; obtain ⟨B0, B2⟩ := sqT2 hb B0 B2; replace HB := sqS (sqB2 HB E0 E1) hb; have := sqY2 B0; have := sqY2 B2))
     refine sqE g1 31 #[.int .i64 0, .int .i64 0] (Z106 N1 B2) underlying31 ?_
     exact ⟨Z5, sqB2 HB E0 E1⟩
    obtain ⟨⟨t6, t7⟩, A2, H⟩ := sqD H
    try dsimp only at H
    have H' := sqa H
    clear H
    have p8 : 0 ≤ (x0 : Int) := of_decide_eq_true Z16
    have q8 : x0 < (a1.size : Int) := of_decide_eq_true Z16
    have hx8 := bt_at a1 x0
    replace p8 := eq_true p8
    replace q8 := eq_true q8
    have := sqn2 N0 N1
    have := sqY2 B0
    go_wp2_with (first | ((with_reducible refine sqc 120 rfl ?_); refine sqv (some 21) func120 (F25.c k1 (wrap64 (-x2)) x1 t6 t7 _ A2.1) fun w6 hb => ?_; obtain ⟨B0, B2⟩ := sqT2 hb B0 B2; replace HB := sqS (sqB2 HB E0 E1) hb; have := sqY2 B0))
    go_roundg k1
    case measure => have := HK1.out; omega
    case rel => exact ⟨(wrap64 (x0 + 1)), (t6), (t7), (x148000_1), (x148001_1), Z1, H', ⟨Z2 HK1⟩, ⟨by refine sqPut (cs := #[.int .i64 t6, .int .i64 x2]) ?_ 1; refine sqPut (cs := #[.int .i64 x1, .int .i64 x2]) ?_ 0; exact sqK B0⟩, ⟨Z9 N1 B2⟩, ⟨sqB2 HB E0 E1⟩⟩
   obtain ⟨rfl, rfl, rfl⟩ := sqO3 H
   have := sqn2 N0 N1
   have := sqY2 B0
   have := sqY2 B2
   go_wp2
   refine sqE g1 31 #[.int .i64 x1, .int .i64 x2] (by refine sqPut (cs := #[.int .i64 x1, .int .i64 x148001_1]) ?_ 1; refine sqPut (cs := #[.int .i64 x148000_1, .int .i64 x148001_1]) ?_ 0; exact sqK B2) underlying31 ?_
   exact ⟨Z5, sqB2 HB E0 E1⟩

def F73.f (k : Nat) (a0_0 : Int) (a0_1 : Int) (a1 : ByteArray) : Option (Int × Int × Bool) := (F3.f k a0_0 a0_1).bind fun t0 => (if t0 = true then ((F62.f a1).bind fun t1 => (if t1 = true then ((F42.f k a0_0 a0_1 a1).bind fun bt0 => (some (bt0.1, bt0.2.1, bt0.2.2))) else (some (0, 0, false)))) else (some (0, 0, false)))
theorem F73.c (k : Nat) (a0_0 : Int) (a0_1 : Int) (a1 : ByteArray) (r1 : Int) (r2 : Int) (r3 : Bool) (w : World) (H : F73.f k a0_0 a0_1 a1 = some (r1, r2, r3)) :
  Calls prog 25 #[.agg #[.int .i64 a0_0, .int .i64 a0_1], .string a1] w fun e w' => e = .returned (.tuple #[.agg #[.int .i64 r1, .int .i64 r2], .bool r3]) ∧ Below w.heap.size w w' := by
 have hu31 := underlying31
 have HB := sqh w
 unfold F73.f at H
 obtain ⟨t0, A3, H⟩ := sqD H
 obtain rfl | rfl := sqt t0
 ·rw [if_pos rfl] at H
  obtain ⟨t1, A5, H⟩ := sqD H
  obtain rfl | rfl := sqt t1
  ·rw [if_pos rfl] at H
   obtain ⟨⟨t2, t3, t4⟩, A7, H⟩ := sqD H
   try dsimp only at H
   obtain ⟨rfl, rfl, rfl⟩ := sqO3 H
   go_enter func25, ntmps25
   go_wp2_with (first | ((with_reducible refine sqd 2 rfl ?_); refine sqx0 w (sqB HB) #[.int .i64 a0_0, .int .i64 a0_1] 31 fun g0 w8 B0 E0 HB => ?_) | ((with_reducible refine sqd 4 rfl ?_); refine sqx1 w (sqB1 HB E0) #[.int .i64 0, .int .i64 0] 31 B0 fun g1 w9 B2 E1 HB N0 N1 B0 => ?_; have := sqn2 N0 N1; have := sqY2 B0) | ((with_reducible refine sqc 70 rfl ?_); refine sqv (some 7) func70 (F3.c k a0_0 a0_1 true _ A3.1) fun w0 hb => ?_; obtain ⟨B0, B2⟩ := sqT2 hb B0 B2; replace HB := sqS (sqB2 HB E0 E1) hb) | (go_at_call 71; (with_reducible refine (F62.c a1 true _ A5.1).mono ?_); rintro e w1 ⟨rfl, hb⟩; obtain ⟨B0, B2⟩ := sqT2 hb B0 B2; replace HB := sqS (sqB2 HB E0 E1) hb; have := sqY2 B0) | ((with_reducible refine sqc 72 rfl ?_); refine sqv (some 17) func72 (F42.c k a0_0 a0_1 a1 t2 t3 t4 _ A7.1) fun w2 hb => ?_; obtain ⟨B0, B2⟩ := sqT2 hb B0 B2; replace HB := sqS (sqB2 HB E0 E1) hb; have := sqY2 B2))
   refine sqE g1 31 #[.int .i64 t2, .int .i64 t3] (by refine sqPut (cs := #[.int .i64 t2, .int .i64 0]) ?_ 1; refine sqPut (cs := #[.int .i64 0, .int .i64 0]) ?_ 0; exact sqK B2) underlying31 ?_
   exact ⟨Z5, sqB2 HB E0 E1⟩
  rw [if_neg sqF] at H
  obtain ⟨rfl, rfl, rfl⟩ := sqO3 H
  go_enter func25, ntmps25
  go_wp2_with (first | ((with_reducible refine sqd 2 rfl ?_); refine sqx0 w (sqB HB) #[.int .i64 a0_0, .int .i64 a0_1] 31 fun g0 w3 B0 E0 HB => ?_) | ((with_reducible refine sqd 4 rfl ?_); refine sqx1 w (sqB1 HB E0) #[.int .i64 0, .int .i64 0] 31 B0 fun g1 w4 B2 E1 HB N0 N1 B0 => ?_; have := sqn2 N0 N1; have := sqY2 B0) | ((with_reducible refine sqc 70 rfl ?_); refine sqv (some 7) func70 (F3.c k a0_0 a0_1 true _ A3.1) fun w5 hb => ?_; obtain ⟨B0, B2⟩ := sqT2 hb B0 B2; replace HB := sqS (sqB2 HB E0 E1) hb) | (go_at_call 71; (with_reducible refine (F62.c a1 false _ A5.1).mono ?_); rintro e w6 ⟨rfl, hb⟩; obtain ⟨B0, B2⟩ := sqT2 hb B0 B2; replace HB := sqS (sqB2 HB E0 E1) hb; have := sqY2 B2))
  refine sqE g1 31 #[.int .i64 0, .int .i64 0] (Z12 B2) underlying31 ?_
  exact ⟨Z5, sqB2 HB E0 E1⟩
 rw [if_neg sqF] at H
 obtain ⟨rfl, rfl, rfl⟩ := sqO3 H
 go_enter func25, ntmps25
 go_wp2_with (first | ((with_reducible refine sqd 2 rfl ?_); refine sqx0 w (sqB HB) #[.int .i64 a0_0, .int .i64 a0_1] 31 fun g0 w7 B0 E0 HB => ?_) | ((with_reducible refine sqd 4 rfl ?_); refine sqx1 w (sqB1 HB E0) #[.int .i64 0, .int .i64 0] 31 B0 fun g1 w25 B2 E1 HB N0 N1 B0 => ?_; have := sqn2 N0 N1; have := sqY2 B0) | ((with_reducible refine sqc 70 rfl ?_); refine sqv (some 7) func70 (F3.c k a0_0 a0_1 false _ A3.1) fun w28 hb => ?_; obtain ⟨B0, B2⟩ := sqT2 hb B0 B2; replace HB := sqS (sqB2 HB E0 E1) hb; have := sqY2 B2))
 refine sqE g1 31 #[.int .i64 0, .int .i64 0] (Z12 B2) underlying31 ?_
 exact ⟨Z5, sqB2 HB E0 E1⟩

def F39.f (k : Nat) (a0_0 : Int) (a0_1 : Int) (a1 : Int) : Option (Bool) := (F3.f k a0_0 a0_1).bind fun t164 => (if t164 = true then (if a0_0 ≥ (wrap64 (-a1)) then (if a0_0 ≤ a1 then (some (decide (a0_1 ≤ a1))) else (some false)) else (some false)) else (some false))
theorem F39.c (k : Nat) (a0_0 : Int) (a0_1 : Int) (a1 : Int) (r : Bool) (w : World) (H : F39.f k a0_0 a0_1 a1 = some r) :
  Calls prog 104 #[.agg #[.int .i64 a0_0, .int .i64 a0_1], .int .i64 a1] w fun e w' => e = .returned (.bool r) ∧ Below w.heap.size w w' := by
 have hu31 := underlying31
 have HB := sqh w
 unfold F39.f at H
 obtain ⟨t164, A3, H⟩ := sqD H
 obtain rfl | rfl := sqt t164
 ·rw [if_pos rfl] at H
  obtain ⟨c5b0, H⟩ | ⟨c5b0, H⟩ := sqi3h H
  ·by_cases c6 : a0_0 ≤ a1
   ·rw [if_pos c6] at H
    have c6b0 : decide (a0_0 ≤ a1) = true := decide_eq_true c6
    clear c6
    obtain rfl := sqo H
    go_enter func104, ntmps104
    go_wp2_with (first | ((with_reducible refine sqd 2 rfl ?_); refine sqx0 w (sqB HB) #[.int .i64 a0_0, .int .i64 a0_1] 31 fun g0 w7 B0 E0 HB => ?_; have := sqY2 B0) | ((with_reducible refine sqc 70 rfl ?_); refine sqv (some 6) func70 (F3.c k a0_0 a0_1 true _ A3.1) fun w9 hb => ?_; replace B0 := sqT B0 hb; replace HB := sqS (sqB1 HB E0) hb; have := sqY2 B0))
    go_ret
    exact ⟨Z5, sqB1 HB E0⟩
   rw [if_neg c6] at H
   have c6b0 : decide (a0_0 ≤ a1) = false := decide_eq_false c6
   clear c6
   obtain rfl := sqo H
   go_enter func104, ntmps104
   go_wp2_with (first | ((with_reducible refine sqd 2 rfl ?_); refine sqx0 w (sqB HB) #[.int .i64 a0_0, .int .i64 a0_1] 31 fun g0 w0 B0 E0 HB => ?_; have := sqY2 B0) | ((with_reducible refine sqc 70 rfl ?_); refine sqv (some 6) func70 (F3.c k a0_0 a0_1 true _ A3.1) fun w1 hb => ?_; replace B0 := sqT B0 hb; replace HB := sqS (sqB1 HB E0) hb; have := sqY2 B0))
   go_ret
   exact ⟨Z5, sqB1 HB E0⟩
  obtain rfl := sqo H
  go_enter func104, ntmps104
  go_wp2_with (first | ((with_reducible refine sqd 2 rfl ?_); refine sqx0 w (sqB HB) #[.int .i64 a0_0, .int .i64 a0_1] 31 fun g0 w2 B0 E0 HB => ?_; have := sqY2 B0) | ((with_reducible refine sqc 70 rfl ?_); refine sqv (some 6) func70 (F3.c k a0_0 a0_1 true _ A3.1) fun w3 hb => ?_; replace B0 := sqT B0 hb; replace HB := sqS (sqB1 HB E0) hb; have := sqY2 B0))
  go_ret
  exact ⟨Z5, sqB1 HB E0⟩
 rw [if_neg sqF] at H
 obtain rfl := sqo H
 go_enter func104, ntmps104
 go_wp2_with (first | ((with_reducible refine sqd 2 rfl ?_); refine sqx0 w (sqB HB) #[.int .i64 a0_0, .int .i64 a0_1] 31 fun g0 w4 B0 E0 HB => ?_; have := sqY2 B0) | ((with_reducible refine sqc 70 rfl ?_); refine sqv (some 6) func70 (F3.c k a0_0 a0_1 false _ A3.1) fun w5 hb => ?_; replace B0 := sqT B0 hb; replace HB := sqS (sqB1 HB E0) hb))
 go_ret
 exact ⟨Z5, sqB1 HB E0⟩

-- given: function 84 (strings_Cut)

-- given: function 144 (strconv_Itoa)

end Go.Proofs.YtofmlbgfcohhoaaGreatDoor.PFnDeskSay
