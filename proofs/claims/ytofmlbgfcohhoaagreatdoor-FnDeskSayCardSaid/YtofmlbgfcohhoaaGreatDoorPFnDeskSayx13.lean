import Derived.Test.YtofmlbgfcohhoaaGreatDoorPFnDeskSayx3
set_option maxHeartbeats 8000000
set_option maxRecDepth 100000
namespace Go.Proofs.YtofmlbgfcohhoaaGreatDoor.PFnDeskSay
open Go.RowKit Go.Proofs.YtofmlbgfcohhoaaGreatDoorW.PrintWords Go.Proofs.YtofmlbgfcohhoaaGreatDoorW.PrintLast Go.Proofs.YtofmlbgfcohhoaaGreatDoorW.PrintMore Go.Proofs.YtofmlbgfcohhoaaGreatDoor.Lib Go.Proofs.Tryz
attribute [local go_sem] max2_int min2_int max_two min_two max_three min_three max_four min_four   -- for this text's walks alone
set_option linter.unusedVariables false
set_option linter.unusedSimpArgs false

def F6.j0 : Nat → Int → Int → Bool → Option (Int × Int × Bool)
 | 0, _, _, _ => none
 | k + 1, x0, x1, x2 => if x2 = true then (some (0, 0, false)) else ((F14.f k x0 x1).bind fun t393 => (if x1 < 0 then (if (wrap64 (-t393)) = 0 then (none) else (some (wrap64 (Int.tdiv x0 (wrap64 (-t393))), wrap64 (Int.tdiv x1 (wrap64 (-t393))), true))) else (if x1 = 0 then (if x0 < 0 then (if (wrap64 (-t393)) = 0 then (none) else (some (wrap64 (Int.tdiv x0 (wrap64 (-t393))), wrap64 (Int.tdiv x1 (wrap64 (-t393))), true))) else (if t393 = 0 then (none) else (some (wrap64 (Int.tdiv x0 t393), wrap64 (Int.tdiv x1 t393), true)))) else (if t393 = 0 then (none) else (some (wrap64 (Int.tdiv x0 t393), wrap64 (Int.tdiv x1 t393), true))))))
def F6.f (k : Nat) (a0 : Int) (a1 : Int) : Option (Int × Int × Bool) := (F2.f a0 (-1000000) 1000000).bind fun t0 => (if t0 = true then ((F2.f a1 (-1000000) 1000000).bind fun t1 => (if t1 = true then (if a0 = 0 then (F6.j0 k a0 a1 (a1 == 0)) else (F6.j0 k a0 a1 false)) else (F6.j0 k a0 a1 true))) else (F6.j0 k a0 a1 true))
def F6.T6 : Bool × List (List Nat × List Nat) := (true, [([], []), ([], []), ([0, 1], [0, 1]), ([], []), ([], []), ([3, 4], [3, 4]), ([2, 5], [2, 5]), ([6, 0, 1, 2, 3, 4, 5, 6], [6]), ([7, 0, 1, 2, 3, 4, 5, 6, 7], [])])
def F6.B6 : List Nat := [0, 0, 3, 0, 0, 24, 63, 127, 255]
theorem F6.tab6 : rtab .any (opsOf f136 6) = F6.T6 := by kernel_rfl
theorem F6.bits6 : waitsOk F6.T6.2 F6.B6 = true := by kernel_rfl
theorem F6.c (k : Nat) (a0 : Int) (a1 : Int) (r1 : Int) (r2 : Int) (r3 : Bool) (w : World) (H : F6.f k a0 a1 = some (r1, r2, r3)) :
  Calls prog 136 #[.int .i64 a0, .int .i64 a1] w fun e w' => e = .returned (.tuple #[.agg #[.int .i64 r1, .int .i64 r2], .bool r3]) ∧ Below w.heap.size w w' := by
 have hu31 := underlying31
 have HB := sqh w
 unfold F6.f at H
 have HC3 := sqa H
 clear H
 go_enter func136, ntmps136
 go_upto_region 1 with (first | ((with_reducible refine sqd 4 rfl ?_); refine sqx0 w (sqB HB) #[.int .i64 0, .int .i64 0] 31 fun g0 w4 B0 E0 HB => ?_))
 (try simp only [Act.put, List.setIfInBounds_toArray, List.set_cons_zero, List.set_cons_succ])
 go_cut [22] (fun v0 wc => ∃ (kq : Nat) (x0 : Bool), v0 = .bool x0 ∧ Aside0 (F6.j0 kq a0 a1 x0 = some (r1, r2, r3)) ∧ Aside0 (kq ≤ k) ∧ Aside0 (wc.heap[g0]? = some (.cells #[.int .i64 0, .int .i64 0] 31 (0, 0))) ∧ Aside0 (Below w.heap.size w wc))
 case first =>
  have H := HC3.1
  clear HC3
  obtain ⟨t0, A5, H⟩ := sqD H
  obtain rfl | rfl := sqt t0
  ·rw [if_pos rfl] at H
   obtain ⟨t1, A7, H⟩ := sqD H
   obtain rfl | rfl := sqt t1
   ·rw [if_pos rfl] at H
    obtain ⟨c9b0, c9b1, H⟩ | ⟨c9b0, c9b1, c9, H⟩ := sqi4 H
    ·(first | rw [c9b0] | (simp only [i64_w, i32_w]; rw [c9b0]) | skip)
     have H' := sqa H
     clear H
     go_wp2_with (first | ((with_reducible refine sqc 101 rfl ?_); refine sqvd (some 8) func101 (F2.c a0 (-1000000) 1000000 true _ A5.1) fun nd => ?_) | (go_at_call 101; (with_reducible refine (F2.c a1 (-1000000) 1000000 true _ A7.1).mono ?_); rintro e w' ⟨rfl, ⟨nd, rfl⟩⟩))
     go_meet
     case rel => exact ⟨_, ((a1 == 0)), Z1, H', ⟨Z11⟩, ⟨sqK B0⟩, ⟨sqB1 HB E0⟩⟩
    (first | rw [c9b0] | (simp only [i64_w, i32_w]; rw [c9b0]) | skip)
    have H' := sqa H
    clear H
    go_wp2_with (first | ((with_reducible refine sqc 101 rfl ?_); refine sqvd (some 8) func101 (F2.c a0 (-1000000) 1000000 true _ A5.1) fun nd => ?_) | (go_at_call 101; (with_reducible refine (F2.c a1 (-1000000) 1000000 true _ A7.1).mono ?_); rintro e w' ⟨rfl, ⟨nd, rfl⟩⟩))
    go_meet
    case rel => exact ⟨_, (false), Z1, H', ⟨Z11⟩, ⟨sqK B0⟩, ⟨sqB1 HB E0⟩⟩
   rw [if_neg sqF] at H
   have H' := sqa H
   clear H
   go_wp2_with (first | ((with_reducible refine sqc 101 rfl ?_); refine sqvd (some 8) func101 (F2.c a0 (-1000000) 1000000 true _ A5.1) fun nd => ?_) | (go_at_call 101; (with_reducible refine (F2.c a1 (-1000000) 1000000 false _ A7.1).mono ?_); rintro e w' ⟨rfl, ⟨nd, rfl⟩⟩))
   go_meet
   case rel => exact ⟨_, (true), Z1, H', ⟨Z11⟩, ⟨sqK B0⟩, ⟨sqB1 HB E0⟩⟩
  rw [if_neg sqF] at H
  have H' := sqa H
  clear H
  go_wp2_with (first | ((with_reducible refine sqc 101 rfl ?_); refine sqvd (some 8) func101 (F2.c a0 (-1000000) 1000000 false _ A5.1) fun nd => ?_))
  go_meet
  case rel => exact ⟨_, (true), Z1, H', ⟨Z11⟩, ⟨sqK B0⟩, ⟨sqB1 HB E0⟩⟩
 case rest =>
  clear HC3
  obtain ⟨kq, x0, rfl, HA, HJ2, B0, HB⟩ := hcut
  cases kq with
  | zero => exact absurd HA.out (by simp [F6.j0])
  | succ kj2 =>
   have H := HA.out
   clear HA
   simp only [F6.j0] at H
   obtain rfl | rfl := sqt x0
   ·rw [if_pos rfl] at H
    obtain ⟨rfl, rfl, rfl⟩ := sqO3 H
    have := sqY2 B0
    go_wp2
    refine sqE g0 31 #[.int .i64 0, .int .i64 0] (Z12 B0) underlying31 ?_
    exact ⟨Z5, sqB1 HB E0⟩
   rw [if_neg sqF] at H
   obtain ⟨t393, A0, H⟩ := sqD H
   obtain ⟨c1, H⟩ | ⟨c1, H⟩ := sqi3 H
   ·by_cases c2 : (wrap64 (-t393)) = 0
    ·rw [if_pos c2] at H
     exact absurd H (by simp)
    rw [if_neg c2] at H
    have c3 := sqe0 c2
    have c4 := sqn1 c2
    obtain ⟨rfl, rfl, rfl⟩ := sqO3 H
    try go_wp2_with (first | ((with_reducible refine sqc 121 rfl ?_); refine sqv (some 26) func121 (F14.c kj2 a0 a1 t393 _ A0.1) fun w0 hb => ?_; replace B0 := sqT B0 hb; replace HB := sqS (sqB1 HB E0) hb))
    replace B0 := sqa (blk_drew B0.1)
    replace HB := sqa (below_drew1 HB.1)
    refine start_ (n := 9) (S := fun w' => True) (ds := []) #[false, false, false, false, false, false, false, false, false] (by kernel_rfl) rfl rfl trivial (fun hHeld => ?_); refine with_tabW F6.tab6 F6.bits6 (fun HT_ HW_ => ?_)
    generalize w0.drew = w2 at B0 HB hHeld ⊢
    refine sqP 0 (some 39) (h := ?_)
    refine sqP 1 (some 40) (h := ?_)
    refine sqP 2 (some 41) (h := ?_)
    refine sqP 3 (some 42) (h := ?_)
    refine sqP 4 (some 43) (h := ?_)
    refine sqP 5 (some 44) (h := ?_)
    refine sqP 6 (some 45) (h := ?_)
    refine sq1 7 none (h := fun K hK => ?_)
    have := sqY2 B0
    refine skip_ (w1 := ?_) (by rfl) rfl ?_ ?_
    rotate_left
    ·go_simp
     rfl
    refine hK.out _ _ trivial (fun hHeld => ?_)
    clear hK K
    refine sqP 8 (some 5) (h := ?_)
    refine done_ (done_of HT_.out (by kernel_rfl)) ?_
    try go_wp2
    refine sqE g0 31 #[.int .i64 (wrap64 (Int.tdiv a0 (wrap64 (-t393)))), .int .i64 (wrap64 (Int.tdiv a1 (wrap64 (-t393))))] (Z13 B0) underlying31 ?_
    exact ⟨Z5, sqB1 HB E0⟩
   obtain ⟨c7, c11, H⟩ | ⟨c7, c11, c5, H⟩ := sqi4 H
   ·by_cases c20 : a0 < 0
    ·rw [if_pos c20] at H
     have c12 : decide (a0 < 0) = true := decide_eq_true c20
     clear c20
     obtain ⟨c21, H⟩ | ⟨c21, H⟩ := sqi2 H
     ·exact absurd H (by simp)
     have c15 := sqe0 c21
     have c16 := sqn1 c21
     obtain ⟨rfl, rfl, rfl⟩ := sqO3 H
     try go_wp2_with (first | ((with_reducible refine sqc 121 rfl ?_); refine sqv (some 26) func121 (F14.c kj2 a0 a1 t393 _ A0.1) fun w3 hb => ?_; replace B0 := sqT B0 hb; replace HB := sqS (sqB1 HB E0) hb))
     replace B0 := sqa (blk_drew B0.1)
     replace HB := sqa (below_drew1 HB.1)
     refine start_ (n := 9) (S := fun w' => True) (ds := []) #[false, false, false, false, false, false, false, false, false] (by kernel_rfl) rfl rfl trivial (fun hHeld => ?_); refine with_tabW F6.tab6 F6.bits6 (fun HT_ HW_ => ?_)
     generalize w3.drew = w5 at B0 HB hHeld ⊢
     refine sqP 0 (some 39) (h := ?_)
     refine sqP 1 (some 40) (h := ?_)
     refine sqP 2 (some 41) (h := ?_)
     refine sqP 3 (some 42) (h := ?_)
     refine sqP 4 (some 43) (h := ?_)
     refine sqP 5 (some 44) (h := ?_)
     refine sqP 6 (some 45) (h := ?_)
     refine sq1 7 none (h := fun K hK => ?_)
     have := sqY2 B0
     refine skip_ (w1 := ?_) (by rfl) rfl ?_ ?_
     rotate_left
     ·go_simp
      rfl
     refine hK.out _ _ trivial (fun hHeld => ?_)
     clear hK K
     refine sqP 8 (some 5) (h := ?_)
     refine done_ (done_of HT_.out (by kernel_rfl)) ?_
     try go_wp2
     refine sqE g0 31 #[.int .i64 (wrap64 (Int.tdiv a0 (wrap64 (-t393)))), .int .i64 (wrap64 (Int.tdiv a1 (wrap64 (-t393))))] (Z13 B0) underlying31 ?_
     exact ⟨Z5, sqB1 HB E0⟩
    rw [if_neg c20] at H
    have c12 : decide (a0 < 0) = false := decide_eq_false c20
    clear c20
    obtain ⟨c26, H⟩ | ⟨c26, H⟩ := sqi2 H
    ·exact absurd H (by simp)
    have c18 := sqe0 c26
    have c22 := sqn1 c26
    obtain ⟨rfl, rfl, rfl⟩ := sqO3 H
    try go_wp2_with (first | ((with_reducible refine sqc 121 rfl ?_); refine sqv (some 26) func121 (F14.c kj2 a0 a1 t393 _ A0.1) fun w6 hb => ?_; replace B0 := sqT B0 hb; replace HB := sqS (sqB1 HB E0) hb))
    replace B0 := sqa (blk_drew B0.1)
    replace HB := sqa (below_drew1 HB.1)
    refine start_ (n := 9) (S := fun w' => True) (ds := []) #[false, false, false, false, false, false, false, false, false] (by kernel_rfl) rfl rfl trivial (fun hHeld => ?_); refine with_tabW F6.tab6 F6.bits6 (fun HT_ HW_ => ?_)
    generalize w6.drew = w7 at B0 HB hHeld ⊢
    refine sqP 0 (some 39) (h := ?_)
    refine sqP 1 (some 40) (h := ?_)
    refine sqP 2 (some 41) (h := ?_)
    refine sqP 3 (some 42) (h := ?_)
    refine sqP 4 (some 43) (h := ?_)
    refine sqP 5 (some 44) (h := ?_)
    refine sqP 6 (some 45) (h := ?_)
    refine sq1 7 none (h := fun K hK => ?_)
    have := sqY2 B0
    refine skip_ (w1 := ?_) (by rfl) rfl ?_ ?_
    rotate_left
    ·go_simp
     rfl
    refine hK.out _ _ trivial (fun hHeld => ?_)
    clear hK K
    refine sqP 8 (some 5) (h := ?_)
    refine done_ (done_of HT_.out (by kernel_rfl)) ?_
    try go_wp2
    refine sqE g0 31 #[.int .i64 (wrap64 (Int.tdiv a0 t393)), .int .i64 (wrap64 (Int.tdiv a1 t393))] (Z14 B0) underlying31 ?_
    exact ⟨Z5, sqB1 HB E0⟩
   obtain ⟨c31, H⟩ | ⟨c31, H⟩ := sqi2 H
   ·exact absurd H (by simp)
   have c24 := sqe0 c31
   have c25 := sqn1 c31
   obtain ⟨rfl, rfl, rfl⟩ := sqO3 H
   try go_wp2_with (first | ((with_reducible refine sqc 121 rfl ?_); refine sqv (some 26) func121 (F14.c kj2 a0 a1 t393 _ A0.1) fun w8 hb => ?_; replace B0 := sqT B0 hb; replace HB := sqS (sqB1 HB E0) hb))
   replace B0 := sqa (blk_drew B0.1)
   replace HB := sqa (below_drew1 HB.1)
   refine start_ (n := 9) (S := fun w' => True) (ds := []) #[false, false, false, false, false, false, false, false, false] (by kernel_rfl) rfl rfl trivial (fun hHeld => ?_); refine with_tabW F6.tab6 F6.bits6 (fun HT_ HW_ => ?_)
   generalize w8.drew = w9 at B0 HB hHeld ⊢
   refine sqP 0 (some 39) (h := ?_)
   refine sqP 1 (some 40) (h := ?_)
   refine sqP 2 (some 41) (h := ?_)
   refine sqP 3 (some 42) (h := ?_)
   refine sqP 4 (some 43) (h := ?_)
   refine sqP 5 (some 44) (h := ?_)
   refine sqP 6 (some 45) (h := ?_)
   refine sq1 7 none (h := fun K hK => ?_)
   have := sqY2 B0
   refine skip_ (w1 := ?_) (by rfl) rfl ?_ ?_
   rotate_left
   ·go_simp
    rfl
   refine hK.out _ _ trivial (fun hHeld => ?_)
   clear hK K
   refine sqP 8 (some 5) (h := ?_)
   refine done_ (done_of HT_.out (by kernel_rfl)) ?_
   try go_wp2
   refine sqE g0 31 #[.int .i64 (wrap64 (Int.tdiv a0 t393)), .int .i64 (wrap64 (Int.tdiv a1 t393))] (Z14 B0) underlying31 ?_
   exact ⟨Z5, sqB1 HB E0⟩

def F64.f (k : Nat) (a0_0 : Int) (a0_1 : Int) : Option (Int × Int) := (F0.f k a0_0 a0_1).bind fun t0 => (if t0 = true then ((F6.f k (wrap64 (-a0_1)) a0_0).bind fun bt0 => (some (bt0.1, bt0.2.1))) else (some (0, 0)))
theorem F64.c (k : Nat) (a0_0 : Int) (a0_1 : Int) (r1 : Int) (r2 : Int) (w : World) (H : F64.f k a0_0 a0_1 = some (r1, r2)) :
  Calls prog 128 #[.agg #[.int .i64 a0_0, .int .i64 a0_1]] w fun e w' => e = .returned (.agg #[.int .i64 r1, .int .i64 r2]) ∧ Below w.heap.size w w' := by
 have hu31 := underlying31
 have HB := sqh w
 unfold F64.f at H
 obtain ⟨t0, A2, H⟩ := sqD H
 obtain rfl | rfl := sqt t0
 ·rw [if_pos rfl] at H
  obtain ⟨⟨t1, t2, t3⟩, A4, H⟩ := sqD H
  try dsimp only at H
  obtain ⟨rfl, rfl⟩ := sqO2 H
  go_enter func128, ntmps128
  go_wp2_with (first | ((with_reducible refine sqd 1 rfl ?_); refine sqx0 w (sqB HB) #[.int .i64 a0_0, .int .i64 a0_1] 31 fun g0 w5 B0 E0 HB => ?_) | ((with_reducible refine sqd 2 rfl ?_); refine sqx1 w (sqB1 HB E0) #[.int .i64 0, .int .i64 0] 31 B0 fun g1 w6 B2 E1 HB N0 N1 B0 => ?_; have := sqn2 N0 N1; have := sqY2 B0) | ((with_reducible refine sqc 77 rfl ?_); refine sqv (some 6) func77 (F0.c k a0_0 a0_1 true _ A2.1) fun w9 hb => ?_; obtain ⟨B0, B2⟩ := sqT2 hb B0 B2; replace HB := sqS (sqB2 HB E0 E1) hb; have := sqY2 B0) | ((with_reducible refine sqc 136 rfl ?_); refine sqv (some 15) func136 (F6.c k (wrap64 (-a0_1)) a0_0 t1 t2 t3 _ A4.1) fun w0 hb => ?_; obtain ⟨B0, B2⟩ := sqT2 hb B0 B2; replace HB := sqS (sqB2 HB E0 E1) hb) | ((with_reducible refine sqd 3 rfl ?_); refine sqx w (sqB2 HB E0 E1) #[.int .i64 0, .int .i64 0] 31 fun g2 hg w1 B9 E2 HB hb => ?_; obtain ⟨N2, N3⟩ := sqM hg B0; replace B0 := sqT B0 hb; obtain ⟨N4, N5⟩ := sqM hg B2; replace B2 := sqT B2 hb; clear hb hg; have := sqn4 N3 N2 N5 N4; have := sqY2 B9; have := sqY2 B2))
  refine sqEr g1 31 #[.int .i64 t1, .int .i64 t2] (by refine sqPut (cs := #[.int .i64 t1, .int .i64 0]) ?_ 1; refine sqPut (cs := #[.int .i64 0, .int .i64 0]) ?_ 0; refine sqFar ?_ N4; refine sqFar ?_ N4; exact sqK B2) underlying31 ?_
  exact ⟨Z5, sqB3 HB E0 E1 E2⟩
 rw [if_neg sqF] at H
 obtain ⟨rfl, rfl⟩ := sqO2 H
 go_enter func128, ntmps128
 go_wp2_with (first | ((with_reducible refine sqd 1 rfl ?_); refine sqx0 w (sqB HB) #[.int .i64 a0_0, .int .i64 a0_1] 31 fun g0 w2 B0 E0 HB => ?_) | ((with_reducible refine sqd 2 rfl ?_); refine sqx1 w (sqB1 HB E0) #[.int .i64 0, .int .i64 0] 31 B0 fun g1 w3 B2 E1 HB N0 N1 B0 => ?_; have := sqn2 N0 N1; have := sqY2 B0) | ((with_reducible refine sqc 77 rfl ?_); refine sqv (some 6) func77 (F0.c k a0_0 a0_1 false _ A2.1) fun w4 hb => ?_; obtain ⟨B0, B2⟩ := sqT2 hb B0 B2; replace HB := sqS (sqB2 HB E0 E1) hb; have := sqY2 B2))
 refine sqEr g1 31 #[.int .i64 0, .int .i64 0] (Z12 B2) underlying31 ?_
 exact ⟨Z5, sqB2 HB E0 E1⟩

end Go.Proofs.YtofmlbgfcohhoaaGreatDoor.PFnDeskSay
