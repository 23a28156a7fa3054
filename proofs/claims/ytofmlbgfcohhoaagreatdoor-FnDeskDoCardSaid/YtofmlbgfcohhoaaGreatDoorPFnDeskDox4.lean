/- Lean functions of the Go functions that the law FnDeskDo reaches, each with its contract: made by a program of this session. -/
import Derived.Test.YtofmlbgfcohhoaaGreatDoorPFnDeskDox3
namespace Go.Proofs.YtofmlbgfcohhoaaGreatDoor.PFnDeskDo
open Go.RowKit Go.Proofs.YtofmlbgfcohhoaaGreatDoorW.PrintWords Go.Proofs.YtofmlbgfcohhoaaGreatDoorW.PrintLast Go.Proofs.YtofmlbgfcohhoaaGreatDoorW.PrintMore Go.Proofs.YtofmlbgfcohhoaaGreatDoor.Lib
attribute [local go_sem] max2_int min2_int max_two min_two max_three min_three max_four min_four   -- for this text's walks alone
set_option linter.unusedVariables false
set_option linter.unusedSimpArgs false

/-! ### spec_LowestOf: function 136 -/
def spec_LowestOf.j0 : Nat → Int → Int → Bool → Option (Int × Int × Bool)
 | 0, _, _, _ => none
 | k + 1, x0, x1, x22 => if x22 = true then (some (0, 0, false)) else ((spec_l1Common.f k x0 x1).bind fun t126 => (if x1 < 0 then (if (wrap64 (-t126)) = 0 then (none) else (some (wrap64 (Int.tdiv x0 (wrap64 (-t126))), wrap64 (Int.tdiv x1 (wrap64 (-t126))), true))) else (if x1 = 0 then (if x0 < 0 then (if (wrap64 (-t126)) = 0 then (none) else (some (wrap64 (Int.tdiv x0 (wrap64 (-t126))), wrap64 (Int.tdiv x1 (wrap64 (-t126))), true))) else (if t126 = 0 then (none) else (some (wrap64 (Int.tdiv x0 t126), wrap64 (Int.tdiv x1 t126), true)))) else (if t126 = 0 then (none) else (some (wrap64 (Int.tdiv x0 t126), wrap64 (Int.tdiv x1 t126), true))))))
def spec_LowestOf.f (k : Nat) (a0 : Int) (a1 : Int) : Option (Int × Int × Bool) := (spec_l1In.f a0 (-1000000) 1000000).bind fun t124 => (if t124 = true then ((spec_l1In.f a1 (-1000000) 1000000).bind fun t125 => (if t125 = true then (if a0 = 0 then (spec_LowestOf.j0 k a0 a1 (a1 == 0)) else (spec_LowestOf.j0 k a0 a1 false)) else (spec_LowestOf.j0 k a0 a1 true))) else (spec_LowestOf.j0 k a0 a1 true))
theorem spec_LowestOf.mono_l : ∀ k, (∀ y0 y1 y2, LeO (spec_LowestOf.j0 k y0 y1 y2) (spec_LowestOf.j0 (k + 1) y0 y1 y2))
 | 0 => fun _ _ _ r h => by simp [spec_LowestOf.j0] at h
 | k + 1 => by
  have ih0 := spec_LowestOf.mono_l k
  ·intro y0 y1 y2
   unfold spec_LowestOf.j0
   repeat' first
   | (with_reducible exact ih0 _ _ _)
   | (with_reducible exact spec_l1Common.mono _ _ _)
   | (with_reducible exact LeO.refl _)
   | (with_reducible exact LeO.none _)
   | (with_reducible refine LeO.ite ?_ ?_)
   | (with_reducible refine LeO.bind ?_ (fun _ => ?_))
theorem spec_LowestOf.mono : ∀ a0 a1 k, LeO (spec_LowestOf.f k a0 a1) (spec_LowestOf.f (k + 1) a0 a1) := by
 intro a0 a1 k
 have ih0 := spec_LowestOf.mono_l k
 unfold spec_LowestOf.f
 repeat' first
   | (with_reducible exact ih0 _ _ _)
   | (with_reducible exact spec_l1Common.mono _ _ _)
   | (with_reducible exact LeO.refl _)
   | (with_reducible exact LeO.none _)
   | (with_reducible refine LeO.ite ?_ ?_)
   | (with_reducible refine LeO.bind ?_ (fun _ => ?_))
def spec_LowestOf.T6 : Bool × List (List Nat × List Nat) := (true, [([], []), ([], []), ([0, 1], [0, 1]), ([], []), ([], []), ([3, 4], [3, 4]), ([2, 5], [2, 5]), ([6, 0, 1, 2, 3, 4, 5, 6], [6]), ([7, 0, 1, 2, 3, 4, 5, 6, 7], [])])
def spec_LowestOf.B6 : List Nat := [0, 0, 3, 0, 0, 24, 63, 127, 255]
theorem spec_LowestOf.tab6 : rtab .any (opsOf Tryz.f136 6) = spec_LowestOf.T6 := by kernel_rfl
theorem spec_LowestOf.bits6 : waitsOk spec_LowestOf.T6.2 spec_LowestOf.B6 = true := by kernel_rfl
set_option maxHeartbeats 8000000 in
set_option maxRecDepth 100000 in
theorem spec_LowestOf.calls (k : Nat) (a0 : Int) (a1 : Int) (r1 : Int) (r2 : Int) (r3 : Bool) (w : World) (h : spec_LowestOf.f k a0 a1 = some (r1, r2, r3)) :
  Calls Tryz.prog 136 #[.int .i64 a0, .int .i64 a1] w fun e w' => e = .returned (.tuple #[.agg #[.int .i64 r1, .int .i64 r2], .bool r3]) ∧ Below w.heap.size w w' := by
 have hu31 := Tryz.underlying31
 have HB := Aside0.mk (Below.refl w.heap.size w)
 have H : ((spec_l1In.f a0 (-1000000) 1000000).bind fun t124 => (if t124 = true then ((spec_l1In.f a1 (-1000000) 1000000).bind fun t125 => (if t125 = true then (if a0 = 0 then (spec_LowestOf.j0 k a0 a1 (a1 == 0)) else (spec_LowestOf.j0 k a0 a1 false)) else (spec_LowestOf.j0 k a0 a1 true))) else (spec_LowestOf.j0 k a0 a1 true))) = some (r1, r2, r3) := h
 clear h
 have HC3 := Aside0.mk H
 clear H
 go_enter Tryz.func136, Tryz.ntmps136
 go_upto_region 1 with (first | ((with_reducible refine gate_dst (N := 4) rfl ?_); refine sqBox (N := 4) (cs := #[.int .i64 0, .int .i64 0]) (t := 31) ?_; intro gb123 hg w4 BK123 hb; have GW123 := Aside0.mk ((sqG hg (sqB HB))); have GE123 := GW123; replace HB := sqS (sqB HB) hb; clear hb hg))
 (try simp only [Act.put, List.setIfInBounds_toArray, List.set_cons_zero, List.set_cons_succ])
 go_cut [22] (fun v22 wc => ∃ (kq : Nat) (x22_2 : Bool), v22 = .bool x22_2 ∧ Aside0 (spec_LowestOf.j0 kq a0 a1 x22_2 = some (r1, r2, r3)) ∧ Aside0 (kq ≤ k) ∧ Aside0 (wc.heap[gb123]? = some (.cells #[.int .i64 0, .int .i64 0] 31 (0, 0))) ∧ Aside0 (Below w.heap.size w wc))
 case first =>
  have H := HC3.out
  clear HC3
  obtain ⟨t124, A5, H⟩ := sqD H
  by_cases c6 : t124 = true
  ·subst c6
   rw [if_pos rfl] at H
   obtain ⟨t125, A7, H⟩ := sqD H
   by_cases c8 : t125 = true
   ·subst c8
    rw [if_pos rfl] at H
    by_cases c9 : a0 = 0
    ·rw [if_pos c9] at H
     have c9b0 : (a0 == 0) = true := beq_iff_eq.mpr c9
     have c9b1 : (a0 != 0) = false := bne_eq_false_iff_eq.mpr c9
     clear c9
     (first | rw [c9b0] | (simp only [i64_w, i32_w]; rw [c9b0]) | skip)
     have H' := Aside0.mk H
     clear H
     go_wp2_with (first | ((with_reducible refine gate_callee (f := 101) rfl ?_); refine goesL_ (some 8) rfl rfl Tryz.func101 (by kernel_rfl) rfl #[.int .i64 a0, .int .i64 (-1000000), .int .i64 1000000] rfl sqA ?_; (with_reducible refine (spec_l1In.calls a0 (-1000000) 1000000 true _ A5.out).mono ?_); rintro e w' ⟨rfl, ⟨nd, rfl⟩⟩; refine ⟨_, rfl, ?_⟩) | (go_at_call 101; (with_reducible refine (spec_l1In.calls a1 (-1000000) 1000000 true _ A7.out).mono ?_); rintro e w' ⟨rfl, ⟨nd, rfl⟩⟩))
     go_meet
     case rel => exact ⟨_, ((a1 == 0)), Z1, H', ⟨Z16⟩, ⟨sqK BK123⟩, ⟨sqB1 HB GE123⟩⟩
    ·rw [if_neg c9] at H
     have c9b0 : (a0 == 0) = false := beq_eq_false_iff_ne.mpr c9
     have c9b1 : (a0 != 0) = true := bne_iff_ne.mpr c9
     (first | rw [c9b0] | (simp only [i64_w, i32_w]; rw [c9b0]) | skip)
     have H' := Aside0.mk H
     clear H
     go_wp2_with (first | ((with_reducible refine gate_callee (f := 101) rfl ?_); refine goesL_ (some 8) rfl rfl Tryz.func101 (by kernel_rfl) rfl #[.int .i64 a0, .int .i64 (-1000000), .int .i64 1000000] rfl sqA ?_; (with_reducible refine (spec_l1In.calls a0 (-1000000) 1000000 true _ A5.out).mono ?_); rintro e w' ⟨rfl, ⟨nd, rfl⟩⟩; refine ⟨_, rfl, ?_⟩) | (go_at_call 101; (with_reducible refine (spec_l1In.calls a1 (-1000000) 1000000 true _ A7.out).mono ?_); rintro e w' ⟨rfl, ⟨nd, rfl⟩⟩))
     go_meet
     case rel => exact ⟨_, (false), Z1, H', ⟨Z16⟩, ⟨sqK BK123⟩, ⟨sqB1 HB GE123⟩⟩
   ·replace c8 := Bool.eq_false_iff.mpr c8
    subst c8
    rw [if_neg sqF] at H
    have H' := Aside0.mk H
    clear H
    go_wp2_with (first | ((with_reducible refine gate_callee (f := 101) rfl ?_); refine goesL_ (some 8) rfl rfl Tryz.func101 (by kernel_rfl) rfl #[.int .i64 a0, .int .i64 (-1000000), .int .i64 1000000] rfl sqA ?_; (with_reducible refine (spec_l1In.calls a0 (-1000000) 1000000 true _ A5.out).mono ?_); rintro e w' ⟨rfl, ⟨nd, rfl⟩⟩; refine ⟨_, rfl, ?_⟩) | (go_at_call 101; (with_reducible refine (spec_l1In.calls a1 (-1000000) 1000000 false _ A7.out).mono ?_); rintro e w' ⟨rfl, ⟨nd, rfl⟩⟩))
    go_meet
    case rel => exact ⟨_, (true), Z1, H', ⟨Z16⟩, ⟨sqK BK123⟩, ⟨sqB1 HB GE123⟩⟩
  ·replace c6 := Bool.eq_false_iff.mpr c6
   subst c6
   rw [if_neg sqF] at H
   have H' := Aside0.mk H
   clear H
   go_wp2_with (first | ((with_reducible refine gate_callee (f := 101) rfl ?_); refine goesL_ (some 8) rfl rfl Tryz.func101 (by kernel_rfl) rfl #[.int .i64 a0, .int .i64 (-1000000), .int .i64 1000000] rfl sqA ?_; (with_reducible refine (spec_l1In.calls a0 (-1000000) 1000000 false _ A5.out).mono ?_); rintro e w' ⟨rfl, ⟨nd, rfl⟩⟩; refine ⟨_, rfl, ?_⟩))
   go_meet
   case rel => exact ⟨_, (true), Z1, H', ⟨Z16⟩, ⟨sqK BK123⟩, ⟨sqB1 HB GE123⟩⟩
 case rest =>
  clear HC3
  try clear c1; try clear p2; try clear c6; try clear c8; try clear c9; try clear c9b0; try clear c9b1
  obtain ⟨kq, x22_2, rfl, HA, HJ2, BK123, HB⟩ := hcut
  cases kq with
  | zero => exact absurd HA.out (by simp [spec_LowestOf.j0])
  | succ kj2 =>
   have H := HA.out
   clear HA
   simp only [spec_LowestOf.j0] at H
   by_cases c10 : x22_2 = true
   ·subst c10
    rw [if_pos rfl] at H
    obtain ⟨rfl, rfl, rfl⟩ := sqO3 H
    obtain ⟨hcz11_0, hcz11_1, hfz11_0, hfz11_1⟩ := sqY2 BK123
    go_wp2
    refine bodyPost_ret (results_ct rfl _ _ gb123 31 #[.int .i64 0, .int .i64 0] (0, 0) _ rfl (Z11 BK123) Tryz.underlying31 rfl (by kernel_rfl)) rfl ?_
    exact ⟨Z3, sqB1 HB GE123⟩
   ·replace c10 := Bool.eq_false_iff.mpr c10
    subst c10
    rw [if_neg sqF] at H
    obtain ⟨t126, A12, H⟩ := sqD H
    by_cases c13 : a1 < 0
    ·rw [if_pos c13] at H
     have c13b0 : decide (a1 < 0) = true := decide_eq_true c13
     clear c13
     by_cases c14 : (wrap64 (-t126)) = 0
     ·rw [if_pos c14] at H
      exact absurd H (by simp)
     ·rw [if_neg c14] at H
      have c14b0 : ((wrap64 (-t126)) == 0) = false := beq_eq_false_iff_ne.mpr c14
      have c14b1 : ((wrap64 (-t126)) != 0) = true := bne_iff_ne.mpr c14
      obtain ⟨rfl, rfl, rfl⟩ := sqO3 H
      try go_wp2_with (first | ((with_reducible refine gate_callee (f := 121) rfl ?_); refine goesL_ (some 26) rfl rfl Tryz.func121 (by kernel_rfl) rfl #[.int .i64 a0, .int .i64 a1] rfl sqA ?_; (with_reducible refine (spec_l1Common.calls kj2 a0 a1 t126 _ A12.out).mono ?_); rintro e w15 ⟨rfl, hb⟩; refine ⟨_, rfl, ?_⟩; replace BK123 := sqT BK123 hb; replace HB := sqS (sqB1 HB GE123) hb; (try clear hb)))
      replace BK123 := Aside0.mk (blk_drew BK123.out)
      replace HB := Aside0.mk (below_drew1 HB.out)
      refine start_ (n := 9) (S := fun w' => True) (ds := []) #[false, false, false, false, false, false, false, false, false] (by kernel_rfl) rfl rfl trivial (fun hHeld => ?_); refine with_tabW spec_LowestOf.tab6 spec_LowestOf.bits6 (fun HT_ HW_ => ?_)
      generalize w15.drew = w16 at BK123 HB hHeld ⊢
      refine sqP (i := 0) (N := some 39) (h := ?_)
      refine sqP (i := 1) (N := some 40) (h := ?_)
      refine sqP (i := 2) (N := some 41) (h := ?_)
      refine sqP (i := 3) (N := some 42) (h := ?_)
      refine sqP (i := 4) (N := some 43) (h := ?_)
      refine sqP (i := 5) (N := some 44) (h := ?_)
      refine sqP (i := 6) (N := some 45) (h := ?_)
      refine one_ (i := 7) (N := none) #[true, true, true, true, true, true, true, true, false] rfl rfl (one_of HT_.out (by kernel_rfl)) (by decide) (fun K hK => ?_)
      have hs17 : w16.cell? ⟨gb123, 0, none⟩ = some (.int .i64 0) := (blk_cell BK123.out 0).trans rfl
      have hfs17 := blk_frozen BK123.out 0
      have hs18 : w16.cell? ⟨gb123, 1, none⟩ = some (.int .i64 0) := (blk_cell BK123.out 1).trans rfl
      have hfs18 := blk_frozen BK123.out 1
      refine skip_ (w1 := ?_) (by rfl) rfl ?_ ?_
      rotate_left
      ·go_simp
       rfl
      refine hK.out _ _ trivial (fun hHeld => ?_)
      clear hK K
      refine sqP (i := 8) (N := some 5) (h := ?_)
      refine done_ (done_of HT_.out (by kernel_rfl)) ?_
      try go_wp2
      refine bodyPost_ret (results_ct rfl _ _ gb123 31 #[.int .i64 (wrap64 (Int.tdiv a0 (wrap64 (-t126)))), .int .i64 (wrap64 (Int.tdiv a1 (wrap64 (-t126))))] (0, 0) _ rfl (Z60 BK123) Tryz.underlying31 rfl (by kernel_rfl)) rfl ?_
      exact ⟨Z3, sqB1 HB GE123⟩
    ·rw [if_neg c13] at H
     have c13b0 : decide (a1 < 0) = false := decide_eq_false c13
     clear c13
     by_cases c19 : a1 = 0
     ·rw [if_pos c19] at H
      have c19b0 : (a1 == 0) = true := beq_iff_eq.mpr c19
      have c19b1 : (a1 != 0) = false := bne_eq_false_iff_eq.mpr c19
      clear c19
      by_cases c20 : a0 < 0
      ·rw [if_pos c20] at H
       have c20b0 : decide (a0 < 0) = true := decide_eq_true c20
       clear c20
       by_cases c21 : (wrap64 (-t126)) = 0
       ·rw [if_pos c21] at H
        exact absurd H (by simp)
       ·rw [if_neg c21] at H
        have c21b0 : ((wrap64 (-t126)) == 0) = false := beq_eq_false_iff_ne.mpr c21
        have c21b1 : ((wrap64 (-t126)) != 0) = true := bne_iff_ne.mpr c21
        obtain ⟨rfl, rfl, rfl⟩ := sqO3 H
        try go_wp2_with (first | ((with_reducible refine gate_callee (f := 121) rfl ?_); refine goesL_ (some 26) rfl rfl Tryz.func121 (by kernel_rfl) rfl #[.int .i64 a0, .int .i64 a1] rfl sqA ?_; (with_reducible refine (spec_l1Common.calls kj2 a0 a1 t126 _ A12.out).mono ?_); rintro e w22 ⟨rfl, hb⟩; refine ⟨_, rfl, ?_⟩; replace BK123 := sqT BK123 hb; replace HB := sqS (sqB1 HB GE123) hb; (try clear hb)))
        replace BK123 := Aside0.mk (blk_drew BK123.out)
        replace HB := Aside0.mk (below_drew1 HB.out)
        refine start_ (n := 9) (S := fun w' => True) (ds := []) #[false, false, false, false, false, false, false, false, false] (by kernel_rfl) rfl rfl trivial (fun hHeld => ?_); refine with_tabW spec_LowestOf.tab6 spec_LowestOf.bits6 (fun HT_ HW_ => ?_)
        generalize w22.drew = w23 at BK123 HB hHeld ⊢
        refine sqP (i := 0) (N := some 39) (h := ?_)
        refine sqP (i := 1) (N := some 40) (h := ?_)
        refine sqP (i := 2) (N := some 41) (h := ?_)
        refine sqP (i := 3) (N := some 42) (h := ?_)
        refine sqP (i := 4) (N := some 43) (h := ?_)
        refine sqP (i := 5) (N := some 44) (h := ?_)
        refine sqP (i := 6) (N := some 45) (h := ?_)
        refine one_ (i := 7) (N := none) #[true, true, true, true, true, true, true, true, false] rfl rfl (one_of HT_.out (by kernel_rfl)) (by decide) (fun K hK => ?_)
        have hs24 : w23.cell? ⟨gb123, 0, none⟩ = some (.int .i64 0) := (blk_cell BK123.out 0).trans rfl
        have hfs24 := blk_frozen BK123.out 0
        have hs25 : w23.cell? ⟨gb123, 1, none⟩ = some (.int .i64 0) := (blk_cell BK123.out 1).trans rfl
        have hfs25 := blk_frozen BK123.out 1
        refine skip_ (w1 := ?_) (by rfl) rfl ?_ ?_
        rotate_left
        ·go_simp
         rfl
        refine hK.out _ _ trivial (fun hHeld => ?_)
        clear hK K
        refine sqP (i := 8) (N := some 5) (h := ?_)
        refine done_ (done_of HT_.out (by kernel_rfl)) ?_
        try go_wp2
        refine bodyPost_ret (results_ct rfl _ _ gb123 31 #[.int .i64 (wrap64 (Int.tdiv a0 (wrap64 (-t126)))), .int .i64 (wrap64 (Int.tdiv a1 (wrap64 (-t126))))] (0, 0) _ rfl (Z60 BK123) Tryz.underlying31 rfl (by kernel_rfl)) rfl ?_
        exact ⟨Z3, sqB1 HB GE123⟩
      ·rw [if_neg c20] at H
       have c20b0 : decide (a0 < 0) = false := decide_eq_false c20
       clear c20
       by_cases c26 : t126 = 0
       ·rw [if_pos c26] at H
        exact absurd H (by simp)
       ·rw [if_neg c26] at H
        have c26b0 : (t126 == 0) = false := beq_eq_false_iff_ne.mpr c26
        have c26b1 : (t126 != 0) = true := bne_iff_ne.mpr c26
        obtain ⟨rfl, rfl, rfl⟩ := sqO3 H
        try go_wp2_with (first | ((with_reducible refine gate_callee (f := 121) rfl ?_); refine goesL_ (some 26) rfl rfl Tryz.func121 (by kernel_rfl) rfl #[.int .i64 a0, .int .i64 a1] rfl sqA ?_; (with_reducible refine (spec_l1Common.calls kj2 a0 a1 t126 _ A12.out).mono ?_); rintro e w27 ⟨rfl, hb⟩; refine ⟨_, rfl, ?_⟩; replace BK123 := sqT BK123 hb; replace HB := sqS (sqB1 HB GE123) hb; (try clear hb)))
        replace BK123 := Aside0.mk (blk_drew BK123.out)
        replace HB := Aside0.mk (below_drew1 HB.out)
        refine start_ (n := 9) (S := fun w' => True) (ds := []) #[false, false, false, false, false, false, false, false, false] (by kernel_rfl) rfl rfl trivial (fun hHeld => ?_); refine with_tabW spec_LowestOf.tab6 spec_LowestOf.bits6 (fun HT_ HW_ => ?_)
        generalize w27.drew = w28 at BK123 HB hHeld ⊢
        refine sqP (i := 0) (N := some 39) (h := ?_)
        refine sqP (i := 1) (N := some 40) (h := ?_)
        refine sqP (i := 2) (N := some 41) (h := ?_)
        refine sqP (i := 3) (N := some 42) (h := ?_)
        refine sqP (i := 4) (N := some 43) (h := ?_)
        refine sqP (i := 5) (N := some 44) (h := ?_)
        refine sqP (i := 6) (N := some 45) (h := ?_)
        refine one_ (i := 7) (N := none) #[true, true, true, true, true, true, true, true, false] rfl rfl (one_of HT_.out (by kernel_rfl)) (by decide) (fun K hK => ?_)
        have hs29 : w28.cell? ⟨gb123, 0, none⟩ = some (.int .i64 0) := (blk_cell BK123.out 0).trans rfl
        have hfs29 := blk_frozen BK123.out 0
        have hs30 : w28.cell? ⟨gb123, 1, none⟩ = some (.int .i64 0) := (blk_cell BK123.out 1).trans rfl
        have hfs30 := blk_frozen BK123.out 1
        refine skip_ (w1 := ?_) (by rfl) rfl ?_ ?_
        rotate_left
        ·go_simp
         rfl
        refine hK.out _ _ trivial (fun hHeld => ?_)
        clear hK K
        refine sqP (i := 8) (N := some 5) (h := ?_)
        refine done_ (done_of HT_.out (by kernel_rfl)) ?_
        try go_wp2
        refine bodyPost_ret (results_ct rfl _ _ gb123 31 #[.int .i64 (wrap64 (Int.tdiv a0 t126)), .int .i64 (wrap64 (Int.tdiv a1 t126))] (0, 0) _ rfl (Z61 BK123) Tryz.underlying31 rfl (by kernel_rfl)) rfl ?_
        exact ⟨Z3, sqB1 HB GE123⟩
     ·rw [if_neg c19] at H
      have c19b0 : (a1 == 0) = false := beq_eq_false_iff_ne.mpr c19
      have c19b1 : (a1 != 0) = true := bne_iff_ne.mpr c19
      by_cases c31 : t126 = 0
      ·rw [if_pos c31] at H
       exact absurd H (by simp)
      ·rw [if_neg c31] at H
       have c31b0 : (t126 == 0) = false := beq_eq_false_iff_ne.mpr c31
       have c31b1 : (t126 != 0) = true := bne_iff_ne.mpr c31
       obtain ⟨rfl, rfl, rfl⟩ := sqO3 H
       try go_wp2_with (first | ((with_reducible refine gate_callee (f := 121) rfl ?_); refine goesL_ (some 26) rfl rfl Tryz.func121 (by kernel_rfl) rfl #[.int .i64 a0, .int .i64 a1] rfl sqA ?_; (with_reducible refine (spec_l1Common.calls kj2 a0 a1 t126 _ A12.out).mono ?_); rintro e w32 ⟨rfl, hb⟩; refine ⟨_, rfl, ?_⟩; replace BK123 := sqT BK123 hb; replace HB := sqS (sqB1 HB GE123) hb; (try clear hb)))
       replace BK123 := Aside0.mk (blk_drew BK123.out)
       replace HB := Aside0.mk (below_drew1 HB.out)
       refine start_ (n := 9) (S := fun w' => True) (ds := []) #[false, false, false, false, false, false, false, false, false] (by kernel_rfl) rfl rfl trivial (fun hHeld => ?_); refine with_tabW spec_LowestOf.tab6 spec_LowestOf.bits6 (fun HT_ HW_ => ?_)
       generalize w32.drew = w33 at BK123 HB hHeld ⊢
       refine sqP (i := 0) (N := some 39) (h := ?_)
       refine sqP (i := 1) (N := some 40) (h := ?_)
       refine sqP (i := 2) (N := some 41) (h := ?_)
       refine sqP (i := 3) (N := some 42) (h := ?_)
       refine sqP (i := 4) (N := some 43) (h := ?_)
       refine sqP (i := 5) (N := some 44) (h := ?_)
       refine sqP (i := 6) (N := some 45) (h := ?_)
       refine one_ (i := 7) (N := none) #[true, true, true, true, true, true, true, true, false] rfl rfl (one_of HT_.out (by kernel_rfl)) (by decide) (fun K hK => ?_)
       have hs34 : w33.cell? ⟨gb123, 0, none⟩ = some (.int .i64 0) := (blk_cell BK123.out 0).trans rfl
       have hfs34 := blk_frozen BK123.out 0
       have hs35 : w33.cell? ⟨gb123, 1, none⟩ = some (.int .i64 0) := (blk_cell BK123.out 1).trans rfl
       have hfs35 := blk_frozen BK123.out 1
       refine skip_ (w1 := ?_) (by rfl) rfl ?_ ?_
       rotate_left
       ·go_simp
        rfl
       refine hK.out _ _ trivial (fun hHeld => ?_)
       clear hK K
       refine sqP (i := 8) (N := some 5) (h := ?_)
       refine done_ (done_of HT_.out (by kernel_rfl)) ?_
       try go_wp2
       refine bodyPost_ret (results_ct rfl _ _ gb123 31 #[.int .i64 (wrap64 (Int.tdiv a0 t126)), .int .i64 (wrap64 (Int.tdiv a1 t126))] (0, 0) _ rfl (Z61 BK123) Tryz.underlying31 rfl (by kernel_rfl)) rfl ?_
       exact ⟨Z3, sqB1 HB GE123⟩

/-! ### spec_OverOf: function 128 -/
def spec_OverOf.f (k : Nat) (a0_0 : Int) (a0_1 : Int) : Option (Int × Int) := (spec_FractionOk.f k a0_0 a0_1).bind fun t129 => (if t129 = true then ((spec_LowestOf.f k (wrap64 (-a0_1)) a0_0).bind fun bt130 => (some (bt130.1, bt130.2.1))) else (some (0, 0)))
theorem spec_OverOf.mono : ∀ a0 a1 k, LeO (spec_OverOf.f k a0 a1) (spec_OverOf.f (k + 1) a0 a1) := by
 intro a0 a1 k
 unfold spec_OverOf.f
 repeat' first
   | (with_reducible exact spec_FractionOk.mono _ _ _)
   | (with_reducible exact spec_LowestOf.mono _ _ _)
   | (with_reducible exact LeO.refl _)
   | (with_reducible exact LeO.none _)
   | (with_reducible refine LeO.ite ?_ ?_)
   | (with_reducible refine LeO.bind ?_ (fun _ => ?_))
set_option maxHeartbeats 8000000 in
set_option maxRecDepth 100000 in
theorem spec_OverOf.calls (k : Nat) (a0_0 : Int) (a0_1 : Int) (r1 : Int) (r2 : Int) (w : World) (h : spec_OverOf.f k a0_0 a0_1 = some (r1, r2)) :
  Calls Tryz.prog 128 #[.agg #[.int .i64 a0_0, .int .i64 a0_1]] w fun e w' => e = .returned (.agg #[.int .i64 r1, .int .i64 r2]) ∧ Below w.heap.size w w' := by
 have hu31 := Tryz.underlying31
 have HB := Aside0.mk (Below.refl w.heap.size w)
 have H : ((spec_FractionOk.f k a0_0 a0_1).bind fun t129 => (if t129 = true then ((spec_LowestOf.f k (wrap64 (-a0_1)) a0_0).bind fun bt130 => (some (bt130.1, bt130.2.1))) else (some (0, 0)))) = some (r1, r2) := h
 clear h
 obtain ⟨t129, A2, H⟩ := sqD H
 by_cases c3 : t129 = true
 ·subst c3
  rw [if_pos rfl] at H
  obtain ⟨⟨t130, t131, t132⟩, A4, H⟩ := sqD H
  try dsimp only at H
  obtain ⟨rfl, rfl⟩ := sqO2 H
  go_enter Tryz.func128, Tryz.ntmps128
  go_wp2_with (first | ((with_reducible refine gate_dst (N := 1) rfl ?_); refine sqBox (N := 1) (cs := #[.int .i64 a0_0, .int .i64 a0_1]) (t := 31) ?_; intro gb127 hg w5 BK127 hb; have GW127 := Aside0.mk ((sqG hg (sqB HB))); have GE127 := GW127; replace HB := sqS (sqB HB) hb; clear hb hg) | ((with_reducible refine gate_dst (N := 2) rfl ?_); refine sqBox (N := 2) (cs := #[.int .i64 0, .int .i64 0]) (t := 31) ?_; intro gb128 hg w6 BK128 hb; have GW128 := Aside0.mk ((sqG hg (sqB1 HB GE127))); have GE128 := GW128; replace HB := sqS (sqB1 HB GE127) hb; obtain ⟨NB127_128, NB128_127⟩ := sqM hg BK127; replace BK127 := sqT BK127 hb; clear hb hg; have hnb7 := NB127_128.out; have hnc7 := NB128_127.out; obtain ⟨hcz8_0, hcz8_1, hfz8_0, hfz8_1⟩ := sqY2 BK127) | ((with_reducible refine gate_callee (f := 77) rfl ?_); refine goesL_ (some 6) rfl rfl Tryz.func77 (by kernel_rfl) rfl #[.agg #[.int .i64 a0_0, .int .i64 a0_1]] rfl sqA ?_; (with_reducible refine (spec_FractionOk.calls k a0_0 a0_1 true _ A2.out).mono ?_); rintro e w9 ⟨rfl, hb⟩; refine ⟨_, rfl, ?_⟩; replace BK127 := sqT BK127 hb; replace BK128 := sqT BK128 hb; replace HB := sqS (sqB2 HB GE127 GE128) hb; (try clear hb); obtain ⟨hcz10_0, hcz10_1, hfz10_0, hfz10_1⟩ := sqY2 BK127) | ((with_reducible refine gate_callee (f := 136) rfl ?_); refine goesL_ (some 15) rfl rfl Tryz.func136 (by kernel_rfl) rfl #[.int .i64 (wrap64 (-a0_1)), .int .i64 a0_0] rfl sqA ?_; (with_reducible refine (spec_LowestOf.calls k (wrap64 (-a0_1)) a0_0 t130 t131 t132 _ A4.out).mono ?_); rintro e w11 ⟨rfl, hb⟩; refine ⟨_, rfl, ?_⟩; replace BK127 := sqT BK127 hb; replace BK128 := sqT BK128 hb; replace HB := sqS (sqB2 HB GE127 GE128) hb; (try clear hb)) | ((with_reducible refine gate_dst (N := 3) rfl ?_); refine sqBox (N := 3) (cs := #[.int .i64 0, .int .i64 0]) (t := 31) ?_; intro gb133 hg w12 BK133 hb; have GW133 := Aside0.mk ((sqG hg (sqB2 HB GE127 GE128))); have GE133 := GW133; replace HB := sqS (sqB2 HB GE127 GE128) hb; obtain ⟨NB127_133, NB133_127⟩ := sqM hg BK127; replace BK127 := sqT BK127 hb; obtain ⟨NB128_133, NB133_128⟩ := sqM hg BK128; replace BK128 := sqT BK128 hb; clear hb hg; have hnb13 := NB133_127.out; have hnc13 := NB127_133.out; have hnb14 := NB133_128.out; have hnc14 := NB128_133.out; obtain ⟨hcz15_0, hcz15_1, hfz15_0, hfz15_1⟩ := sqY2 BK133; obtain ⟨hcz16_0, hcz16_1, hfz16_0, hfz16_1⟩ := sqY2 BK128))
  refine bodyPost_ret (results_cell_row rfl _ _ gb128 31 #[.int .i64 t130, .int .i64 t131] (0, 0) _ rfl (by refine sqPut (cs := #[.int .i64 t130, .int .i64 0]) ?_ 1; refine sqPut (cs := #[.int .i64 0, .int .i64 0]) ?_ 0; refine sqFar ?_ NB128_133; refine sqFar ?_ NB128_133; exact sqK BK128) Tryz.underlying31 rfl (by kernel_rfl)) rfl ?_
  exact ⟨Z3, sqB3 HB GE127 GE128 GE133⟩
 ·replace c3 := Bool.eq_false_iff.mpr c3
  subst c3
  rw [if_neg sqF] at H
  obtain ⟨rfl, rfl⟩ := sqO2 H
  go_enter Tryz.func128, Tryz.ntmps128
  go_wp2_with (first | ((with_reducible refine gate_dst (N := 1) rfl ?_); refine sqBox (N := 1) (cs := #[.int .i64 a0_0, .int .i64 a0_1]) (t := 31) ?_; intro gb127 hg w17 BK127 hb; have GW127 := Aside0.mk ((sqG hg (sqB HB))); have GE127 := GW127; replace HB := sqS (sqB HB) hb; clear hb hg) | ((with_reducible refine gate_dst (N := 2) rfl ?_); refine sqBox (N := 2) (cs := #[.int .i64 0, .int .i64 0]) (t := 31) ?_; intro gb128 hg w18 BK128 hb; have GW128 := Aside0.mk ((sqG hg (sqB1 HB GE127))); have GE128 := GW128; replace HB := sqS (sqB1 HB GE127) hb; obtain ⟨NB127_128, NB128_127⟩ := sqM hg BK127; replace BK127 := sqT BK127 hb; clear hb hg; have hnb19 := NB127_128.out; have hnc19 := NB128_127.out; obtain ⟨hcz20_0, hcz20_1, hfz20_0, hfz20_1⟩ := sqY2 BK127) | ((with_reducible refine gate_callee (f := 77) rfl ?_); refine goesL_ (some 6) rfl rfl Tryz.func77 (by kernel_rfl) rfl #[.agg #[.int .i64 a0_0, .int .i64 a0_1]] rfl sqA ?_; (with_reducible refine (spec_FractionOk.calls k a0_0 a0_1 false _ A2.out).mono ?_); rintro e w21 ⟨rfl, hb⟩; refine ⟨_, rfl, ?_⟩; replace BK127 := sqT BK127 hb; replace BK128 := sqT BK128 hb; replace HB := sqS (sqB2 HB GE127 GE128) hb; (try clear hb); obtain ⟨hcz22_0, hcz22_1, hfz22_0, hfz22_1⟩ := sqY2 BK128))
  refine bodyPost_ret (results_cell_row rfl _ _ gb128 31 #[.int .i64 0, .int .i64 0] (0, 0) _ rfl (Z11 BK128) Tryz.underlying31 rfl (by kernel_rfl)) rfl ?_
  exact ⟨Z3, sqB2 HB GE127 GE128⟩

end Go.Proofs.YtofmlbgfcohhoaaGreatDoor.PFnDeskDo
