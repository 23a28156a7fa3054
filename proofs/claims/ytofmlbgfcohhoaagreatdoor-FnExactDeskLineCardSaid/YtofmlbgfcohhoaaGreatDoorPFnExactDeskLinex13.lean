/- Lean functions of the Go functions that the law FnExactDeskLine reaches, each with its contract: made by a program of this session. -/
import Derived.Test.YtofmlbgfcohhoaaGreatDoorPFnExactDeskLinex12
namespace Go.Proofs.YtofmlbgfcohhoaaGreatDoor.PFnExactDeskLine
open Go.RowKit Go.Proofs.YtofmlbgfcohhoaaGreatDoorW.PrintWords Go.Proofs.YtofmlbgfcohhoaaGreatDoorW.PrintLast Go.Proofs.YtofmlbgfcohhoaaGreatDoorW.PrintMore Go.Proofs.YtofmlbgfcohhoaaGreatDoor.Lib
attribute [local go_sem] max2_int min2_int max_two min_two max_three min_three max_four min_four   -- for this text's walks alone
set_option linter.unusedVariables false
set_option linter.unusedSimpArgs false

/-! ### spec_PlusOf: function 127 -/
def spec_PlusOf.f (k : Nat) (a0_0 : Int) (a0_1 : Int) (a1 : Int) : Option (Int × Int × Bool) := (spec_FractionOk.f k a0_0 a0_1).bind fun t415 => (if t415 = true then ((spec_l1In.f a1 (-1000000) 1000000).bind fun t416 => (if t416 = true then ((spec_FractionOk.f k (wrap64 (a0_0 + (wrap64 (a1 * a0_1)))) a0_1).bind fun t417 => (if t417 = true then (some (wrap64 (a0_0 + (wrap64 (a1 * a0_1))), a0_1, true)) else (some (0, 0, false)))) else (some (0, 0, false)))) else (some (0, 0, false)))
theorem spec_PlusOf.mono : ∀ a0 a1 a2 k, LeO (spec_PlusOf.f k a0 a1 a2) (spec_PlusOf.f (k + 1) a0 a1 a2) := by
 intro a0 a1 a2 k
 unfold spec_PlusOf.f
 repeat' (with_reducible first | exact spec_FractionOk.mono _ _ _ | exact LeO.refl _ | exact LeO.none _ | refine LeO.ite ?_ ?_ | refine LeO.bind ?_ fun _ => ?_)
set_option maxHeartbeats 8000000 in
set_option maxRecDepth 100000 in
theorem spec_PlusOf.calls (k : Nat) (a0_0 : Int) (a0_1 : Int) (a1 : Int) (r1 : Int) (r2 : Int) (r3 : Bool) (w : World) (h : spec_PlusOf.f k a0_0 a0_1 a1 = some (r1, r2, r3)) :
  Calls Tryz.prog 127 #[.agg #[.int .i64 a0_0, .int .i64 a0_1], .int .i64 a1] w fun e w' => e = .returned (.tuple #[.agg #[.int .i64 r1, .int .i64 r2], .bool r3]) ∧ Below w.heap.size w w' := by
 have hu31 := Tryz.underlying31
 have HB := Aside0.mk (Below.refl w.heap.size w)
 unfold spec_PlusOf.f at h
 have H := h
 clear h
 obtain ⟨t415, A3, H⟩ := sqD H
 go_enter Tryz.func127, Tryz.ntmps127
 go_upto_region 2 with (first | ((with_reducible refine gate_dst (N := 2) rfl ?_); refine sqBx w (sqB HB) (N := 2) (cs := #[.int .i64 a0_0, .int .i64 a0_1]) (t := 31) ?_; intro gb412 hg w9 BK412 GE412 HB hb; clear hb hg) | ((with_reducible refine gate_dst (N := 4) rfl ?_); refine sqBx w (sqB1 HB GE412) (N := 4) (cs := #[.int .i64 0, .int .i64 0]) (t := 31) ?_; intro gb413 hg w10 BK413 GE413 HB hb; obtain ⟨NB412_413, NB413_412⟩ := sqM hg BK412; replace BK412 := sqT BK412 hb; clear hb hg; have hnb11 := NB412_413.out; have hnc11 := NB413_412.out; obtain ⟨hcz12_0, hcz12_1, hfz12_0, hfz12_1⟩ := sqY2 BK412) | ((with_reducible refine gate_dst (N := 6) rfl ?_); refine sqBx w (sqB2 HB GE412 GE413) (N := 6) (cs := #[.int .i64 0, .int .i64 0]) (t := 31) ?_; intro gb414 hg w13 BK414 GE414 HB hb; obtain ⟨NB412_414, NB414_412⟩ := sqM hg BK412; replace BK412 := sqT BK412 hb; obtain ⟨NB413_414, NB414_413⟩ := sqM hg BK413; replace BK413 := sqT BK413 hb; clear hb hg; have hnb14 := NB414_412.out; have hnc14 := NB412_414.out; have hnb15 := NB414_413.out; have hnc15 := NB413_414.out; obtain ⟨hcz16_0, hcz16_1, hfz16_0, hfz16_1⟩ := sqY2 BK414; obtain ⟨hcz17_0, hcz17_1, hfz17_0, hfz17_1⟩ := sqY2 BK412))
 by_cases c4 : t415 = true
 ·subst c4
  rw [if_pos rfl] at H
  obtain ⟨t416, A5, H⟩ := sqD H
  by_cases c6 : t416 = true
  ·subst c6
   rw [if_pos rfl] at H
   obtain ⟨t417, A7, H⟩ := sqD H
   by_cases c8 : t417 = true
   ·subst c8
    rw [if_pos rfl] at H
    obtain ⟨rfl, rfl, rfl⟩ := sqO3 H
    go_wp2_with (first | ((with_reducible refine gate_callee (f := 77) rfl ?_); refine sqC (some 18) Tryz.func77 #[.agg #[.int .i64 a0_0, .int .i64 a0_1]] ?_; (with_reducible refine (spec_FractionOk.calls k a0_0 a0_1 true _ A3.out).mono ?_); rintro e w18 ⟨rfl, hb⟩; refine ⟨_, rfl, ?_⟩; replace BK412 := sqH NB412_414 BK412 hb; replace BK413 := sqH NB413_414 BK413 hb; replace BK414 := Aside0.mk (blk_below (g := gb414) (o := .cells #[.int .i64 (wrap64 (a0_0 + (wrap64 (a1 * a0_1)))), .int .i64 a0_1] 31 (0, 0)) (Z25 BK414) hb); replace HB := sqS (sqB3 HB GE412 GE413 GE414) hb; (try clear hb)) | (go_at_call 101; (with_reducible refine (spec_l1In.calls a1 (-1000000) 1000000 true _ A5.out).mono ?_); rintro e w' ⟨rfl, ⟨nd, rfl⟩⟩; (try (rw [drewN_self w18]; generalize hq_ : World.drewN w18 _ = w18; have n0_ : Aside0 (w18.heap[gb412]? = some (.cells #[.int .i64 a0_0, .int .i64 a0_1] 31 (0, 0))) := ⟨Z26 BK412⟩; have n1_ : Aside0 (w18.heap[gb413]? = some (.cells #[.int .i64 0, .int .i64 0] 31 (0, 0))) := ⟨Z26 BK413⟩; have n2_ : Aside0 (w18.heap[gb414]? = some (.cells #[.int .i64 (wrap64 (a0_0 + (wrap64 (a1 * a0_1)))), .int .i64 a0_1] 31 (0, 0))) := ⟨Z26 BK414⟩; have n3_ : Aside0 (Below w.heap.size w w18) := ⟨by rw [← hq_]; exact (sqB3 HB GE412 GE413 GE414)⟩; clear BK412 BK413 BK414 HB hq_; have BK412 := n0_; have BK413 := n1_; have BK414 := n2_; have HB := n3_; clear n0_ n1_ n2_ n3_)); have hcz19_0 : w18.cell? ⟨gb414, 0, none⟩ = some (.int .i64 (wrap64 (a0_0 + (wrap64 (a1 * a0_1))))) := (blk_cell BK414.out 0).trans rfl; have hcz19_1 := sqZ BK414 1 (.int .i64 a0_1); have hfz19_0 := blk_frozen BK414.out 0; have hfz19_1 := blk_frozen BK414.out 1) | (go_at_call 77; (with_reducible refine (spec_FractionOk.calls k (wrap64 (a0_0 + (wrap64 (a1 * a0_1)))) a0_1 true _ A7.out).mono ?_); rintro e w20 ⟨rfl, hb⟩; replace BK412 := sqT BK412 hb; replace BK413 := sqT BK413 hb; replace BK414 := sqT BK414 hb; replace HB := sqS (sqB3 HB GE412 GE413 GE414) hb; (try clear hb); have hcz21_0 : w20.cell? ⟨gb414, 0, none⟩ = some (.int .i64 (wrap64 (a0_0 + (wrap64 (a1 * a0_1))))) := (blk_cell BK414.out 0).trans rfl; have hcz21_1 := sqZ BK414 1 (.int .i64 a0_1); have hfz21_0 := blk_frozen BK414.out 0; have hfz21_1 := blk_frozen BK414.out 1; obtain ⟨hcz22_0, hcz22_1, hfz22_0, hfz22_1⟩ := sqY2 BK413))
    refine bodyPost_ret (results_ct rfl _ _ gb413 31 #[.int .i64 (wrap64 (a0_0 + (wrap64 (a1 * a0_1)))), .int .i64 a0_1] (0, 0) _ rfl (Z25 BK413) Tryz.underlying31 rfl (by kernel_rfl)) rfl ?_
    exact ⟨Z6, sqB3 HB GE412 GE413 GE414⟩
   replace c8 := Bool.eq_false_iff.mpr c8
   subst c8
   rw [if_neg sqF] at H
   obtain ⟨rfl, rfl, rfl⟩ := sqO3 H
   go_wp2_with (first | ((with_reducible refine gate_callee (f := 77) rfl ?_); refine sqC (some 18) Tryz.func77 #[.agg #[.int .i64 a0_0, .int .i64 a0_1]] ?_; (with_reducible refine (spec_FractionOk.calls k a0_0 a0_1 true _ A3.out).mono ?_); rintro e w32 ⟨rfl, hb⟩; refine ⟨_, rfl, ?_⟩; replace BK412 := sqH NB412_414 BK412 hb; replace BK413 := sqH NB413_414 BK413 hb; replace BK414 := Aside0.mk (blk_below (g := gb414) (o := .cells #[.int .i64 (wrap64 (a0_0 + (wrap64 (a1 * a0_1)))), .int .i64 a0_1] 31 (0, 0)) (Z25 BK414) hb); replace HB := sqS (sqB3 HB GE412 GE413 GE414) hb; (try clear hb)) | (go_at_call 101; (with_reducible refine (spec_l1In.calls a1 (-1000000) 1000000 true _ A5.out).mono ?_); rintro e w' ⟨rfl, ⟨nd, rfl⟩⟩; (try (rw [drewN_self w32]; generalize hq_ : World.drewN w32 _ = w32; have n0_ : Aside0 (w32.heap[gb412]? = some (.cells #[.int .i64 a0_0, .int .i64 a0_1] 31 (0, 0))) := ⟨Z26 BK412⟩; have n1_ : Aside0 (w32.heap[gb413]? = some (.cells #[.int .i64 0, .int .i64 0] 31 (0, 0))) := ⟨Z26 BK413⟩; have n2_ : Aside0 (w32.heap[gb414]? = some (.cells #[.int .i64 (wrap64 (a0_0 + (wrap64 (a1 * a0_1)))), .int .i64 a0_1] 31 (0, 0))) := ⟨Z26 BK414⟩; have n3_ : Aside0 (Below w.heap.size w w32) := ⟨by rw [← hq_]; exact (sqB3 HB GE412 GE413 GE414)⟩; clear BK412 BK413 BK414 HB hq_; have BK412 := n0_; have BK413 := n1_; have BK414 := n2_; have HB := n3_; clear n0_ n1_ n2_ n3_)); have hcz33_0 : w32.cell? ⟨gb414, 0, none⟩ = some (.int .i64 (wrap64 (a0_0 + (wrap64 (a1 * a0_1))))) := (blk_cell BK414.out 0).trans rfl; have hcz33_1 := sqZ BK414 1 (.int .i64 a0_1); have hfz33_0 := blk_frozen BK414.out 0; have hfz33_1 := blk_frozen BK414.out 1) | (go_at_call 77; (with_reducible refine (spec_FractionOk.calls k (wrap64 (a0_0 + (wrap64 (a1 * a0_1)))) a0_1 false _ A7.out).mono ?_); rintro e w34 ⟨rfl, hb⟩; replace BK412 := sqT BK412 hb; replace BK413 := sqT BK413 hb; replace BK414 := sqT BK414 hb; replace HB := sqS (sqB3 HB GE412 GE413 GE414) hb; (try clear hb); obtain ⟨hcz35_0, hcz35_1, hfz35_0, hfz35_1⟩ := sqY2 BK413))
   refine bodyPost_ret (results_ct rfl _ _ gb413 31 #[.int .i64 0, .int .i64 0] (0, 0) _ rfl (Z27 BK413) Tryz.underlying31 rfl (by kernel_rfl)) rfl ?_
   exact ⟨Z6, sqB3 HB GE412 GE413 GE414⟩
  replace c6 := Bool.eq_false_iff.mpr c6
  subst c6
  rw [if_neg sqF] at H
  obtain ⟨rfl, rfl, rfl⟩ := sqO3 H
  go_wp2_with (first | ((with_reducible refine gate_callee (f := 77) rfl ?_); refine sqC (some 18) Tryz.func77 #[.agg #[.int .i64 a0_0, .int .i64 a0_1]] ?_; (with_reducible refine (spec_FractionOk.calls k a0_0 a0_1 true _ A3.out).mono ?_); rintro e w45 ⟨rfl, hb⟩; refine ⟨_, rfl, ?_⟩; replace BK412 := sqH NB412_414 BK412 hb; replace BK413 := sqH NB413_414 BK413 hb; replace BK414 := Aside0.mk (blk_below (g := gb414) (o := .cells #[.int .i64 (wrap64 (a0_0 + (wrap64 (a1 * a0_1)))), .int .i64 a0_1] 31 (0, 0)) (Z25 BK414) hb); replace HB := sqS (sqB3 HB GE412 GE413 GE414) hb; (try clear hb)) | (go_at_call 101; (with_reducible refine (spec_l1In.calls a1 (-1000000) 1000000 false _ A5.out).mono ?_); rintro e w' ⟨rfl, ⟨nd, rfl⟩⟩; (try (rw [drewN_self w45]; generalize hq_ : World.drewN w45 _ = w45; have n0_ : Aside0 (w45.heap[gb412]? = some (.cells #[.int .i64 a0_0, .int .i64 a0_1] 31 (0, 0))) := ⟨Z26 BK412⟩; have n1_ : Aside0 (w45.heap[gb413]? = some (.cells #[.int .i64 0, .int .i64 0] 31 (0, 0))) := ⟨Z26 BK413⟩; have n2_ : Aside0 (w45.heap[gb414]? = some (.cells #[.int .i64 (wrap64 (a0_0 + (wrap64 (a1 * a0_1)))), .int .i64 a0_1] 31 (0, 0))) := ⟨Z26 BK414⟩; have n3_ : Aside0 (Below w.heap.size w w45) := ⟨by rw [← hq_]; exact (sqB3 HB GE412 GE413 GE414)⟩; clear BK412 BK413 BK414 HB hq_; have BK412 := n0_; have BK413 := n1_; have BK414 := n2_; have HB := n3_; clear n0_ n1_ n2_ n3_)); obtain ⟨hcz46_0, hcz46_1, hfz46_0, hfz46_1⟩ := sqY2 BK413))
  refine bodyPost_ret (results_ct rfl _ _ gb413 31 #[.int .i64 0, .int .i64 0] (0, 0) _ rfl (Z27 BK413) Tryz.underlying31 rfl (by kernel_rfl)) rfl ?_
  exact ⟨Z6, sqB3 HB GE412 GE413 GE414⟩
 replace c4 := Bool.eq_false_iff.mpr c4
 subst c4
 rw [if_neg sqF] at H
 obtain ⟨rfl, rfl, rfl⟩ := sqO3 H
 go_wp2_with (first | ((with_reducible refine gate_callee (f := 77) rfl ?_); refine sqC (some 18) Tryz.func77 #[.agg #[.int .i64 a0_0, .int .i64 a0_1]] ?_; (with_reducible refine (spec_FractionOk.calls k a0_0 a0_1 false _ A3.out).mono ?_); rintro e w56 ⟨rfl, hb⟩; refine ⟨_, rfl, ?_⟩; replace BK412 := sqH NB412_414 BK412 hb; replace BK413 := sqH NB413_414 BK413 hb; replace BK414 := Aside0.mk (blk_below (g := gb414) (o := .cells #[.int .i64 (wrap64 (a0_0 + (wrap64 (a1 * a0_1)))), .int .i64 a0_1] 31 (0, 0)) (Z25 BK414) hb); replace HB := sqS (sqB3 HB GE412 GE413 GE414) hb; (try clear hb); obtain ⟨hcz57_0, hcz57_1, hfz57_0, hfz57_1⟩ := sqY2 BK413))
 refine bodyPost_ret (results_ct rfl _ _ gb413 31 #[.int .i64 0, .int .i64 0] (0, 0) _ rfl (Z27 BK413) Tryz.underlying31 rfl (by kernel_rfl)) rfl ?_
 exact ⟨Z6, sqB3 HB GE412 GE413 GE414⟩

/-! ### spec_LowestOf: function 136 -/
def spec_LowestOf.j0 : Nat → Int → Int → Bool → Option (Int × Int × Bool)
 | 0, _, _, _ => none
 | k + 1, x0, x1, x22 => if x22 = true then (some (0, 0, false)) else ((spec_l1Common.f k x0 x1).bind fun t421 => (if x1 < 0 then (if (wrap64 (-t421)) = 0 then (none) else (some (wrap64 (Int.tdiv x0 (wrap64 (-t421))), wrap64 (Int.tdiv x1 (wrap64 (-t421))), true))) else (if x1 = 0 then (if x0 < 0 then (if (wrap64 (-t421)) = 0 then (none) else (some (wrap64 (Int.tdiv x0 (wrap64 (-t421))), wrap64 (Int.tdiv x1 (wrap64 (-t421))), true))) else (if t421 = 0 then (none) else (some (wrap64 (Int.tdiv x0 t421), wrap64 (Int.tdiv x1 t421), true)))) else (if t421 = 0 then (none) else (some (wrap64 (Int.tdiv x0 t421), wrap64 (Int.tdiv x1 t421), true))))))
def spec_LowestOf.f (k : Nat) (a0 : Int) (a1 : Int) : Option (Int × Int × Bool) := (spec_l1In.f a0 (-1000000) 1000000).bind fun t419 => (if t419 = true then ((spec_l1In.f a1 (-1000000) 1000000).bind fun t420 => (if t420 = true then (if a0 = 0 then (spec_LowestOf.j0 k a0 a1 (a1 == 0)) else (spec_LowestOf.j0 k a0 a1 false)) else (spec_LowestOf.j0 k a0 a1 true))) else (spec_LowestOf.j0 k a0 a1 true))
abbrev spec_LowestOf.M (k : Nat) : Prop := (∀ y0 y1 y2, LeO (spec_LowestOf.j0 k y0 y1 y2) (spec_LowestOf.j0 (k + 1) y0 y1 y2))
theorem spec_LowestOf.mono_t : ∀ k, spec_LowestOf.M k → spec_LowestOf.M (k + 1) ∧ ∀ a0 a1, LeO (spec_LowestOf.f k a0 a1) (spec_LowestOf.f (k + 1) a0 a1) := by
  rintro k ih0
  refine ⟨?_, ?_⟩ <;> (try unfold spec_LowestOf.M) <;> intros <;> (first | unfold spec_LowestOf.j0 | unfold spec_LowestOf.f) <;> repeat' (with_reducible first | exact ih0 _ _ _ | exact spec_l1Common.mono _ _ _ | exact LeO.refl _ | exact LeO.none _ | refine LeO.ite ?_ ?_ | refine LeO.bind ?_ fun _ => ?_)
theorem spec_LowestOf.mono_l : ∀ k, spec_LowestOf.M k
 | 0 => fun _ _ _ r h => by simp [spec_LowestOf.j0] at h
 | k + 1 => (spec_LowestOf.mono_t k (spec_LowestOf.mono_l k)).1
theorem spec_LowestOf.mono a0 a1 k : LeO (spec_LowestOf.f k a0 a1) (spec_LowestOf.f (k + 1) a0 a1) := (spec_LowestOf.mono_t k (spec_LowestOf.mono_l k)).2 a0 a1
def spec_LowestOf.T6 : Bool × List (List Nat × List Nat) := (true, [([], []), ([], []), ([0, 1], [0, 1]), ([], []), ([], []), ([3, 4], [3, 4]), ([2, 5], [2, 5]), ([6, 0, 1, 2, 3, 4, 5, 6], [6]), ([7, 0, 1, 2, 3, 4, 5, 6, 7], [])])
def spec_LowestOf.B6 : List Nat := [0, 0, 3, 0, 0, 24, 63, 127, 255]
theorem spec_LowestOf.tab6 : rtab .any (opsOf Tryz.f136 6) = spec_LowestOf.T6 := by kernel_rfl
theorem spec_LowestOf.bits6 : waitsOk spec_LowestOf.T6.2 spec_LowestOf.B6 = true := by kernel_rfl
set_option maxHeartbeats 8000000 in
set_option maxRecDepth 100000 in
theorem spec_LowestOf.calls (k : Nat) (a0 : Int) (a1 : Int) (r1 : Int) (r2 : Int) (r3 : Bool) (w : World) (h : spec_LowestOf.f k a0 a1 = some (r1, r2, r3)) :
  Calls Tryz.prog 136 #[.int .i64 a0, .int .i64 a1] w fun e w' => e = .returned (.tuple #[.agg #[.int .i64 r1, .int .i64 r2], .bool r3]) ∧ Below w.heap.size w w' := by
 have hu31 := Tryz.underlying31
 have HB := Aside0.mk (Below.refl w.heap.size w)
 unfold spec_LowestOf.f at h
 have H := h
 clear h
 have HC3 := Aside0.mk H
 clear H
 go_enter Tryz.func136, Tryz.ntmps136
 go_upto_region 1 with (first | ((with_reducible refine gate_dst (N := 4) rfl ?_); refine sqBx w (sqB HB) (N := 4) (cs := #[.int .i64 0, .int .i64 0]) (t := 31) ?_; intro gb418 hg w4 BK418 GE418 HB hb; clear hb hg))
 (try simp only [Act.put, List.setIfInBounds_toArray, List.set_cons_zero, List.set_cons_succ])
 go_cut [22] (fun v22 wc => ∃ (kq : Nat) (x22_2 : Bool), v22 = .bool x22_2 ∧ Aside0 (spec_LowestOf.j0 kq a0 a1 x22_2 = some (r1, r2, r3)) ∧ Aside0 (kq ≤ k) ∧ Aside0 (wc.heap[gb418]? = some (.cells #[.int .i64 0, .int .i64 0] 31 (0, 0))) ∧ Aside0 (Below w.heap.size w wc))
 case first =>
  have H := HC3.out
  clear HC3
  obtain ⟨t419, A5, H⟩ := sqD H
  by_cases c6 : t419 = true
  ·subst c6
   rw [if_pos rfl] at H
   obtain ⟨t420, A7, H⟩ := sqD H
   by_cases c8 : t420 = true
   ·subst c8
    rw [if_pos rfl] at H
    by_cases c9 : a0 = 0
    ·rw [if_pos c9] at H
     have c9b0 : (a0 == 0) = true := beq_iff_eq.mpr c9
     have c9b1 : (a0 != 0) = false := bne_eq_false_iff_eq.mpr c9
     clear c9
     (first | rw [c9b0] | (simp only [i64_w, i32_w]; rw [c9b0]) | skip)
     have H' := Aside0.mk H
     clear H
     go_wp2_with (first | ((with_reducible refine gate_callee (f := 101) rfl ?_); refine sqC (some 8) Tryz.func101 #[.int .i64 a0, .int .i64 (-1000000), .int .i64 1000000] ?_; (with_reducible refine (spec_l1In.calls a0 (-1000000) 1000000 true _ A5.out).mono ?_); rintro e w' ⟨rfl, ⟨nd, rfl⟩⟩; refine ⟨_, rfl, ?_⟩) | (go_at_call 101; (with_reducible refine (spec_l1In.calls a1 (-1000000) 1000000 true _ A7.out).mono ?_); rintro e w' ⟨rfl, ⟨nd, rfl⟩⟩))
     go_meet
     case rel => exact ⟨_, ((a1 == 0)), Z2, H', ⟨Z12⟩, ⟨sqK BK418⟩, ⟨sqB1 HB GE418⟩⟩
    rw [if_neg c9] at H
    have c9b0 : (a0 == 0) = false := beq_eq_false_iff_ne.mpr c9
    have c9b1 : (a0 != 0) = true := bne_iff_ne.mpr c9
    (first | rw [c9b0] | (simp only [i64_w, i32_w]; rw [c9b0]) | skip)
    have H' := Aside0.mk H
    clear H
    go_wp2_with (first | ((with_reducible refine gate_callee (f := 101) rfl ?_); refine sqC (some 8) Tryz.func101 #[.int .i64 a0, .int .i64 (-1000000), .int .i64 1000000] ?_; (with_reducible refine (spec_l1In.calls a0 (-1000000) 1000000 true _ A5.out).mono ?_); rintro e w' ⟨rfl, ⟨nd, rfl⟩⟩; refine ⟨_, rfl, ?_⟩) | (go_at_call 101; (with_reducible refine (spec_l1In.calls a1 (-1000000) 1000000 true _ A7.out).mono ?_); rintro e w' ⟨rfl, ⟨nd, rfl⟩⟩))
    go_meet
    case rel => exact ⟨_, (false), Z2, H', ⟨Z12⟩, ⟨sqK BK418⟩, ⟨sqB1 HB GE418⟩⟩
   replace c8 := Bool.eq_false_iff.mpr c8
   subst c8
   rw [if_neg sqF] at H
   have H' := Aside0.mk H
   clear H
   go_wp2_with (first | ((with_reducible refine gate_callee (f := 101) rfl ?_); refine sqC (some 8) Tryz.func101 #[.int .i64 a0, .int .i64 (-1000000), .int .i64 1000000] ?_; (with_reducible refine (spec_l1In.calls a0 (-1000000) 1000000 true _ A5.out).mono ?_); rintro e w' ⟨rfl, ⟨nd, rfl⟩⟩; refine ⟨_, rfl, ?_⟩) | (go_at_call 101; (with_reducible refine (spec_l1In.calls a1 (-1000000) 1000000 false _ A7.out).mono ?_); rintro e w' ⟨rfl, ⟨nd, rfl⟩⟩))
   go_meet
   case rel => exact ⟨_, (true), Z2, H', ⟨Z12⟩, ⟨sqK BK418⟩, ⟨sqB1 HB GE418⟩⟩
  replace c6 := Bool.eq_false_iff.mpr c6
  subst c6
  rw [if_neg sqF] at H
  have H' := Aside0.mk H
  clear H
  go_wp2_with (first | ((with_reducible refine gate_callee (f := 101) rfl ?_); refine sqC (some 8) Tryz.func101 #[.int .i64 a0, .int .i64 (-1000000), .int .i64 1000000] ?_; (with_reducible refine (spec_l1In.calls a0 (-1000000) 1000000 false _ A5.out).mono ?_); rintro e w' ⟨rfl, ⟨nd, rfl⟩⟩; refine ⟨_, rfl, ?_⟩))
  go_meet
  case rel => exact ⟨_, (true), Z2, H', ⟨Z12⟩, ⟨sqK BK418⟩, ⟨sqB1 HB GE418⟩⟩
 case rest =>
  clear HC3
  obtain ⟨kq, x22_2, rfl, HA, HJ2, BK418, HB⟩ := hcut
  cases kq with
  | zero => exact absurd HA.out (by simp [spec_LowestOf.j0])
  | succ kj2 =>
   have H := HA.out
   clear HA
   simp only [spec_LowestOf.j0] at H
   by_cases c10 : x22_2 = true
   ·subst c10
    rw [if_pos rfl] at H
    obtain ⟨rfl, rfl, rfl⟩ := sqO3 H
    obtain ⟨hcz11_0, hcz11_1, hfz11_0, hfz11_1⟩ := sqY2 BK418
    go_wp2
    refine bodyPost_ret (results_ct rfl _ _ gb418 31 #[.int .i64 0, .int .i64 0] (0, 0) _ rfl (Z27 BK418) Tryz.underlying31 rfl (by kernel_rfl)) rfl ?_
    exact ⟨Z6, sqB1 HB GE418⟩
   replace c10 := Bool.eq_false_iff.mpr c10
   subst c10
   rw [if_neg sqF] at H
   obtain ⟨t421, A12, H⟩ := sqD H
   by_cases c13 : a1 < 0
   ·rw [if_pos c13] at H
    have c13b0 : decide (a1 < 0) = true := decide_eq_true c13
    clear c13
    by_cases c14 : (wrap64 (-t421)) = 0
    ·rw [if_pos c14] at H
     exact absurd H (by simp)
    rw [if_neg c14] at H
    have c14b0 : ((wrap64 (-t421)) == 0) = false := beq_eq_false_iff_ne.mpr c14
    have c14b1 : ((wrap64 (-t421)) != 0) = true := bne_iff_ne.mpr c14
    obtain ⟨rfl, rfl, rfl⟩ := sqO3 H
    try go_wp2_with (first | ((with_reducible refine gate_callee (f := 121) rfl ?_); refine sqC (some 26) Tryz.func121 #[.int .i64 a0, .int .i64 a1] ?_; (with_reducible refine (spec_l1Common.calls kj2 a0 a1 t421 _ A12.out).mono ?_); rintro e w15 ⟨rfl, hb⟩; refine ⟨_, rfl, ?_⟩; replace BK418 := sqT BK418 hb; replace HB := sqS (sqB1 HB GE418) hb; (try clear hb)))
    replace BK418 := Aside0.mk (blk_drew BK418.out)
    replace HB := Aside0.mk (below_drew1 HB.out)
    refine start_ (n := 9) (S := fun w' => True) (ds := []) #[false, false, false, false, false, false, false, false, false] (by kernel_rfl) rfl rfl trivial (fun hHeld => ?_); refine with_tabW spec_LowestOf.tab6 spec_LowestOf.bits6 (fun HT_ HW_ => ?_)
    generalize w15.drew = w16 at BK418 HB hHeld ⊢
    refine sqP (i := 0) (N := some 39) (h := ?_)
    refine sqP (i := 1) (N := some 40) (h := ?_)
    refine sqP (i := 2) (N := some 41) (h := ?_)
    refine sqP (i := 3) (N := some 42) (h := ?_)
    refine sqP (i := 4) (N := some 43) (h := ?_)
    refine sqP (i := 5) (N := some 44) (h := ?_)
    refine sqP (i := 6) (N := some 45) (h := ?_)
    refine one_ (i := 7) (N := none) #[true, true, true, true, true, true, true, true, false] rfl rfl (one_of HT_.out (by kernel_rfl)) (by decide) (fun K hK => ?_)
    have hs17 : w16.cell? ⟨gb418, 0, none⟩ = some (.int .i64 0) := (blk_cell BK418.out 0).trans rfl
    have hfs17 := blk_frozen BK418.out 0
    have hs18 : w16.cell? ⟨gb418, 1, none⟩ = some (.int .i64 0) := (blk_cell BK418.out 1).trans rfl
    have hfs18 := blk_frozen BK418.out 1
    refine skip_ (w1 := ?_) (by rfl) rfl ?_ ?_
    rotate_left
    ·go_simp
     rfl
    refine hK.out _ _ trivial (fun hHeld => ?_)
    clear hK K
    refine sqP (i := 8) (N := some 5) (h := ?_)
    refine done_ (done_of HT_.out (by kernel_rfl)) ?_
    try go_wp2
    refine bodyPost_ret (results_ct rfl _ _ gb418 31 #[.int .i64 (wrap64 (Int.tdiv a0 (wrap64 (-t421)))), .int .i64 (wrap64 (Int.tdiv a1 (wrap64 (-t421))))] (0, 0) _ rfl (Z28 BK418) Tryz.underlying31 rfl (by kernel_rfl)) rfl ?_
    exact ⟨Z6, sqB1 HB GE418⟩
   rw [if_neg c13] at H
   have c13b0 : decide (a1 < 0) = false := decide_eq_false c13
   clear c13
   by_cases c19 : a1 = 0
   ·rw [if_pos c19] at H
    have c19b0 : (a1 == 0) = true := beq_iff_eq.mpr c19
    have c19b1 : (a1 != 0) = false := bne_eq_false_iff_eq.mpr c19
    clear c19
    by_cases c20 : a0 < 0
    ·rw [if_pos c20] at H
     have c20b0 : decide (a0 < 0) = true := decide_eq_true c20
     clear c20
     by_cases c21 : (wrap64 (-t421)) = 0
     ·rw [if_pos c21] at H
      exact absurd H (by simp)
     rw [if_neg c21] at H
     have c21b0 : ((wrap64 (-t421)) == 0) = false := beq_eq_false_iff_ne.mpr c21
     have c21b1 : ((wrap64 (-t421)) != 0) = true := bne_iff_ne.mpr c21
     obtain ⟨rfl, rfl, rfl⟩ := sqO3 H
     try go_wp2_with (first | ((with_reducible refine gate_callee (f := 121) rfl ?_); refine sqC (some 26) Tryz.func121 #[.int .i64 a0, .int .i64 a1] ?_; (with_reducible refine (spec_l1Common.calls kj2 a0 a1 t421 _ A12.out).mono ?_); rintro e w22 ⟨rfl, hb⟩; refine ⟨_, rfl, ?_⟩; replace BK418 := sqT BK418 hb; replace HB := sqS (sqB1 HB GE418) hb; (try clear hb)))
     replace BK418 := Aside0.mk (blk_drew BK418.out)
     replace HB := Aside0.mk (below_drew1 HB.out)
     refine start_ (n := 9) (S := fun w' => True) (ds := []) #[false, false, false, false, false, false, false, false, false] (by kernel_rfl) rfl rfl trivial (fun hHeld => ?_); refine with_tabW spec_LowestOf.tab6 spec_LowestOf.bits6 (fun HT_ HW_ => ?_)
     generalize w22.drew = w23 at BK418 HB hHeld ⊢
     refine sqP (i := 0) (N := some 39) (h := ?_)
     refine sqP (i := 1) (N := some 40) (h := ?_)
     refine sqP (i := 2) (N := some 41) (h := ?_)
     refine sqP (i := 3) (N := some 42) (h := ?_)
     refine sqP (i := 4) (N := some 43) (h := ?_)
     refine sqP (i := 5) (N := some 44) (h := ?_)
     refine sqP (i := 6) (N := some 45) (h := ?_)
     refine one_ (i := 7) (N := none) #[true, true, true, true, true, true, true, true, false] rfl rfl (one_of HT_.out (by kernel_rfl)) (by decide) (fun K hK => ?_)
     have hs24 : w23.cell? ⟨gb418, 0, none⟩ = some (.int .i64 0) := (blk_cell BK418.out 0).trans rfl
     have hfs24 := blk_frozen BK418.out 0
     have hs25 : w23.cell? ⟨gb418, 1, none⟩ = some (.int .i64 0) := (blk_cell BK418.out 1).trans rfl
     have hfs25 := blk_frozen BK418.out 1
     refine skip_ (w1 := ?_) (by rfl) rfl ?_ ?_
     rotate_left
     ·go_simp
      rfl
     refine hK.out _ _ trivial (fun hHeld => ?_)
     clear hK K
     refine sqP (i := 8) (N := some 5) (h := ?_)
     refine done_ (done_of HT_.out (by kernel_rfl)) ?_
     try go_wp2
     refine bodyPost_ret (results_ct rfl _ _ gb418 31 #[.int .i64 (wrap64 (Int.tdiv a0 (wrap64 (-t421)))), .int .i64 (wrap64 (Int.tdiv a1 (wrap64 (-t421))))] (0, 0) _ rfl (Z28 BK418) Tryz.underlying31 rfl (by kernel_rfl)) rfl ?_
     exact ⟨Z6, sqB1 HB GE418⟩
    rw [if_neg c20] at H
    have c20b0 : decide (a0 < 0) = false := decide_eq_false c20
    clear c20
    by_cases c26 : t421 = 0
    ·rw [if_pos c26] at H
     exact absurd H (by simp)
    rw [if_neg c26] at H
    have c26b0 : (t421 == 0) = false := beq_eq_false_iff_ne.mpr c26
    have c26b1 : (t421 != 0) = true := bne_iff_ne.mpr c26
    obtain ⟨rfl, rfl, rfl⟩ := sqO3 H
    try go_wp2_with (first | ((with_reducible refine gate_callee (f := 121) rfl ?_); refine sqC (some 26) Tryz.func121 #[.int .i64 a0, .int .i64 a1] ?_; (with_reducible refine (spec_l1Common.calls kj2 a0 a1 t421 _ A12.out).mono ?_); rintro e w27 ⟨rfl, hb⟩; refine ⟨_, rfl, ?_⟩; replace BK418 := sqT BK418 hb; replace HB := sqS (sqB1 HB GE418) hb; (try clear hb)))
    replace BK418 := Aside0.mk (blk_drew BK418.out)
    replace HB := Aside0.mk (below_drew1 HB.out)
    refine start_ (n := 9) (S := fun w' => True) (ds := []) #[false, false, false, false, false, false, false, false, false] (by kernel_rfl) rfl rfl trivial (fun hHeld => ?_); refine with_tabW spec_LowestOf.tab6 spec_LowestOf.bits6 (fun HT_ HW_ => ?_)
    generalize w27.drew = w28 at BK418 HB hHeld ⊢
    refine sqP (i := 0) (N := some 39) (h := ?_)
    refine sqP (i := 1) (N := some 40) (h := ?_)
    refine sqP (i := 2) (N := some 41) (h := ?_)
    refine sqP (i := 3) (N := some 42) (h := ?_)
    refine sqP (i := 4) (N := some 43) (h := ?_)
    refine sqP (i := 5) (N := some 44) (h := ?_)
    refine sqP (i := 6) (N := some 45) (h := ?_)
    refine one_ (i := 7) (N := none) #[true, true, true, true, true, true, true, true, false] rfl rfl (one_of HT_.out (by kernel_rfl)) (by decide) (fun K hK => ?_)
    have hs29 : w28.cell? ⟨gb418, 0, none⟩ = some (.int .i64 0) := (blk_cell BK418.out 0).trans rfl
    have hfs29 := blk_frozen BK418.out 0
    have hs30 : w28.cell? ⟨gb418, 1, none⟩ = some (.int .i64 0) := (blk_cell BK418.out 1).trans rfl
    have hfs30 := blk_frozen BK418.out 1
    refine skip_ (w1 := ?_) (by rfl) rfl ?_ ?_
    rotate_left
    ·go_simp
     rfl
    refine hK.out _ _ trivial (fun hHeld => ?_)
    clear hK K
    refine sqP (i := 8) (N := some 5) (h := ?_)
    refine done_ (done_of HT_.out (by kernel_rfl)) ?_
    try go_wp2
    refine bodyPost_ret (results_ct rfl _ _ gb418 31 #[.int .i64 (wrap64 (Int.tdiv a0 t421)), .int .i64 (wrap64 (Int.tdiv a1 t421))] (0, 0) _ rfl (Z29 BK418) Tryz.underlying31 rfl (by kernel_rfl)) rfl ?_
    exact ⟨Z6, sqB1 HB GE418⟩
   rw [if_neg c19] at H
   have c19b0 : (a1 == 0) = false := beq_eq_false_iff_ne.mpr c19
   have c19b1 : (a1 != 0) = true := bne_iff_ne.mpr c19
   by_cases c31 : t421 = 0
   ·rw [if_pos c31] at H
    exact absurd H (by simp)
   rw [if_neg c31] at H
   have c31b0 : (t421 == 0) = false := beq_eq_false_iff_ne.mpr c31
   have c31b1 : (t421 != 0) = true := bne_iff_ne.mpr c31
   obtain ⟨rfl, rfl, rfl⟩ := sqO3 H
   try go_wp2_with (first | ((with_reducible refine gate_callee (f := 121) rfl ?_); refine sqC (some 26) Tryz.func121 #[.int .i64 a0, .int .i64 a1] ?_; (with_reducible refine (spec_l1Common.calls kj2 a0 a1 t421 _ A12.out).mono ?_); rintro e w32 ⟨rfl, hb⟩; refine ⟨_, rfl, ?_⟩; replace BK418 := sqT BK418 hb; replace HB := sqS (sqB1 HB GE418) hb; (try clear hb)))
   replace BK418 := Aside0.mk (blk_drew BK418.out)
   replace HB := Aside0.mk (below_drew1 HB.out)
   refine start_ (n := 9) (S := fun w' => True) (ds := []) #[false, false, false, false, false, false, false, false, false] (by kernel_rfl) rfl rfl trivial (fun hHeld => ?_); refine with_tabW spec_LowestOf.tab6 spec_LowestOf.bits6 (fun HT_ HW_ => ?_)
   generalize w32.drew = w33 at BK418 HB hHeld ⊢
   refine sqP (i := 0) (N := some 39) (h := ?_)
   refine sqP (i := 1) (N := some 40) (h := ?_)
   refine sqP (i := 2) (N := some 41) (h := ?_)
   refine sqP (i := 3) (N := some 42) (h := ?_)
   refine sqP (i := 4) (N := some 43) (h := ?_)
   refine sqP (i := 5) (N := some 44) (h := ?_)
   refine sqP (i := 6) (N := some 45) (h := ?_)
   refine one_ (i := 7) (N := none) #[true, true, true, true, true, true, true, true, false] rfl rfl (one_of HT_.out (by kernel_rfl)) (by decide) (fun K hK => ?_)
   have hs34 : w33.cell? ⟨gb418, 0, none⟩ = some (.int .i64 0) := (blk_cell BK418.out 0).trans rfl
   have hfs34 := blk_frozen BK418.out 0
   have hs35 : w33.cell? ⟨gb418, 1, none⟩ = some (.int .i64 0) := (blk_cell BK418.out 1).trans rfl
   have hfs35 := blk_frozen BK418.out 1
   refine skip_ (w1 := ?_) (by rfl) rfl ?_ ?_
   rotate_left
   ·go_simp
    rfl
   refine hK.out _ _ trivial (fun hHeld => ?_)
   clear hK K
   refine sqP (i := 8) (N := some 5) (h := ?_)
   refine done_ (done_of HT_.out (by kernel_rfl)) ?_
   try go_wp2
   refine bodyPost_ret (results_ct rfl _ _ gb418 31 #[.int .i64 (wrap64 (Int.tdiv a0 t421)), .int .i64 (wrap64 (Int.tdiv a1 t421))] (0, 0) _ rfl (Z29 BK418) Tryz.underlying31 rfl (by kernel_rfl)) rfl ?_
   exact ⟨Z6, sqB1 HB GE418⟩

/-! ### spec_OverOf: function 128 -/
def spec_OverOf.f (k : Nat) (a0_0 : Int) (a0_1 : Int) : Option (Int × Int) := (spec_FractionOk.f k a0_0 a0_1).bind fun t424 => (if t424 = true then ((spec_LowestOf.f k (wrap64 (-a0_1)) a0_0).bind fun bt425 => (some (bt425.1, bt425.2.1))) else (some (0, 0)))
theorem spec_OverOf.mono : ∀ a0 a1 k, LeO (spec_OverOf.f k a0 a1) (spec_OverOf.f (k + 1) a0 a1) := by
 intro a0 a1 k
 unfold spec_OverOf.f
 repeat' (with_reducible first | exact spec_FractionOk.mono _ _ _ | exact spec_LowestOf.mono _ _ _ | exact LeO.refl _ | exact LeO.none _ | refine LeO.ite ?_ ?_ | refine LeO.bind ?_ fun _ => ?_)
set_option maxHeartbeats 8000000 in
set_option maxRecDepth 100000 in
theorem spec_OverOf.calls (k : Nat) (a0_0 : Int) (a0_1 : Int) (r1 : Int) (r2 : Int) (w : World) (h : spec_OverOf.f k a0_0 a0_1 = some (r1, r2)) :
  Calls Tryz.prog 128 #[.agg #[.int .i64 a0_0, .int .i64 a0_1]] w fun e w' => e = .returned (.agg #[.int .i64 r1, .int .i64 r2]) ∧ Below w.heap.size w w' := by
 have hu31 := Tryz.underlying31
 have HB := Aside0.mk (Below.refl w.heap.size w)
 unfold spec_OverOf.f at h
 have H := h
 clear h
 obtain ⟨t424, A2, H⟩ := sqD H
 by_cases c3 : t424 = true
 ·subst c3
  rw [if_pos rfl] at H
  obtain ⟨⟨t425, t426, t427⟩, A4, H⟩ := sqD H
  try dsimp only at H
  obtain ⟨rfl, rfl⟩ := sqO2 H
  go_enter Tryz.func128, Tryz.ntmps128
  go_wp2_with (first | ((with_reducible refine gate_dst (N := 1) rfl ?_); refine sqBx w (sqB HB) (N := 1) (cs := #[.int .i64 a0_0, .int .i64 a0_1]) (t := 31) ?_; intro gb422 hg w5 BK422 GE422 HB hb; clear hb hg) | ((with_reducible refine gate_dst (N := 2) rfl ?_); refine sqBx w (sqB1 HB GE422) (N := 2) (cs := #[.int .i64 0, .int .i64 0]) (t := 31) ?_; intro gb423 hg w6 BK423 GE423 HB hb; obtain ⟨NB422_423, NB423_422⟩ := sqM hg BK422; replace BK422 := sqT BK422 hb; clear hb hg; have hnb7 := NB422_423.out; have hnc7 := NB423_422.out; obtain ⟨hcz8_0, hcz8_1, hfz8_0, hfz8_1⟩ := sqY2 BK422) | ((with_reducible refine gate_callee (f := 77) rfl ?_); refine sqC (some 6) Tryz.func77 #[.agg #[.int .i64 a0_0, .int .i64 a0_1]] ?_; (with_reducible refine (spec_FractionOk.calls k a0_0 a0_1 true _ A2.out).mono ?_); rintro e w9 ⟨rfl, hb⟩; refine ⟨_, rfl, ?_⟩; replace BK422 := sqT BK422 hb; replace BK423 := sqT BK423 hb; replace HB := sqS (sqB2 HB GE422 GE423) hb; (try clear hb); obtain ⟨hcz10_0, hcz10_1, hfz10_0, hfz10_1⟩ := sqY2 BK422) | ((with_reducible refine gate_callee (f := 136) rfl ?_); refine sqC (some 15) Tryz.func136 #[.int .i64 (wrap64 (-a0_1)), .int .i64 a0_0] ?_; (with_reducible refine (spec_LowestOf.calls k (wrap64 (-a0_1)) a0_0 t425 t426 t427 _ A4.out).mono ?_); rintro e w11 ⟨rfl, hb⟩; refine ⟨_, rfl, ?_⟩; replace BK422 := sqT BK422 hb; replace BK423 := sqT BK423 hb; replace HB := sqS (sqB2 HB GE422 GE423) hb; (try clear hb)) | ((with_reducible refine gate_dst (N := 3) rfl ?_); refine sqBx w (sqB2 HB GE422 GE423) (N := 3) (cs := #[.int .i64 0, .int .i64 0]) (t := 31) ?_; intro gb428 hg w12 BK428 GE428 HB hb; obtain ⟨NB422_428, NB428_422⟩ := sqM hg BK422; replace BK422 := sqT BK422 hb; obtain ⟨NB423_428, NB428_423⟩ := sqM hg BK423; replace BK423 := sqT BK423 hb; clear hb hg; have hnb13 := NB428_422.out; have hnc13 := NB422_428.out; have hnb14 := NB428_423.out; have hnc14 := NB423_428.out; obtain ⟨hcz15_0, hcz15_1, hfz15_0, hfz15_1⟩ := sqY2 BK428; obtain ⟨hcz16_0, hcz16_1, hfz16_0, hfz16_1⟩ := sqY2 BK423))
  refine bodyPost_ret (results_cell_row rfl _ _ gb423 31 #[.int .i64 t425, .int .i64 t426] (0, 0) _ rfl (by refine sqPut (cs := #[.int .i64 t425, .int .i64 0]) ?_ 1; refine sqPut (cs := #[.int .i64 0, .int .i64 0]) ?_ 0; refine sqFar ?_ NB423_428; refine sqFar ?_ NB423_428; exact sqK BK423) Tryz.underlying31 rfl (by kernel_rfl)) rfl ?_
  exact ⟨Z6, sqB3 HB GE422 GE423 GE428⟩
 replace c3 := Bool.eq_false_iff.mpr c3
 subst c3
 rw [if_neg sqF] at H
 obtain ⟨rfl, rfl⟩ := sqO2 H
 go_enter Tryz.func128, Tryz.ntmps128
 go_wp2_with (first | ((with_reducible refine gate_dst (N := 1) rfl ?_); refine sqBx w (sqB HB) (N := 1) (cs := #[.int .i64 a0_0, .int .i64 a0_1]) (t := 31) ?_; intro gb422 hg w17 BK422 GE422 HB hb; clear hb hg) | ((with_reducible refine gate_dst (N := 2) rfl ?_); refine sqBx w (sqB1 HB GE422) (N := 2) (cs := #[.int .i64 0, .int .i64 0]) (t := 31) ?_; intro gb423 hg w18 BK423 GE423 HB hb; obtain ⟨NB422_423, NB423_422⟩ := sqM hg BK422; replace BK422 := sqT BK422 hb; clear hb hg; have hnb19 := NB422_423.out; have hnc19 := NB423_422.out; obtain ⟨hcz20_0, hcz20_1, hfz20_0, hfz20_1⟩ := sqY2 BK422) | ((with_reducible refine gate_callee (f := 77) rfl ?_); refine sqC (some 6) Tryz.func77 #[.agg #[.int .i64 a0_0, .int .i64 a0_1]] ?_; (with_reducible refine (spec_FractionOk.calls k a0_0 a0_1 false _ A2.out).mono ?_); rintro e w21 ⟨rfl, hb⟩; refine ⟨_, rfl, ?_⟩; replace BK422 := sqT BK422 hb; replace BK423 := sqT BK423 hb; replace HB := sqS (sqB2 HB GE422 GE423) hb; (try clear hb); obtain ⟨hcz22_0, hcz22_1, hfz22_0, hfz22_1⟩ := sqY2 BK423))
 refine bodyPost_ret (results_cell_row rfl _ _ gb423 31 #[.int .i64 0, .int .i64 0] (0, 0) _ rfl (Z27 BK423) Tryz.underlying31 rfl (by kernel_rfl)) rfl ?_
 exact ⟨Z6, sqB2 HB GE422 GE423⟩

end Go.Proofs.YtofmlbgfcohhoaaGreatDoor.PFnExactDeskLine
