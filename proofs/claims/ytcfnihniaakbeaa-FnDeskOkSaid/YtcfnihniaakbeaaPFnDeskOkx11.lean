/- Lean functions of the Go functions that the law FnDeskOk reaches, each with its contract: made by a program of this session. -/
import Derived.Test.YtcfnihniaakbeaaPFnDeskOkx0
import Derived.Test.YtcfnihniaakbeaaPFnDeskOkx3
import Derived.Test.YtcfnihniaakbeaaPFnDeskOkx4
namespace Go.Proofs.Ytcfnihniaakbeaa.PFnDeskOk
open Go.RowKit Go.Proofs.YtcfnihniaakbeaaW.PrintWords Go.Proofs.YtcfnihniaakbeaaW.PrintLast Go.Proofs.YtcfnihniaakbeaaW.PrintMore
attribute [local go_sem] max2_int min2_int max_two min_two max_three min_three max_four min_four   -- for this text's walks alone
set_option linter.unusedVariables false
set_option linter.unusedSimpArgs false

/-! ### spec_l20Tied: function 29 -/
def spec_l20Tied.f (k : Nat) (s0_0 : List Int) (s0_1 : Int) : Option (Int × Int × Int) := (spec_l20Rd_odd.f k s0_0 s0_1 9).bind fun bt297 => (if bt297.1 = true then ((spec_l20Fraction.f k s0_0 bt297.2 3).bind fun bt299 => (some (bt299.1, bt299.2.1, bt299.2.2))) else ((spec_l20Rd_pick.f k s0_0 bt297.2 13).bind fun bt302 => ((spec_l20Rd_pick.f k s0_0 bt302.2 13).bind fun bt304 => ((spec_l20Rd_pick.f k s0_0 bt304.2 13).bind fun bt306 => ((spec_LowestOf.f k (wrap64 (bt302.1 - bt304.1)) bt306.1).bind fun bt308 => (if bt308.2.2 = true then (some (bt308.1, bt308.2.1, bt306.2)) else (some (1, 0, bt306.2))))))))
theorem spec_l20Tied.mono : ∀ a0 a1 k, LeO (spec_l20Tied.f k a0 a1) (spec_l20Tied.f (k + 1) a0 a1) := by
 intro a0 a1 k
 unfold spec_l20Tied.f
 repeat' first
   | (with_reducible exact spec_LowestOf.mono _ _ _)
   | (with_reducible exact spec_l20Fraction.mono _ _ _ _)
   | (with_reducible exact spec_l20Rd_odd.mono _ _ _ _)
   | (with_reducible exact spec_l20Rd_pick.mono _ _ _ _)
   | (with_reducible exact LeO.refl _)
   | (with_reducible exact LeO.none _)
   | (with_reducible refine LeO.ite ?_ ?_)
   | (with_reducible refine LeO.bind ?_ (fun _ => ?_))
set_option maxHeartbeats 8000000 in
set_option maxRecDepth 100000 in
theorem spec_l20Tied.calls (k : Nat) (g : Nat) (s0_0 : List Int) (s0_1 : Int) (r1 : Int) (r2 : Int) (r3 : Int) (w0 w : World) (hI : IsS46 w0 w g s0_0 s0_1) (hB : Below w0.heap.size w0 w) (h : spec_l20Tied.f k s0_0 s0_1 = some (r1, r2, r3)) :
  Calls Try.prog 29 #[.pointer (some ⟨g, 0, none⟩)] w fun e w' => e = .returned (.agg #[.int .i64 r1, .int .i64 r2]) ∧ IsS46 w0 w' g s0_0 r3 ∧ Below w0.heap.size w0 w' ∧ KeepBut w w' g none := by
 have hu24 := Try.underlying24
 have HI0 := Aside0.mk hI
 have HK := Aside0.mk (KeepBut.refl w g none)
 have HL := Aside0.mk hB.size
 clear hI
 have HW0 := Aside0.mk hB.size
 have HB := Aside0.mk hB
 clear hB
 have H : ((spec_l20Rd_odd.f k s0_0 s0_1 9).bind fun bt297 => (if bt297.1 = true then ((spec_l20Fraction.f k s0_0 bt297.2 3).bind fun bt299 => (some (bt299.1, bt299.2.1, bt299.2.2))) else ((spec_l20Rd_pick.f k s0_0 bt297.2 13).bind fun bt302 => ((spec_l20Rd_pick.f k s0_0 bt302.2 13).bind fun bt304 => ((spec_l20Rd_pick.f k s0_0 bt304.2 13).bind fun bt306 => ((spec_LowestOf.f k (wrap64 (bt302.1 - bt304.1)) bt306.1).bind fun bt308 => (if bt308.2.2 = true then (some (bt308.1, bt308.2.1, bt306.2)) else (some (1, 0, bt306.2))))))))) = some (r1, r2, r3) := h
 clear h
 replace H := Option.bind_eq_some_iff.mp H
 obtain ⟨⟨t297, t298⟩, A20, H⟩ := H
 replace H : (if t297 = true then ((spec_l20Fraction.f k s0_0 t298 3).bind fun bt299 => (some (bt299.1, bt299.2.1, bt299.2.2))) else ((spec_l20Rd_pick.f k s0_0 t298 13).bind fun bt302 => ((spec_l20Rd_pick.f k s0_0 bt302.2 13).bind fun bt304 => ((spec_l20Rd_pick.f k s0_0 bt304.2 13).bind fun bt306 => ((spec_LowestOf.f k (wrap64 (bt302.1 - bt304.1)) bt306.1).bind fun bt308 => (if bt308.2.2 = true then (some (bt308.1, bt308.2.1, bt306.2)) else (some (1, 0, bt306.2)))))))) = some (r1, r2, r3) := H
 have A2 := Aside0.mk A20
 clear A20
 by_cases c3 : t297 = true
 ·subst c3
  have H1 : ((spec_l20Fraction.f k s0_0 t298 3).bind fun bt299 => (some (bt299.1, bt299.2.1, bt299.2.2))) = some (r1, r2, r3) := by rw [if_pos rfl] at H; exact H
  clear H
  have H := H1
  clear H1
  replace H := Option.bind_eq_some_iff.mp H
  obtain ⟨⟨t299, t300, t301⟩, A40, H⟩ := H
  replace H : (some (t299, t300, t301)) = some (r1, r2, r3) := H
  have A4 := Aside0.mk A40
  clear A40
  simp only [Option.some.injEq, Prod.mk.injEq] at H
  obtain ⟨rfl, rfl, rfl⟩ := H
  go_enter Try.func29, Try.ntmps29
  go_wp2_with (first | ((with_reducible refine gate_dst (N := 2) rfl ?_); refine sqBox (N := 2) (cs := #[.int .i64 0, .int .i64 0]) (t := 24) ?_; intro gb296 hg w5 BK296 hb; replace HB := Aside0.mk (below_step (Z20 HI0) hb); have GW296 := Aside0.mk ((Z77 : w.heap.size ≤ gb296)); have GE296 := Aside0.mk ((Nat.le_trans HW0.out (Z77 : w.heap.size ≤ gb296) : w0.heap.size ≤ gb296)); replace HK := Aside0.mk (KeepBut.trans Z21 (KeepBut.of_below hb g none) (.inl rfl)); have NB0_296 := Aside0.mk ((Z35 HI0 : g ≠ gb296)); have NB296_0 := Aside0.mk ((Z36 HI0 : gb296 ≠ g)); replace HI0 := Aside0.mk (IsS46.below (Z19 HI0) hb); clear hb hg) | ((with_reducible refine gate_callee (f := 18) rfl ?_); refine goesL_ (some 6) rfl rfl Try.func18 (by kernel_rfl) rfl #[.pointer (some ⟨g, 0, none⟩), .int .i64 9] rfl sqA ?_; (with_reducible refine (spec_l20Rd_odd.calls k g s0_0 s0_1 9 true t298 w0 _ ?side1 ?side2 A2.out).mono ?_); (case side1 => exact Z27 HI0 NB0_296); (case side2 => exact Z28 HI0 GE296); rintro e w6 ⟨rfl, hi, hb, hk⟩; refine ⟨_, rfl, ?_⟩; replace BK296 := Aside0.mk (KeepBut.blk hk (g' := gb296) (o := .cells #[.int .i64 0, .int .i64 0] 24 (0, 0)) (sqK BK296) NB296_0.out (by simp)); replace HK := Aside0.mk (KeepBut.trans (Z37 GW296) hk (.inl rfl)); replace HB := Aside0.mk (hb); replace HI0 := Aside0.mk (hi); (try clear hb)) | ((with_reducible refine gate_callee (f := 14) rfl ?_); refine goesL_ (some 8) rfl rfl Try.func14 (by kernel_rfl) rfl #[.pointer (some ⟨g, 0, none⟩), .int .i64 3] rfl sqA ?_; (with_reducible refine (spec_l20Fraction.calls k g s0_0 t298 3 t299 t300 t301 w0 _ ?side1 ?side2 A4.out).mono ?_); (case side1 => exact Z27 HI0 NB0_296); (case side2 => exact Z28 HI0 GE296); rintro e w7 ⟨rfl, hi, hb, hk⟩; refine ⟨_, rfl, ?_⟩; replace BK296 := Aside0.mk (KeepBut.blk hk (g' := gb296) (o := .cells #[.int .i64 0, .int .i64 0] 24 (0, 0)) (sqK BK296) NB296_0.out (by simp)); replace HK := Aside0.mk (KeepBut.trans (Z37 GW296) hk (.inl rfl)); replace HB := Aside0.mk (hb); replace HI0 := Aside0.mk (hi); (try clear hb); have hnb8 := NB296_0.out; have hnc8 := NB0_296.out; obtain ⟨hcz9_0, hcz9_1, hfz9_0, hfz9_1⟩ := sqY2 BK296))
  refine bodyPost_ret (results_cell_row rfl _ _ gb296 24 #[.int .i64 t299, .int .i64 t300] (0, 0) _ rfl (by refine sqPut (cs := #[.int .i64 t299, .int .i64 0]) ?_ 1; refine sqPut (cs := #[.int .i64 0, .int .i64 0]) ?_ 0; exact sqK BK296) Try.underlying24 rfl (by kernel_rfl)) rfl ?_
  exact ⟨Z14, Z27 HI0 NB0_296, Z28 HI0 GE296, Z37 GW296⟩
 ·replace c3 := Bool.eq_false_iff.mpr c3
  subst c3
  have H1 : ((spec_l20Rd_pick.f k s0_0 t298 13).bind fun bt302 => ((spec_l20Rd_pick.f k s0_0 bt302.2 13).bind fun bt304 => ((spec_l20Rd_pick.f k s0_0 bt304.2 13).bind fun bt306 => ((spec_LowestOf.f k (wrap64 (bt302.1 - bt304.1)) bt306.1).bind fun bt308 => (if bt308.2.2 = true then (some (bt308.1, bt308.2.1, bt306.2)) else (some (1, 0, bt306.2))))))) = some (r1, r2, r3) := by rw [if_neg (show ¬ (false = true) by decide)] at H; exact H
  clear H
  have H := H1
  clear H1
  replace H := Option.bind_eq_some_iff.mp H
  obtain ⟨⟨t302, t303⟩, A100, H⟩ := H
  replace H : ((spec_l20Rd_pick.f k s0_0 t303 13).bind fun bt304 => ((spec_l20Rd_pick.f k s0_0 bt304.2 13).bind fun bt306 => ((spec_LowestOf.f k (wrap64 (t302 - bt304.1)) bt306.1).bind fun bt308 => (if bt308.2.2 = true then (some (bt308.1, bt308.2.1, bt306.2)) else (some (1, 0, bt306.2)))))) = some (r1, r2, r3) := H
  have A10 := Aside0.mk A100
  clear A100
  replace H := Option.bind_eq_some_iff.mp H
  obtain ⟨⟨t304, t305⟩, A110, H⟩ := H
  replace H : ((spec_l20Rd_pick.f k s0_0 t305 13).bind fun bt306 => ((spec_LowestOf.f k (wrap64 (t302 - t304)) bt306.1).bind fun bt308 => (if bt308.2.2 = true then (some (bt308.1, bt308.2.1, bt306.2)) else (some (1, 0, bt306.2))))) = some (r1, r2, r3) := H
  have A11 := Aside0.mk A110
  clear A110
  replace H := Option.bind_eq_some_iff.mp H
  obtain ⟨⟨t306, t307⟩, A120, H⟩ := H
  replace H : ((spec_LowestOf.f k (wrap64 (t302 - t304)) t306).bind fun bt308 => (if bt308.2.2 = true then (some (bt308.1, bt308.2.1, t307)) else (some (1, 0, t307)))) = some (r1, r2, r3) := H
  have A12 := Aside0.mk A120
  clear A120
  replace H := Option.bind_eq_some_iff.mp H
  obtain ⟨⟨t308, t309, t310⟩, A130, H⟩ := H
  replace H : (if t310 = true then (some (t308, t309, t307)) else (some (1, 0, t307))) = some (r1, r2, r3) := H
  have A13 := Aside0.mk A130
  clear A130
  by_cases c14 : t310 = true
  ·subst c14
   have H1 : (some (t308, t309, t307)) = some (r1, r2, r3) := by rw [if_pos rfl] at H; exact H
   clear H
   have H := H1
   clear H1
   simp only [Option.some.injEq, Prod.mk.injEq] at H
   obtain ⟨rfl, rfl, rfl⟩ := H
   go_enter Try.func29, Try.ntmps29
   go_wp2_with (first | ((with_reducible refine gate_dst (N := 2) rfl ?_); refine sqBox (N := 2) (cs := #[.int .i64 0, .int .i64 0]) (t := 24) ?_; intro gb296 hg w15 BK296 hb; replace HB := Aside0.mk (below_step (Z20 HI0) hb); have GW296 := Aside0.mk ((Z77 : w.heap.size ≤ gb296)); have GE296 := Aside0.mk ((Nat.le_trans HW0.out (Z77 : w.heap.size ≤ gb296) : w0.heap.size ≤ gb296)); replace HK := Aside0.mk (KeepBut.trans Z21 (KeepBut.of_below hb g none) (.inl rfl)); have NB0_296 := Aside0.mk ((Z35 HI0 : g ≠ gb296)); have NB296_0 := Aside0.mk ((Z36 HI0 : gb296 ≠ g)); replace HI0 := Aside0.mk (IsS46.below (Z19 HI0) hb); clear hb hg) | ((with_reducible refine gate_callee (f := 18) rfl ?_); refine goesL_ (some 6) rfl rfl Try.func18 (by kernel_rfl) rfl #[.pointer (some ⟨g, 0, none⟩), .int .i64 9] rfl sqA ?_; (with_reducible refine (spec_l20Rd_odd.calls k g s0_0 s0_1 9 false t298 w0 _ ?side1 ?side2 A2.out).mono ?_); (case side1 => exact Z27 HI0 NB0_296); (case side2 => exact Z28 HI0 GE296); rintro e w16 ⟨rfl, hi, hb, hk⟩; refine ⟨_, rfl, ?_⟩; replace BK296 := Aside0.mk (KeepBut.blk hk (g' := gb296) (o := .cells #[.int .i64 0, .int .i64 0] 24 (0, 0)) (sqK BK296) NB296_0.out (by simp)); replace HK := Aside0.mk (KeepBut.trans (Z37 GW296) hk (.inl rfl)); replace HB := Aside0.mk (hb); replace HI0 := Aside0.mk (hi); (try clear hb)) | ((with_reducible refine gate_callee (f := 15) rfl ?_); refine goesL_ (some 11) rfl rfl Try.func15 (by kernel_rfl) rfl #[.pointer (some ⟨g, 0, none⟩), .int .i64 13] rfl sqA ?_; (with_reducible refine (spec_l20Rd_pick.calls k g s0_0 t298 13 t302 t303 w0 _ ?side1 ?side2 A10.out).mono ?_); (case side1 => exact Z27 HI0 NB0_296); (case side2 => exact Z28 HI0 GE296); rintro e w17 ⟨rfl, hi, hb, hk⟩; refine ⟨_, rfl, ?_⟩; replace BK296 := Aside0.mk (KeepBut.blk hk (g' := gb296) (o := .cells #[.int .i64 0, .int .i64 0] 24 (0, 0)) (sqK BK296) NB296_0.out (by simp)); replace HK := Aside0.mk (KeepBut.trans (Z37 GW296) hk (.inl rfl)); replace HB := Aside0.mk (hb); replace HI0 := Aside0.mk (hi); (try clear hb)) | ((with_reducible refine gate_callee (f := 15) rfl ?_); refine goesL_ (some 13) rfl rfl Try.func15 (by kernel_rfl) rfl #[.pointer (some ⟨g, 0, none⟩), .int .i64 13] rfl sqA ?_; (with_reducible refine (spec_l20Rd_pick.calls k g s0_0 t303 13 t304 t305 w0 _ ?side1 ?side2 A11.out).mono ?_); (case side1 => exact Z27 HI0 NB0_296); (case side2 => exact Z28 HI0 GE296); rintro e w18 ⟨rfl, hi, hb, hk⟩; refine ⟨_, rfl, ?_⟩; replace BK296 := Aside0.mk (KeepBut.blk hk (g' := gb296) (o := .cells #[.int .i64 0, .int .i64 0] 24 (0, 0)) (sqK BK296) NB296_0.out (by simp)); replace HK := Aside0.mk (KeepBut.trans (Z37 GW296) hk (.inl rfl)); replace HB := Aside0.mk (hb); replace HI0 := Aside0.mk (hi); (try clear hb)) | ((with_reducible refine gate_callee (f := 15) rfl ?_); refine goesL_ (some 16) rfl rfl Try.func15 (by kernel_rfl) rfl #[.pointer (some ⟨g, 0, none⟩), .int .i64 13] rfl sqA ?_; (with_reducible refine (spec_l20Rd_pick.calls k g s0_0 t305 13 t306 t307 w0 _ ?side1 ?side2 A12.out).mono ?_); (case side1 => exact Z27 HI0 NB0_296); (case side2 => exact Z28 HI0 GE296); rintro e w19 ⟨rfl, hi, hb, hk⟩; refine ⟨_, rfl, ?_⟩; replace BK296 := Aside0.mk (KeepBut.blk hk (g' := gb296) (o := .cells #[.int .i64 0, .int .i64 0] 24 (0, 0)) (sqK BK296) NB296_0.out (by simp)); replace HK := Aside0.mk (KeepBut.trans (Z37 GW296) hk (.inl rfl)); replace HB := Aside0.mk (hb); replace HI0 := Aside0.mk (hi); (try clear hb)) | ((with_reducible refine gate_callee (f := 24) rfl ?_); refine goesL_ (some 17) rfl rfl Try.func24 (by kernel_rfl) rfl #[.int .i64 (wrap64 (t302 - t304)), .int .i64 t306] rfl sqA ?_; (with_reducible refine (spec_LowestOf.calls k (wrap64 (t302 - t304)) t306 t308 t309 true _ A13.out).mono ?_); rintro e w20 ⟨rfl, hb⟩; refine ⟨_, rfl, ?_⟩; replace BK296 := sqT BK296 hb; replace HK := Aside0.mk (KeepBut.trans (Z37 GW296) (KeepBut.of_below hb g none) (.inl rfl)); replace HB := Aside0.mk (below_step (Z28 HI0 GE296) hb); replace HI0 := Aside0.mk (IsS46.below (Z27 HI0 NB0_296) hb); (try clear hb)) | ((with_reducible refine gate_dst (N := 3) rfl ?_); refine sqBox (N := 3) (cs := #[.int .i64 0, .int .i64 0]) (t := 24) ?_; intro gb311 hg w21 BK311 hb; replace HB := Aside0.mk (below_step (Z28 HI0 GE296) hb); have GW311 := Aside0.mk ((Z78 GW296 : w.heap.size ≤ gb311)); have GE311 := Aside0.mk ((Nat.le_trans HW0.out (Z78 GW296 : w.heap.size ≤ gb311) : w0.heap.size ≤ gb311)); replace HK := Aside0.mk (KeepBut.trans (Z37 GW296) (KeepBut.of_below hb g none) (.inl rfl)); obtain ⟨NB296_311, NB311_296⟩ := sqM hg BK296; replace BK296 := sqT BK296 hb; have NB0_311 := Aside0.mk ((Z75 HI0 NB0_296 : g ≠ gb311)); have NB311_0 := Aside0.mk ((Z76 HI0 NB0_296 : gb311 ≠ g)); replace HI0 := Aside0.mk (IsS46.below (Z27 HI0 NB0_296) hb); clear hb hg; have hnb22 := NB311_296.out; have hnc22 := NB296_311.out; have hnb23 := NB311_0.out; have hnc23 := NB0_311.out; obtain ⟨hcz24_0, hcz24_1, hfz24_0, hfz24_1⟩ := sqY2 BK311; have hnb25 := NB296_0.out; have hnc25 := NB0_296.out; obtain ⟨hcz26_0, hcz26_1, hfz26_0, hfz26_1⟩ := sqY2 BK296))
   refine bodyPost_ret (results_cell_row rfl _ _ gb296 24 #[.int .i64 t308, .int .i64 t309] (0, 0) _ rfl (by refine sqPut (cs := #[.int .i64 t308, .int .i64 0]) ?_ 1; refine sqPut (cs := #[.int .i64 0, .int .i64 0]) ?_ 0; refine sqFar ?_ NB296_311; refine sqFar ?_ NB296_311; exact sqK BK296) Try.underlying24 rfl (by kernel_rfl)) rfl ?_
   exact ⟨Z14, Z38 HI0 NB0_296 NB0_311, Z39 HI0 GE296 GE311, Z40 GW296 GW311⟩
  ·replace c14 := Bool.eq_false_iff.mpr c14
   subst c14
   have H1 : (some (1, 0, t307)) = some (r1, r2, r3) := by rw [if_neg (show ¬ (false = true) by decide)] at H; exact H
   clear H
   have H := H1
   clear H1
   simp only [Option.some.injEq, Prod.mk.injEq] at H
   obtain ⟨rfl, rfl, rfl⟩ := H
   go_enter Try.func29, Try.ntmps29
   go_wp2_with (first | ((with_reducible refine gate_dst (N := 2) rfl ?_); refine sqBox (N := 2) (cs := #[.int .i64 0, .int .i64 0]) (t := 24) ?_; intro gb296 hg w27 BK296 hb; replace HB := Aside0.mk (below_step (Z20 HI0) hb); have GW296 := Aside0.mk ((Z77 : w.heap.size ≤ gb296)); have GE296 := Aside0.mk ((Nat.le_trans HW0.out (Z77 : w.heap.size ≤ gb296) : w0.heap.size ≤ gb296)); replace HK := Aside0.mk (KeepBut.trans Z21 (KeepBut.of_below hb g none) (.inl rfl)); have NB0_296 := Aside0.mk ((Z35 HI0 : g ≠ gb296)); have NB296_0 := Aside0.mk ((Z36 HI0 : gb296 ≠ g)); replace HI0 := Aside0.mk (IsS46.below (Z19 HI0) hb); clear hb hg) | ((with_reducible refine gate_callee (f := 18) rfl ?_); refine goesL_ (some 6) rfl rfl Try.func18 (by kernel_rfl) rfl #[.pointer (some ⟨g, 0, none⟩), .int .i64 9] rfl sqA ?_; (with_reducible refine (spec_l20Rd_odd.calls k g s0_0 s0_1 9 false t298 w0 _ ?side1 ?side2 A2.out).mono ?_); (case side1 => exact Z27 HI0 NB0_296); (case side2 => exact Z28 HI0 GE296); rintro e w28 ⟨rfl, hi, hb, hk⟩; refine ⟨_, rfl, ?_⟩; replace BK296 := Aside0.mk (KeepBut.blk hk (g' := gb296) (o := .cells #[.int .i64 0, .int .i64 0] 24 (0, 0)) (sqK BK296) NB296_0.out (by simp)); replace HK := Aside0.mk (KeepBut.trans (Z37 GW296) hk (.inl rfl)); replace HB := Aside0.mk (hb); replace HI0 := Aside0.mk (hi); (try clear hb)) | ((with_reducible refine gate_callee (f := 15) rfl ?_); refine goesL_ (some 11) rfl rfl Try.func15 (by kernel_rfl) rfl #[.pointer (some ⟨g, 0, none⟩), .int .i64 13] rfl sqA ?_; (with_reducible refine (spec_l20Rd_pick.calls k g s0_0 t298 13 t302 t303 w0 _ ?side1 ?side2 A10.out).mono ?_); (case side1 => exact Z27 HI0 NB0_296); (case side2 => exact Z28 HI0 GE296); rintro e w29 ⟨rfl, hi, hb, hk⟩; refine ⟨_, rfl, ?_⟩; replace BK296 := Aside0.mk (KeepBut.blk hk (g' := gb296) (o := .cells #[.int .i64 0, .int .i64 0] 24 (0, 0)) (sqK BK296) NB296_0.out (by simp)); replace HK := Aside0.mk (KeepBut.trans (Z37 GW296) hk (.inl rfl)); replace HB := Aside0.mk (hb); replace HI0 := Aside0.mk (hi); (try clear hb)) | ((with_reducible refine gate_callee (f := 15) rfl ?_); refine goesL_ (some 13) rfl rfl Try.func15 (by kernel_rfl) rfl #[.pointer (some ⟨g, 0, none⟩), .int .i64 13] rfl sqA ?_; (with_reducible refine (spec_l20Rd_pick.calls k g s0_0 t303 13 t304 t305 w0 _ ?side1 ?side2 A11.out).mono ?_); (case side1 => exact Z27 HI0 NB0_296); (case side2 => exact Z28 HI0 GE296); rintro e w30 ⟨rfl, hi, hb, hk⟩; refine ⟨_, rfl, ?_⟩; replace BK296 := Aside0.mk (KeepBut.blk hk (g' := gb296) (o := .cells #[.int .i64 0, .int .i64 0] 24 (0, 0)) (sqK BK296) NB296_0.out (by simp)); replace HK := Aside0.mk (KeepBut.trans (Z37 GW296) hk (.inl rfl)); replace HB := Aside0.mk (hb); replace HI0 := Aside0.mk (hi); (try clear hb)) | ((with_reducible refine gate_callee (f := 15) rfl ?_); refine goesL_ (some 16) rfl rfl Try.func15 (by kernel_rfl) rfl #[.pointer (some ⟨g, 0, none⟩), .int .i64 13] rfl sqA ?_; (with_reducible refine (spec_l20Rd_pick.calls k g s0_0 t305 13 t306 t307 w0 _ ?side1 ?side2 A12.out).mono ?_); (case side1 => exact Z27 HI0 NB0_296); (case side2 => exact Z28 HI0 GE296); rintro e w31 ⟨rfl, hi, hb, hk⟩; refine ⟨_, rfl, ?_⟩; replace BK296 := Aside0.mk (KeepBut.blk hk (g' := gb296) (o := .cells #[.int .i64 0, .int .i64 0] 24 (0, 0)) (sqK BK296) NB296_0.out (by simp)); replace HK := Aside0.mk (KeepBut.trans (Z37 GW296) hk (.inl rfl)); replace HB := Aside0.mk (hb); replace HI0 := Aside0.mk (hi); (try clear hb)) | ((with_reducible refine gate_callee (f := 24) rfl ?_); refine goesL_ (some 17) rfl rfl Try.func24 (by kernel_rfl) rfl #[.int .i64 (wrap64 (t302 - t304)), .int .i64 t306] rfl sqA ?_; (with_reducible refine (spec_LowestOf.calls k (wrap64 (t302 - t304)) t306 t308 t309 false _ A13.out).mono ?_); rintro e w32 ⟨rfl, hb⟩; refine ⟨_, rfl, ?_⟩; replace BK296 := sqT BK296 hb; replace HK := Aside0.mk (KeepBut.trans (Z37 GW296) (KeepBut.of_below hb g none) (.inl rfl)); replace HB := Aside0.mk (below_step (Z28 HI0 GE296) hb); replace HI0 := Aside0.mk (IsS46.below (Z27 HI0 NB0_296) hb); (try clear hb)) | ((with_reducible refine gate_dst (N := 3) rfl ?_); refine sqBox (N := 3) (cs := #[.int .i64 0, .int .i64 0]) (t := 24) ?_; intro gb311 hg w33 BK311 hb; replace HB := Aside0.mk (below_step (Z28 HI0 GE296) hb); have GW311 := Aside0.mk ((Z78 GW296 : w.heap.size ≤ gb311)); have GE311 := Aside0.mk ((Nat.le_trans HW0.out (Z78 GW296 : w.heap.size ≤ gb311) : w0.heap.size ≤ gb311)); replace HK := Aside0.mk (KeepBut.trans (Z37 GW296) (KeepBut.of_below hb g none) (.inl rfl)); obtain ⟨NB296_311, NB311_296⟩ := sqM hg BK296; replace BK296 := sqT BK296 hb; have NB0_311 := Aside0.mk ((Z75 HI0 NB0_296 : g ≠ gb311)); have NB311_0 := Aside0.mk ((Z76 HI0 NB0_296 : gb311 ≠ g)); replace HI0 := Aside0.mk (IsS46.below (Z27 HI0 NB0_296) hb); clear hb hg; have hnb34 := NB311_296.out; have hnc34 := NB296_311.out; have hnb35 := NB311_0.out; have hnc35 := NB0_311.out; obtain ⟨hcz36_0, hcz36_1, hfz36_0, hfz36_1⟩ := sqY2 BK311; have hnb37 := NB296_0.out; have hnc37 := NB0_296.out; obtain ⟨hcz38_0, hcz38_1, hfz38_0, hfz38_1⟩ := sqY2 BK296))
   refine bodyPost_ret (results_cell_row rfl _ _ gb296 24 #[.int .i64 1, .int .i64 0] (0, 0) _ rfl (by refine sqPut (cs := #[.int .i64 1, .int .i64 0]) ?_ 1; refine sqPut (cs := #[.int .i64 0, .int .i64 0]) ?_ 0; refine sqFar ?_ NB296_311; refine sqFar ?_ NB296_311; exact sqK BK296) Try.underlying24 rfl (by kernel_rfl)) rfl ?_
   exact ⟨Z14, Z38 HI0 NB0_296 NB0_311, Z39 HI0 GE296 GE311, Z40 GW296 GW311⟩

end Go.Proofs.Ytcfnihniaakbeaa.PFnDeskOk
