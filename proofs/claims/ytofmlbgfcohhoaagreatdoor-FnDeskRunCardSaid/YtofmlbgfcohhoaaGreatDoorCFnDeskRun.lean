/- The walk of the law FnDeskRun, for the answer true: turned by a program of this session from the printed walk. -/
import Derived.Test.YtofmlbgfcohhoaaGreatDoorPFnDeskRunx0
import Derived.Test.YtofmlbgfcohhoaaGreatDoorPFnDeskRunx1
import Derived.Test.YtofmlbgfcohhoaaGreatDoorPFnDeskRunx2
import Derived.Test.YtofmlbgfcohhoaaGreatDoorPFnDeskRunx3
import Derived.Test.YtofmlbgfcohhoaaGreatDoorPFnDeskRunx4
import Derived.Test.YtofmlbgfcohhoaaGreatDoorPFnDeskRunx5
import Derived.Test.YtofmlbgfcohhoaaGreatDoorPFnDeskRunx6
import Derived.Test.YtofmlbgfcohhoaaGreatDoorPFnDeskRunx7
import Derived.Test.YtofmlbgfcohhoaaGreatDoorPFnDeskRunx8
import Derived.Test.YtofmlbgfcohhoaaGreatDoorPFnDeskRunx9
import Derived.Test.YtofmlbgfcohhoaaGreatDoorPFnDeskRunx10
import Derived.Test.YtofmlbgfcohhoaaGreatDoorPFnDeskRunx11
import Derived.Test.YtofmlbgfcohhoaaGreatDoorPFnDeskRunx12
import Derived.Test.YtofmlbgfcohhoaaGreatDoorPFnDeskRunx13
import Derived.Test.YtofmlbgfcohhoaaGreatDoorPFnDeskRunx14
import Derived.Test.YtofmlbgfcohhoaaGreatDoorPFnDeskRunx15
import Derived.Test.YtofmlbgfcohhoaaGreatDoorPFnDeskRunx16
import Derived.Test.YtofmlbgfcohhoaaGreatDoorPFnDeskRunx17
import Derived.Test.YtofmlbgfcohhoaaGreatDoorPFnDeskRunx18
import Derived.Test.YtofmlbgfcohhoaaGreatDoorPFnDeskRunx19
import Derived.Test.YtofmlbgfcohhoaaGreatDoorPFnDeskRunx20
import Derived.Test.YtofmlbgfcohhoaaGreatDoorPFnDeskRunx21
namespace Go.Proofs.YtofmlbgfcohhoaaGreatDoor.PFnDeskRun
open Go.RowKit Go.Proofs.YtofmlbgfcohhoaaGreatDoorW.PrintWords Go.Proofs.YtofmlbgfcohhoaaGreatDoorW.PrintLast Go.Proofs.YtofmlbgfcohhoaaGreatDoorW.PrintMore Go.Proofs.YtofmlbgfcohhoaaGreatDoor.Lib
attribute [local go_sem] max2_int min2_int max_two min_two max_three min_three max_four min_four   -- for this text's walks alone
set_option linter.unusedVariables false
set_option linter.unusedSimpArgs false

/-! ### laws_FnDeskRun: function 5 -/
mutual
def laws_FnDeskRun.j0 : Nat → List (S38) → Int → Bool → Int → Int → List (S31) → Int → Int → List (S31) → Option (Bool)
 | 0, _, _, _, _, _, _, _, _, _ => none
 | k + 1, x4, x6, x42, x565000, x565001, x565002, x572000, x572001, x572002 => if x42 = true then (some false) else ((spec_DeskOk.f k x565000 x565001 x565002).bind fun t580 => (if t580 = true then (laws_FnDeskRun.j1 k x4 x6 (decide ((x4.length : Int) > 40)) x565000 x565001 x565002 x572000 x572001 x572002) else (laws_FnDeskRun.j1 k x4 x6 true x565000 x565001 x565002 x572000 x572001 x572002)))
def laws_FnDeskRun.j1 : Nat → List (S38) → Int → Bool → Int → Int → List (S31) → Int → Int → List (S31) → Option (Bool)
 | 0, _, _, _, _, _, _, _, _, _ => none
 | k + 1, x4, x6, x50, x565000, x565001, x565002, x572000, x572001, x572002 => if x50 = true then (if x6 = 0 then ((laws_noDesk.f k x572000 x572001 x572002).bind fun t581 => (if t581 = true then ((laws_alive.f k).bind fun t582 => (some t582)) else (some false))) else (some false)) else (if 0 ≤ (wrap64 ((x4.length : Int) / 2)) then (if (wrap64 ((x4.length : Int) / 2)) ≤ (x4.length : Int) then ((impl_DeskRun.f k x565000 x565001 x565002 (x4.take ((wrap64 ((x4.length : Int) / 2)) : Int).toNat)).bind fun bt587 => ((impl_DeskRun.f k bt587.1 bt587.2.1 bt587.2.2.1 (x4.drop ((wrap64 ((x4.length : Int) / 2)) : Int).toNat)).bind fun bt598 => ((impl_DeskOk.f k x572000 x572001 x572002).bind fun t605 => (if t605 = true then ((laws_sameDesk.f k bt598.1 bt598.2.1 bt598.2.2.1 x572000 x572001 x572002).bind fun t606 => (if t606 = true then (some ((wrap64 (bt587.2.2.2 + bt598.2.2.2)) == x6)) else (some false))) else (some false))))) else (none)) else (none))
end
def laws_FnDeskRun.f (k : Nat) (l0 : List Int) : Option (Bool) := if (l0.length : Int) > 1048576 then (some true) else ((spec_DrawDeskRun.f k l0).bind fun bt556 => ((impl_DeskRun.f k bt556.1 bt556.2.1 bt556.2.2.1 bt556.2.2.2).bind fun bt565 => ((spec_DeskRun.f k bt556.1 bt556.2.1 bt556.2.2.1 bt556.2.2.2).bind fun bt572 => ((laws_sameDesk.f k bt565.1 bt565.2.1 bt565.2.2.1 bt572.1 bt572.2.1 bt572.2.2.1).bind fun t579 => (if t579 = true then (laws_FnDeskRun.j0 k bt556.2.2.2 bt565.2.2.2 (bt565.2.2.2 != bt572.2.2.2) bt556.1 bt556.2.1 bt556.2.2.1 bt565.1 bt565.2.1 bt565.2.2.1) else (laws_FnDeskRun.j0 k bt556.2.2.2 bt565.2.2.2 true bt556.1 bt556.2.1 bt556.2.2.1 bt565.1 bt565.2.1 bt565.2.2.1))))))
theorem laws_FnDeskRun.mono_l : ∀ k, (∀ y0 y1 y2 y3 y4 y5 y6 y7 y8, LeO (laws_FnDeskRun.j0 k y0 y1 y2 y3 y4 y5 y6 y7 y8) (laws_FnDeskRun.j0 (k + 1) y0 y1 y2 y3 y4 y5 y6 y7 y8)) ∧ (∀ y0 y1 y2 y3 y4 y5 y6 y7 y8, LeO (laws_FnDeskRun.j1 k y0 y1 y2 y3 y4 y5 y6 y7 y8) (laws_FnDeskRun.j1 (k + 1) y0 y1 y2 y3 y4 y5 y6 y7 y8))
 | 0 => ⟨fun _ _ _ _ _ _ _ _ _ r h => by simp [laws_FnDeskRun.j0] at h, fun _ _ _ _ _ _ _ _ _ r h => by simp [laws_FnDeskRun.j1] at h⟩
 | k + 1 => by
  obtain ⟨ih0, ih1⟩ := laws_FnDeskRun.mono_l k
  refine ⟨?_, ?_⟩
  ·intro y0 y1 y2 y3 y4 y5 y6 y7 y8
   unfold laws_FnDeskRun.j0
   repeat' first
   | (with_reducible exact ih0 _ _ _ _ _ _ _ _ _)
   | (with_reducible exact ih1 _ _ _ _ _ _ _ _ _)
   | (with_reducible exact impl_DeskOk.mono _ _ _ _)
   | (with_reducible exact impl_DeskRun.mono _ _ _ _ _)
   | (with_reducible exact laws_alive.mono _)
   | (with_reducible exact laws_noDesk.mono _ _ _ _)
   | (with_reducible exact laws_sameDesk.mono _ _ _ _ _ _ _)
   | (with_reducible exact spec_DeskOk.mono _ _ _ _)
   | (with_reducible exact spec_DeskRun.mono _ _ _ _ _)
   | (with_reducible exact spec_DrawDeskRun.mono _ _)
   | (with_reducible exact LeO.refl _)
   | (with_reducible exact LeO.none _)
   | (with_reducible refine LeO.ite ?_ ?_)
   | (with_reducible refine LeO.bind ?_ (fun _ => ?_))
  ·intro y0 y1 y2 y3 y4 y5 y6 y7 y8
   unfold laws_FnDeskRun.j1
   repeat' first
   | (with_reducible exact ih0 _ _ _ _ _ _ _ _ _)
   | (with_reducible exact ih1 _ _ _ _ _ _ _ _ _)
   | (with_reducible exact impl_DeskOk.mono _ _ _ _)
   | (with_reducible exact impl_DeskRun.mono _ _ _ _ _)
   | (with_reducible exact laws_alive.mono _)
   | (with_reducible exact laws_noDesk.mono _ _ _ _)
   | (with_reducible exact laws_sameDesk.mono _ _ _ _ _ _ _)
   | (with_reducible exact spec_DeskOk.mono _ _ _ _)
   | (with_reducible exact spec_DeskRun.mono _ _ _ _ _)
   | (with_reducible exact spec_DrawDeskRun.mono _ _)
   | (with_reducible exact LeO.refl _)
   | (with_reducible exact LeO.none _)
   | (with_reducible refine LeO.ite ?_ ?_)
   | (with_reducible refine LeO.bind ?_ (fun _ => ?_))
theorem laws_FnDeskRun.mono : ∀ a0 k, LeO (laws_FnDeskRun.f k a0) (laws_FnDeskRun.f (k + 1) a0) := by
 intro a0 k
 obtain ⟨ih0, ih1⟩ := laws_FnDeskRun.mono_l k
 unfold laws_FnDeskRun.f
 repeat' first
   | (with_reducible exact ih0 _ _ _ _ _ _ _ _ _)
   | (with_reducible exact ih1 _ _ _ _ _ _ _ _ _)
   | (with_reducible exact impl_DeskOk.mono _ _ _ _)
   | (with_reducible exact impl_DeskRun.mono _ _ _ _ _)
   | (with_reducible exact laws_alive.mono _)
   | (with_reducible exact laws_noDesk.mono _ _ _ _)
   | (with_reducible exact laws_sameDesk.mono _ _ _ _ _ _ _)
   | (with_reducible exact spec_DeskOk.mono _ _ _ _)
   | (with_reducible exact spec_DeskRun.mono _ _ _ _ _)
   | (with_reducible exact spec_DrawDeskRun.mono _ _)
   | (with_reducible exact LeO.refl _)
   | (with_reducible exact LeO.none _)
   | (with_reducible refine LeO.ite ?_ ?_)
   | (with_reducible refine LeO.bind ?_ (fun _ => ?_))
def laws_FnDeskRun.T11 : Bool × List (List Nat × List Nat) := (true, [([], []), ([], []), ([], []), ([1, 2], [1, 2]), ([0, 3], [0, 3]), ([4], [4]), ([5], [5]), ([5], [5]), ([], []), ([8, 6, 4, 0, 1, 2, 3, 4, 5, 6, 8], [6, 8]), ([7, 9, 0, 1, 2, 3, 4, 5, 6, 7, 8, 9], [7])])
def laws_FnDeskRun.B11 : List Nat := [0, 0, 0, 6, 15, 31, 63, 63, 0, 383, 1023]
theorem laws_FnDeskRun.tab11 : rtab .any (opsOf Tryz.f5 11) = laws_FnDeskRun.T11 := by kernel_rfl
theorem laws_FnDeskRun.bits11 : waitsOk laws_FnDeskRun.T11.2 laws_FnDeskRun.B11 = true := by kernel_rfl
def laws_FnDeskRun.T12 : Bool × List (List Nat × List Nat) := (true, [([], []), ([], []), ([], []), ([1, 2], [1, 2]), ([0, 3], [0, 3]), ([4], [4]), ([5], [5]), ([5], [5]), ([], []), ([8, 6, 4, 0, 1, 2, 3, 4, 5, 6, 8], [6, 8]), ([7, 9, 0, 1, 2, 3, 4, 5, 6, 7, 8, 9], [7])])
def laws_FnDeskRun.B12 : List Nat := [0, 0, 0, 6, 15, 31, 63, 63, 0, 383, 1023]
theorem laws_FnDeskRun.tab12 : rtab .any (opsOf Tryz.f5 12) = laws_FnDeskRun.T12 := by kernel_rfl
theorem laws_FnDeskRun.bits12 : waitsOk laws_FnDeskRun.T12.2 laws_FnDeskRun.B12 = true := by kernel_rfl
set_option maxHeartbeats 8000000 in
set_option maxRecDepth 100000 in
theorem laws_FnDeskRun.calls (k : Nat) (A0 : Option Addr) (c0 : Nat) (l0 : List Int) (r : Bool) (w : World) (hG : Glob w) (hr0 : Kd.C (Kd.int .u8) w A0 l0.length l0) (hc0 : l0.length ≤ c0) (hT : Aside0 (r = true)) (h : laws_FnDeskRun.f k l0 = some r) :
  Calls Tryz.prog 5 #[.slice A0 l0.length c0] w fun e w' => e = .returned (.bool r) ∧ Below w.heap.size w w' := by
 have hu34 := Tryz.underlying34
 have HR0 := Aside0.mk hr0
 have HC0 := Aside0.mk hc0
 clear hr0 hc0
 have HB := Aside0.mk (Below.refl w.heap.size w)
 have H : (if (l0.length : Int) > 1048576 then (some true) else ((spec_DrawDeskRun.f k l0).bind fun bt556 => ((impl_DeskRun.f k bt556.1 bt556.2.1 bt556.2.2.1 bt556.2.2.2).bind fun bt565 => ((spec_DeskRun.f k bt556.1 bt556.2.1 bt556.2.2.1 bt556.2.2.2).bind fun bt572 => ((laws_sameDesk.f k bt565.1 bt565.2.1 bt565.2.2.1 bt572.1 bt572.2.1 bt572.2.2.1).bind fun t579 => (if t579 = true then (laws_FnDeskRun.j0 k bt556.2.2.2 bt565.2.2.2 (bt565.2.2.2 != bt572.2.2.2) bt556.1 bt556.2.1 bt556.2.2.1 bt565.1 bt565.2.1 bt565.2.2.1) else (laws_FnDeskRun.j0 k bt556.2.2.2 bt565.2.2.2 true bt556.1 bt556.2.1 bt556.2.2.1 bt565.1 bt565.2.1 bt565.2.2.1))))))) = some r := h
 clear h
 by_cases c2 : (l0.length : Int) > 1048576
 ·rw [if_pos c2] at H
  have c2b0 : decide (1048576 < (l0.length : Int)) = true := decide_eq_true c2
  have c2b1 : decide (1048576 < l0.length) = true := decide_eq_true (by omega)
  clear c2
  obtain rfl := Option.some.inj H
  go_enter Tryz.func5, Tryz.ntmps5
  go_wp2
  go_ret
  exact ⟨Z15, sqB HB⟩
 ·rw [if_neg c2] at H
  have c2b0 : decide (1048576 < (l0.length : Int)) = false := decide_eq_false c2
  have c2b1 : decide (1048576 < l0.length) = false := decide_eq_false (by omega)
  clear c2
  obtain ⟨⟨t556, t557, t558, t561⟩, A3, H⟩ := sqD H
  try dsimp only at H
  obtain ⟨⟨t565, t566, t567, t570⟩, A4, H⟩ := sqD H
  try dsimp only at H
  obtain ⟨⟨t572, t573, t574, t577⟩, A5, H⟩ := sqD H
  try dsimp only at H
  have HC6 := Aside0.mk H
  clear H
  go_enter Tryz.func5, Tryz.ntmps5
  go_upto_region 6 with (first | ((with_reducible refine gate_callee (f := 27) rfl ?_); refine goesL_ (some 19) rfl rfl Tryz.func27 (by kernel_rfl) rfl #[.slice A0 l0.length c0] rfl sqA ?_; (with_reducible refine (spec_DrawDeskRun.calls k _ _ l0 t556 t557 t558 t561 _ ?side1 ?side2 A3.out).mono ?_); (case side1 => exact Z56 HR0); (case side2 => exact HC0.out); rintro e w7 ⟨v559, v562, rfl, ho0, ho1, hb⟩; refine ⟨_, rfl, ?_⟩; have HO560 := Aside0.mk (Kd.Q_lower ho0 (below_size (sqB HB))); have HO563 := sqL ho1 (sqB HB); replace HB := sqS (sqB HB) hb; (try clear hb); (try clear ho0); (try clear ho1)) | ((with_reducible refine gate_dst (N := 3) rfl ?_); (try (refine gate_guard (by rfl) ?_; dsimp only)); refine sqBox (N := 3) (cs := #[.int .i64 0, .int .i64 0, .slice none 0 0]) (t := 34) ?_; intro gb564 hg w8 BK564 hb; replace HO560 := Aside0.mk (Kd.Q_below (Z10 HO560) hb); replace HO563 := sqU HO563 hb; have GW564 := Aside0.mk ((sqG hg (sqB HB))); have GE564 := GW564; replace HB := sqS (sqB HB) hb; clear hb hg; obtain ⟨hcz9_0, hcz9_1, hcz9_2, hfz9_0, hfz9_1, hfz9_2⟩ := sqY3 BK564; obtain ⟨Ao10, co10, eo10, _⟩ := Kd.Q_slice HO560.out; subst eo10; obtain ⟨Ao11, co11, eo11⟩ := Kd.R_slice HO563.out; subst eo11) | ((with_reducible refine gate_callee (f := 28) rfl ?_); refine goesL_ (some 25) rfl rfl Tryz.func28 (by kernel_rfl) rfl #[.agg #[.int .i64 t556, .int .i64 t557, .slice Ao10 t558.length co10], .slice Ao11 t561.length co11] rfl sqA ?_; (with_reducible refine (impl_DeskRun.calls k t556 t557 _ _ t558 _ _ t561 t565 t566 t567 t570 _ ?sideG ?side1 ?side2 ?side3 ?side4 A4.out).mono ?_); (case sideG => exact Z74 GE564); (case side1 => refine (Kd.Q_reads' (e := 31) (base := w.heap.size) (ok := fun k_ => True) (n := t558.length) (c := co10) ?_).2.2; exact (Z89 HO560 BK564)); (case side2 => exact Z43 HO560); (case side3 => refine (Kd.R_reads' (e := 38) (base := w.heap.size) (ok := fun k_ => True) (n := t561.length) (c := co11) ?_).2.2; exact (Z90 HO563 BK564)); (case side4 => exact Z45 HO563); rintro e w12 ⟨v568, rfl, ho0, hb⟩; refine ⟨_, rfl, ?_⟩; replace HO563 := Aside0.mk (Kd.R_below (Z90 HO563 BK564) hb); have HO569 := Aside0.mk (Kd.R_lower (Kd.R_new' ho0 (Kd.Q_lt (Z89 HO560 BK564))) (below_size (sqB1 HB GE564))); replace HO560 := Aside0.mk (Kd.Q_elder' (Z89 HO560 BK564) (Kd.R_base ho0) hb); replace BK564 := Aside0.mk (blk_below (g := gb564) (o := .cells #[.int .i64 t556, .int .i64 t557, .slice Ao10 t558.length co10] 34 (0, 0)) (by refine sqPut (cs := #[.int .i64 t556, .int .i64 t557, .slice none 0 0]) ?_ 2; refine sqPut (cs := #[.int .i64 t556, .int .i64 0, .slice none 0 0]) ?_ 1; refine sqPut (cs := #[.int .i64 0, .int .i64 0, .slice none 0 0]) ?_ 0; exact sqK BK564) hb); replace HB := sqS (sqB1 HB GE564) hb; (try clear hb); (try clear ho0)) | ((with_reducible refine gate_dst (N := 5) rfl ?_); (try (refine gate_guard (by rfl) ?_; dsimp only)); refine sqBox (N := 5) (cs := #[.int .i64 0, .int .i64 0, .slice none 0 0]) (t := 34) ?_; intro gb571 hg w13 BK571 hb; replace HO560 := Aside0.mk (Kd.Q_below (Z10 HO560) hb); replace HO563 := sqU HO563 hb; replace HO569 := sqU HO569 hb; have GW571 := Aside0.mk ((sqG hg (sqB1 HB GE564))); have GE571 := GW571; replace HB := sqS (sqB1 HB GE564) hb; obtain ⟨NB564_571, NB571_564⟩ := sqM hg BK564; replace BK564 := sqT BK564 hb; clear hb hg; have hnb14 := NB571_564.out; have hnc14 := NB564_571.out; obtain ⟨hcz15_0, hcz15_1, hcz15_2, hfz15_0, hfz15_1, hfz15_2⟩ := sqY3 BK571; obtain ⟨Ao16, co16, eo16⟩ := Kd.R_slice HO569.out; subst eo16; obtain ⟨hcz17_0, hcz17_1, hcz17_2, hfz17_0, hfz17_1, hfz17_2⟩ := sqY3 BK564) | ((with_reducible refine gate_callee (f := 29) rfl ?_); refine goesL_ (some 31) rfl rfl Tryz.func29 (by kernel_rfl) rfl #[.agg #[.int .i64 t556, .int .i64 t557, .slice Ao10 t558.length co10], .slice Ao11 t561.length co11] rfl sqA ?_; (with_reducible refine (spec_DeskRun.calls k t556 t557 _ _ t558 _ _ t561 t572 t573 t574 t577 _ ?side1 ?side2 ?side3 ?side4 A5.out).mono ?_); (case side1 => refine (Kd.Q_reads' (e := 31) (base := w.heap.size) (ok := fun k_ => (True ∧ some k_ ≠ (.slice Ao16 t567.length co16 : Value).ownBlock)) (n := t558.length) (c := co10) ?_).2.2; exact (Z91 HO560 BK571)); (case side2 => exact Z43 HO560); (case side3 => refine (Kd.R_reads' (e := 38) (base := w.heap.size) (ok := fun k_ => True) (n := t561.length) (c := co11) ?_).2.2; exact (Z92 HO563 BK571)); (case side4 => exact Z45 HO563); rintro e w18 ⟨v575, rfl, ho0, hb⟩; refine ⟨_, rfl, ?_⟩; replace HO563 := Aside0.mk (Kd.R_below (Z92 HO563 BK571) hb); have HO576 := Aside0.mk (Kd.Q_lower (Kd.Q_new' (Kd.Q_new' ho0 (Kd.Q_lt (Z91 HO560 BK571))) (Kd.R_lt (Z92 HO569 BK571))) (below_size (sqB2 HB GE564 GE571))); replace HO560 := Aside0.mk (Kd.Q_elder' (Z91 HO560 BK571) (Kd.Q_base ho0) hb); replace HO569 := Aside0.mk (Kd.R_elder' (Z92 HO569 BK571) (Kd.Q_base ho0) hb); replace BK564 := Aside0.mk (blk_below (g := gb564) (o := .cells #[.int .i64 t556, .int .i64 t557, .slice Ao10 t558.length co10] 34 (0, 0)) (Z5 NB564_571 BK564) hb); replace BK571 := Aside0.mk (blk_below (g := gb571) (o := .cells #[.int .i64 t565, .int .i64 t566, .slice Ao16 t567.length co16] 34 (0, 0)) (by refine sqPut (cs := #[.int .i64 t565, .int .i64 t566, .slice none 0 0]) ?_ 2; refine sqPut (cs := #[.int .i64 t565, .int .i64 0, .slice none 0 0]) ?_ 1; refine sqPut (cs := #[.int .i64 0, .int .i64 0, .slice none 0 0]) ?_ 0; exact sqK BK571) hb); replace HB := sqS (sqB2 HB GE564 GE571) hb; (try clear hb); (try clear ho0)) | ((with_reducible refine gate_dst (N := 7) rfl ?_); (try (refine gate_guard (by rfl) ?_; dsimp only)); refine sqBox (N := 7) (cs := #[.int .i64 0, .int .i64 0, .slice none 0 0]) (t := 34) ?_; intro gb578 hg w19 BK578 hb; replace HO560 := Aside0.mk (Kd.Q_below (Z10 HO560) hb); replace HO563 := sqU HO563 hb; replace HO569 := sqU HO569 hb; replace HO576 := Aside0.mk (Kd.Q_below (Z10 HO576) hb); have GW578 := Aside0.mk ((sqG hg (sqB2 HB GE564 GE571))); have GE578 := GW578; replace HB := sqS (sqB2 HB GE564 GE571) hb; obtain ⟨NB564_578, NB578_564⟩ := sqM hg BK564; replace BK564 := sqT BK564 hb; obtain ⟨NB571_578, NB578_571⟩ := sqM hg BK571; replace BK571 := sqT BK571 hb; clear hb hg; have hnb20 := NB578_564.out; have hnc20 := NB564_578.out; have hnb21 := NB578_571.out; have hnc21 := NB571_578.out; obtain ⟨hcz22_0, hcz22_1, hcz22_2, hfz22_0, hfz22_1, hfz22_2⟩ := sqY3 BK578; obtain ⟨Ao23, co23, eo23, _⟩ := Kd.Q_slice HO576.out; subst eo23))
  (try simp only [Act.put, List.setIfInBounds_toArray, List.set_cons_zero, List.set_cons_succ])
  go_cut [42] (fun v42 wc => ∃ (kq : Nat) (x42_5 : Bool), v42 = .bool x42_5 ∧ Aside0 (laws_FnDeskRun.j0 kq t561 t570 x42_5 t556 t557 t558 t565 t566 t567 = some r) ∧ Aside0 (kq ≤ k) ∧ Aside0 (Kd.R k38 38 wc w.heap.size (fun _ => True) (.slice Ao11 t561.length co11) t561) ∧ Aside0 (Kd.Q k31 31 wc w.heap.size (fun k_ => some k_ ≠ ((.slice Ao16 t567.length co16) : Value).ownBlock ∧ some k_ ≠ ((.slice Ao23 t574.length co23) : Value).ownBlock) (.slice Ao10 t558.length co10) t558) ∧ Aside0 (Kd.R k31 31 wc w.heap.size (fun k_ => some k_ ≠ ((.slice Ao10 t558.length co10) : Value).ownBlock ∧ some k_ ≠ ((.slice Ao23 t574.length co23) : Value).ownBlock) (.slice Ao16 t567.length co16) t567) ∧ Aside0 (Kd.Q k31 31 wc w.heap.size (fun k_ => some k_ ≠ ((.slice Ao10 t558.length co10) : Value).ownBlock ∧ some k_ ≠ ((.slice Ao16 t567.length co16) : Value).ownBlock) (.slice Ao23 t574.length co23) t574) ∧ Aside0 (wc.heap[gb564]? = some (.cells #[.int .i64 t556, .int .i64 t557, (.slice Ao10 t558.length co10)] 34 (0, 0))) ∧ Aside0 (wc.heap[gb571]? = some (.cells #[.int .i64 t565, .int .i64 t566, (.slice Ao16 t567.length co16)] 34 (0, 0))) ∧ Aside0 (wc.heap[gb578]? = some (.cells #[.int .i64 t572, .int .i64 t573, (.slice Ao23 t574.length co23)] 34 (0, 0))) ∧ Aside0 (Below w.heap.size w wc))
  case first =>
   have H := HC6.out
   clear HC6
   obtain ⟨t579, A24, H⟩ := sqD H
   by_cases c25 : t579 = true
   ·subst c25
    rw [if_pos rfl] at H
    have H' := Aside0.mk H
    clear H
    have hnb26 := NB571_564.out
    have hnc26 := NB564_571.out
    have hnb27 := NB571_578.out
    have hnc27 := NB578_571.out
    obtain ⟨hcz28_0, hcz28_1, hcz28_2, hfz28_0, hfz28_1, hfz28_2⟩ := sqY3 BK571
    have hnb29 := NB578_564.out
    have hnc29 := NB564_578.out
    obtain ⟨hcz30_0, hcz30_1, hcz30_2, hfz30_0, hfz30_1, hfz30_2⟩ := sqY3 BK578
    go_wp2_with (first | ((with_reducible refine gate_callee (f := 22) rfl ?_); refine goesL_ (some 36) rfl rfl Tryz.func22 (by kernel_rfl) rfl #[.agg #[.int .i64 t565, .int .i64 t566, .slice Ao16 t567.length co16], .agg #[.int .i64 t572, .int .i64 t573, .slice Ao23 t574.length co23]] rfl sqA ?_; (with_reducible refine (laws_sameDesk.calls k t565 t566 _ _ t567 t572 t573 _ _ t574 true _ ?side1 ?side2 ?side3 ?side4 A24.out).mono ?_); (case side1 => exact Z123 HO569 BK578); (case side2 => exact Z45 HO569); (case side3 => exact Z124 HO576 BK578); (case side4 => exact Z43 HO576); rintro e w31 ⟨rfl, hb⟩; refine ⟨_, rfl, ?_⟩; replace HO560 := Aside0.mk (Kd.Q_below (Z94 HO560 BK578) hb); replace HO563 := Aside0.mk (Kd.R_below (Z93 HO563 BK578) hb); replace HO569 := Aside0.mk (Kd.R_below (Z93 HO569 BK578) hb); replace HO576 := Aside0.mk (Kd.Q_below (Z94 HO576 BK578) hb); replace BK564 := Aside0.mk (blk_below (g := gb564) (o := .cells #[.int .i64 t556, .int .i64 t557, .slice Ao10 t558.length co10] 34 (0, 0)) (Z5 NB564_578 BK564) hb); replace BK571 := Aside0.mk (blk_below (g := gb571) (o := .cells #[.int .i64 t565, .int .i64 t566, .slice Ao16 t567.length co16] 34 (0, 0)) (Z5 NB571_578 BK571) hb); replace BK578 := Aside0.mk (blk_below (g := gb578) (o := .cells #[.int .i64 t572, .int .i64 t573, .slice Ao23 t574.length co23] 34 (0, 0)) (Z95 BK578) hb); replace HB := sqS (sqB3 HB GE564 GE571 GE578) hb; (try clear hb)))
    go_meet
    case rel => exact ⟨_, ((t570 != t577)), Z2, H', ⟨Z3⟩, ⟨sqR HO563⟩, ⟨Z96 HO560⟩, ⟨Z97 HO569⟩, ⟨Z96 HO576⟩, ⟨sqK BK564⟩, ⟨sqK BK571⟩, ⟨sqK BK578⟩, ⟨sqB3 HB GE564 GE571 GE578⟩⟩
   ·replace c25 := Bool.eq_false_iff.mpr c25
    subst c25
    rw [if_neg sqF] at H
    have H' := Aside0.mk H
    clear H
    have hnb32 := NB571_564.out
    have hnc32 := NB564_571.out
    have hnb33 := NB571_578.out
    have hnc33 := NB578_571.out
    obtain ⟨hcz34_0, hcz34_1, hcz34_2, hfz34_0, hfz34_1, hfz34_2⟩ := sqY3 BK571
    have hnb35 := NB578_564.out
    have hnc35 := NB564_578.out
    obtain ⟨hcz36_0, hcz36_1, hcz36_2, hfz36_0, hfz36_1, hfz36_2⟩ := sqY3 BK578
    go_wp2_with (first | ((with_reducible refine gate_callee (f := 22) rfl ?_); refine goesL_ (some 36) rfl rfl Tryz.func22 (by kernel_rfl) rfl #[.agg #[.int .i64 t565, .int .i64 t566, .slice Ao16 t567.length co16], .agg #[.int .i64 t572, .int .i64 t573, .slice Ao23 t574.length co23]] rfl sqA ?_; (with_reducible refine (laws_sameDesk.calls k t565 t566 _ _ t567 t572 t573 _ _ t574 false _ ?side1 ?side2 ?side3 ?side4 A24.out).mono ?_); (case side1 => exact Z123 HO569 BK578); (case side2 => exact Z45 HO569); (case side3 => exact Z124 HO576 BK578); (case side4 => exact Z43 HO576); rintro e w37 ⟨rfl, hb⟩; refine ⟨_, rfl, ?_⟩; replace HO560 := Aside0.mk (Kd.Q_below (Z94 HO560 BK578) hb); replace HO563 := Aside0.mk (Kd.R_below (Z93 HO563 BK578) hb); replace HO569 := Aside0.mk (Kd.R_below (Z93 HO569 BK578) hb); replace HO576 := Aside0.mk (Kd.Q_below (Z94 HO576 BK578) hb); replace BK564 := Aside0.mk (blk_below (g := gb564) (o := .cells #[.int .i64 t556, .int .i64 t557, .slice Ao10 t558.length co10] 34 (0, 0)) (Z5 NB564_578 BK564) hb); replace BK571 := Aside0.mk (blk_below (g := gb571) (o := .cells #[.int .i64 t565, .int .i64 t566, .slice Ao16 t567.length co16] 34 (0, 0)) (Z5 NB571_578 BK571) hb); replace BK578 := Aside0.mk (blk_below (g := gb578) (o := .cells #[.int .i64 t572, .int .i64 t573, .slice Ao23 t574.length co23] 34 (0, 0)) (Z95 BK578) hb); replace HB := sqS (sqB3 HB GE564 GE571 GE578) hb; (try clear hb)))
    go_meet
    case rel => exact ⟨_, (true), Z2, H', ⟨Z3⟩, ⟨sqR HO563⟩, ⟨Z96 HO560⟩, ⟨Z97 HO569⟩, ⟨Z96 HO576⟩, ⟨sqK BK564⟩, ⟨sqK BK571⟩, ⟨sqK BK578⟩, ⟨sqB3 HB GE564 GE571 GE578⟩⟩
  case rest =>
   clear HC6
   try clear c1; try clear c2; try clear c2b0; try clear c2b1; try clear p2; try clear c3; try clear c5; try clear c14; try clear c20; try clear c21; try clear c22; try clear c25; try clear c26; try clear c27; try clear c28; try clear c29; try clear c32; try clear c33; try clear c35; try clear hcz15_0; try clear hcz15_1; try clear hcz15_2; try clear hcz17_0; try clear hcz17_1; try clear hcz17_2; try clear hcz22_0; try clear hcz22_1; try clear hcz22_2; try clear hcz28_0; try clear hcz28_1; try clear hcz28_2; try clear hcz30_0; try clear hcz30_1; try clear hcz30_2; try clear hcz34_0; try clear hcz34_1; try clear hcz34_2; try clear hcz36_0; try clear hcz36_1; try clear hcz36_2; try clear hcz9_0; try clear hcz9_1; try clear hcz9_2; try clear hfz15_0; try clear hfz15_1; try clear hfz15_2; try clear hfz17_0; try clear hfz17_1; try clear hfz17_2; try clear hfz22_0; try clear hfz22_1; try clear hfz22_2; try clear hfz28_0; try clear hfz28_1; try clear hfz28_2; try clear hfz30_0; try clear hfz30_1; try clear hfz30_2; try clear hfz34_0; try clear hfz34_1; try clear hfz34_2; try clear hfz36_0; try clear hfz36_1; try clear hfz36_2; try clear hfz9_0; try clear hfz9_1; try clear hfz9_2
   obtain ⟨kq, x42_5, rfl, HA, HJ5, HO_4, HO_565002, HO_572002, HO_579002, BK564, BK571, BK578, HB⟩ := hcut
   cases kq with
   | zero => exact absurd HA.out (by simp [laws_FnDeskRun.j0])
   | succ kj5 =>
    have H := HA.out
    clear HA
    simp only [laws_FnDeskRun.j0] at H
    by_cases c38 : x42_5 = true
    ·subst c38
     rw [if_pos rfl] at H
     obtain rfl := Option.some.inj H
     go_wp2
     go_ret
     exact ⟨Z15, sqB3 HB GE564 GE571 GE578⟩
    ·replace c38 := Bool.eq_false_iff.mpr c38
     subst c38
     rw [if_neg sqF] at H
     have HC39 := Aside0.mk H
     clear H
     go_upto_region 8 with (fail)
     go_cut [50] (fun v50 wc => ∃ (kq : Nat) (x50_38 : Bool), v50 = .bool x50_38 ∧ Aside0 (laws_FnDeskRun.j1 kq t561 t570 x50_38 t556 t557 t558 t565 t566 t567 = some r) ∧ Aside0 (kq ≤ kj5) ∧ Aside0 (Kd.R k38 38 wc w.heap.size (fun _ => True) (.slice Ao11 t561.length co11) t561) ∧ Aside0 (Kd.Q k31 31 wc w.heap.size (fun k_ => some k_ ≠ ((.slice Ao16 t567.length co16) : Value).ownBlock ∧ some k_ ≠ ((.slice Ao23 t574.length co23) : Value).ownBlock) (.slice Ao10 t558.length co10) t558) ∧ Aside0 (Kd.R k31 31 wc w.heap.size (fun k_ => some k_ ≠ ((.slice Ao10 t558.length co10) : Value).ownBlock ∧ some k_ ≠ ((.slice Ao23 t574.length co23) : Value).ownBlock) (.slice Ao16 t567.length co16) t567) ∧ Aside0 (Kd.Q k31 31 wc w.heap.size (fun k_ => some k_ ≠ ((.slice Ao10 t558.length co10) : Value).ownBlock ∧ some k_ ≠ ((.slice Ao16 t567.length co16) : Value).ownBlock) (.slice Ao23 t574.length co23) t574) ∧ Aside0 (wc.heap[gb564]? = some (.cells #[.int .i64 t556, .int .i64 t557, (.slice Ao10 t558.length co10)] 34 (0, 0))) ∧ Aside0 (wc.heap[gb571]? = some (.cells #[.int .i64 t565, .int .i64 t566, (.slice Ao16 t567.length co16)] 34 (0, 0))) ∧ Aside0 (wc.heap[gb578]? = some (.cells #[.int .i64 t572, .int .i64 t573, (.slice Ao23 t574.length co23)] 34 (0, 0))) ∧ Aside0 (Below w.heap.size w wc))
     case first =>
      have H := HC39.out
      clear HC39
      obtain ⟨t580, A40, H⟩ := sqD H
      by_cases c41 : t580 = true
      ·subst c41
       rw [if_pos rfl] at H
       have H' := Aside0.mk H
       clear H
       have hnb42 := NB564_571.out
       have hnc42 := NB571_564.out
       have hnb43 := NB564_578.out
       have hnc43 := NB578_564.out
       obtain ⟨hcz44_0, hcz44_1, hcz44_2, hfz44_0, hfz44_1, hfz44_2⟩ := sqY3 BK564
       go_wp2_with (first | ((with_reducible refine gate_callee (f := 30) rfl ?_); refine goesL_ (some 44) rfl rfl Tryz.func30 (by kernel_rfl) rfl #[.agg #[.int .i64 t556, .int .i64 t557, .slice Ao10 t558.length co10]] rfl sqA ?_; (with_reducible refine (spec_DeskOk.calls kj5 t556 t557 _ _ t558 true _ ?side1 ?side2 A40.out).mono ?_); (case side1 => exact Z42 HO_565002); (case side2 => exact Z43 HO_565002); rintro e w45 ⟨rfl, hb⟩; refine ⟨_, rfl, ?_⟩; replace HO_4 := sqU HO_4 hb; replace HO_565002 := Aside0.mk (Kd.Q_below (Z10 HO_565002) hb); replace HO_572002 := sqU HO_572002 hb; replace HO_579002 := Aside0.mk (Kd.Q_below (Z10 HO_579002) hb); replace BK564 := sqT BK564 hb; replace BK571 := sqT BK571 hb; replace BK578 := sqT BK578 hb; replace HB := sqS (sqB3 HB GE564 GE571 GE578) hb; (try clear hb)))
       go_meet
       case rel => exact ⟨_, (decide ((t561.length : Int) > 40)), Z2, H', ⟨Z11⟩, ⟨sqR HO_4⟩, ⟨Z10 HO_565002⟩, ⟨sqR HO_572002⟩, ⟨Z10 HO_579002⟩, ⟨sqK BK564⟩, ⟨sqK BK571⟩, ⟨sqK BK578⟩, ⟨sqB3 HB GE564 GE571 GE578⟩⟩
      ·replace c41 := Bool.eq_false_iff.mpr c41
       subst c41
       rw [if_neg sqF] at H
       have H' := Aside0.mk H
       clear H
       have hnb46 := NB564_571.out
       have hnc46 := NB571_564.out
       have hnb47 := NB564_578.out
       have hnc47 := NB578_564.out
       obtain ⟨hcz48_0, hcz48_1, hcz48_2, hfz48_0, hfz48_1, hfz48_2⟩ := sqY3 BK564
       go_wp2_with (first | ((with_reducible refine gate_callee (f := 30) rfl ?_); refine goesL_ (some 44) rfl rfl Tryz.func30 (by kernel_rfl) rfl #[.agg #[.int .i64 t556, .int .i64 t557, .slice Ao10 t558.length co10]] rfl sqA ?_; (with_reducible refine (spec_DeskOk.calls kj5 t556 t557 _ _ t558 false _ ?side1 ?side2 A40.out).mono ?_); (case side1 => exact Z42 HO_565002); (case side2 => exact Z43 HO_565002); rintro e w49 ⟨rfl, hb⟩; refine ⟨_, rfl, ?_⟩; replace HO_4 := sqU HO_4 hb; replace HO_565002 := Aside0.mk (Kd.Q_below (Z10 HO_565002) hb); replace HO_572002 := sqU HO_572002 hb; replace HO_579002 := Aside0.mk (Kd.Q_below (Z10 HO_579002) hb); replace BK564 := sqT BK564 hb; replace BK571 := sqT BK571 hb; replace BK578 := sqT BK578 hb; replace HB := sqS (sqB3 HB GE564 GE571 GE578) hb; (try clear hb)))
       go_meet
       case rel => exact ⟨_, (true), Z2, H', ⟨Z11⟩, ⟨sqR HO_4⟩, ⟨Z10 HO_565002⟩, ⟨sqR HO_572002⟩, ⟨Z10 HO_579002⟩, ⟨sqK BK564⟩, ⟨sqK BK571⟩, ⟨sqK BK578⟩, ⟨sqB3 HB GE564 GE571 GE578⟩⟩
     case rest =>
      clear HC39
      try clear c1; try clear c2; try clear c2b0; try clear c2b1; try clear p2; try clear c3; try clear c4; try clear c5; try clear c14; try clear c20; try clear c21; try clear c22; try clear c25; try clear c26; try clear c27; try clear c28; try clear c29; try clear c30; try clear c32; try clear c33; try clear c35; try clear c38; try clear c41; try clear c42; try clear c43; try clear c46; try clear c47; try clear hcz15_0; try clear hcz15_1; try clear hcz15_2; try clear hcz17_0; try clear hcz17_1; try clear hcz17_2; try clear hcz22_0; try clear hcz22_1; try clear hcz22_2; try clear hcz28_0; try clear hcz28_1; try clear hcz28_2; try clear hcz30_0; try clear hcz30_1; try clear hcz30_2; try clear hcz34_0; try clear hcz34_1; try clear hcz34_2; try clear hcz36_0; try clear hcz36_1; try clear hcz36_2; try clear hcz44_0; try clear hcz44_1; try clear hcz44_2; try clear hcz48_0; try clear hcz48_1; try clear hcz48_2; try clear hcz9_0; try clear hcz9_1; try clear hcz9_2; try clear hfz15_0; try clear hfz15_1; try clear hfz15_2; try clear hfz17_0; try clear hfz17_1; try clear hfz17_2; try clear hfz22_0; try clear hfz22_1; try clear hfz22_2; try clear hfz28_0; try clear hfz28_1; try clear hfz28_2; try clear hfz30_0; try clear hfz30_1; try clear hfz30_2; try clear hfz34_0; try clear hfz34_1; try clear hfz34_2; try clear hfz36_0; try clear hfz36_1; try clear hfz36_2; try clear hfz44_0; try clear hfz44_1; try clear hfz44_2; try clear hfz48_0; try clear hfz48_1; try clear hfz48_2; try clear hfz9_0; try clear hfz9_1; try clear hfz9_2; try clear p2
      obtain ⟨kq, x50_38, rfl, HA, HJ38, HO_4, HO_565002, HO_572002, HO_579002, BK564, BK571, BK578, HB⟩ := hcut
      cases kq with
      | zero => exact absurd HA.out (by simp [laws_FnDeskRun.j1])
      | succ kj38 =>
       have H := HA.out
       clear HA
       simp only [laws_FnDeskRun.j1] at H
       by_cases c50 : x50_38 = true
       ·subst c50
        rw [if_pos rfl] at H
        by_cases c51 : t570 = 0
        ·rw [if_pos c51] at H
         have c51b0 : (t570 == 0) = true := beq_iff_eq.mpr c51
         have c51b1 : (t570 != 0) = false := bne_eq_false_iff_eq.mpr c51
         clear c51
         obtain ⟨t581, A52, H⟩ := sqD H
         by_cases c53 : t581 = true
         ·subst c53
          rw [if_pos rfl] at H
          obtain ⟨t582, A54, H⟩ := sqD H
          obtain rfl := Option.some.inj H
          have hnb55 := NB571_564.out
          have hnc55 := NB564_571.out
          have hnb56 := NB571_578.out
          have hnc56 := NB578_571.out
          obtain ⟨hcz57_0, hcz57_1, hcz57_2, hfz57_0, hfz57_1, hfz57_2⟩ := sqY3 BK571
          go_wp2_with (first | (go_at_call 31; (with_reducible refine (laws_noDesk.calls kj38 t565 t566 _ _ t567 true _ ?side1 ?side2 A52.out).mono ?_); (case side1 => exact Z44 HO_572002); (case side2 => exact Z45 HO_572002); rintro e w58 ⟨rfl, hb⟩; replace HO_4 := sqU HO_4 hb; replace HO_565002 := Aside0.mk (Kd.Q_below (Z10 HO_565002) hb); replace HO_572002 := sqU HO_572002 hb; replace HO_579002 := Aside0.mk (Kd.Q_below (Z10 HO_579002) hb); replace BK564 := sqT BK564 hb; replace BK571 := sqT BK571 hb; replace BK578 := sqT BK578 hb; replace HB := sqS (sqB3 HB GE564 GE571 GE578) hb; (try clear hb)) | (go_at_call 24; (with_reducible refine (laws_alive.calls kj38  t582 _ A54.out).mono ?_); rintro e w59 ⟨rfl, hb⟩; replace HO_4 := sqU HO_4 hb; replace HO_565002 := Aside0.mk (Kd.Q_below (Z10 HO_565002) hb); replace HO_572002 := sqU HO_572002 hb; replace HO_579002 := Aside0.mk (Kd.Q_below (Z10 HO_579002) hb); replace BK564 := sqT BK564 hb; replace BK571 := sqT BK571 hb; replace BK578 := sqT BK578 hb; replace HB := sqS (sqB3 HB GE564 GE571 GE578) hb; (try clear hb)))
          go_ret
          exact ⟨Z15, sqB3 HB GE564 GE571 GE578⟩
         ·rw [if_neg c53] at H
          exact absurd (Option.some.inj H) (by rw [hT.out]; decide)
        ·rw [if_neg c51] at H
         exact absurd (Option.some.inj H) (by rw [hT.out]; decide)
       ·replace c50 := Bool.eq_false_iff.mpr c50
        subst c50
        rw [if_neg sqF] at H
        obtain ⟨ji64, hji64⟩ : ∃ j_ : Int, (wrap64 ((t561.length : Int) / 2)) = j_ := ⟨_, rfl⟩
        replace H : (if 0 ≤ (ji64) then (if (ji64) ≤ (t561.length : Int) then ((impl_DeskRun.f kj38 t556 t557 t558 (t561.take ((ji64) : Int).toNat)).bind fun bt587 => ((impl_DeskRun.f kj38 bt587.1 bt587.2.1 bt587.2.2.1 (t561.drop ((ji64) : Int).toNat)).bind fun bt598 => ((impl_DeskOk.f kj38 t565 t566 t567).bind fun t605 => (if t605 = true then ((laws_sameDesk.f kj38 bt598.1 bt598.2.1 bt598.2.2.1 t565 t566 t567).bind fun t606 => (if t606 = true then (some ((wrap64 (bt587.2.2.2 + bt598.2.2.2)) == t570)) else (some false))) else (some false))))) else (none)) else (none)) = some r := by first | (rw [hji64] at H; exact H) | (simp only [hji64] at H ⊢; exact H)
        have hji64w : (IntKind.i64.wrap ((t561.length : Int) / 2)) = ji64 := (i64_w _).trans hji64
        obtain ⟨c65, H⟩ := sqI H
        have c65b0 := eq_true c65
        have c65b1 : decide (0 ≤ (ji64)) = true := decide_eq_true c65
        clear c65
        obtain ⟨c66, H⟩ := sqI H
        have c66b0 := eq_true c66
        have c66b1 : decide ((ji64) ≤ (t561.length : Int)) = true := decide_eq_true c66
        clear c66
        obtain ⟨y583, hy583⟩ : ∃ y_ : List (S38), y_ = (t561.take ((ji64) : Int).toNat) := ⟨_, rfl⟩
        replace H : ((impl_DeskRun.f kj38 t556 t557 t558 y583).bind fun bt587 => ((impl_DeskRun.f kj38 bt587.1 bt587.2.1 bt587.2.2.1 (t561.drop ((ji64) : Int).toNat)).bind fun bt598 => ((impl_DeskOk.f kj38 t565 t566 t567).bind fun t605 => (if t605 = true then ((laws_sameDesk.f kj38 bt598.1 bt598.2.1 bt598.2.2.1 t565 t566 t567).bind fun t606 => (if t606 = true then (some ((wrap64 (bt587.2.2.2 + bt598.2.2.2)) == t570)) else (some false))) else (some false))))) = some r := sqW hy583 H
        have Ny583 := Aside0.mk hy583
        clear hy583
        obtain ⟨⟨t587, t588, t589, t592⟩, A67, H⟩ := sqD H
        try dsimp only at H
        have c68b0 := eq_true (of_decide_eq_true Z7 : 0 ≤ (ji64))
        have c69b0 := eq_true (of_decide_eq_true Z7 : (ji64) ≤ (t561.length : Int))
        obtain ⟨y594, hy594⟩ : ∃ y_ : List (S38), y_ = (t561.drop ((ji64) : Int).toNat) := ⟨_, rfl⟩
        replace H : ((impl_DeskRun.f kj38 t587 t588 t589 y594).bind fun bt598 => ((impl_DeskOk.f kj38 t565 t566 t567).bind fun t605 => (if t605 = true then ((laws_sameDesk.f kj38 bt598.1 bt598.2.1 bt598.2.2.1 t565 t566 t567).bind fun t606 => (if t606 = true then (some ((wrap64 (t592 + bt598.2.2.2)) == t570)) else (some false))) else (some false)))) = some r := sqW hy594 H
        have Ny594 := Aside0.mk hy594
        clear hy594
        obtain ⟨⟨t598, t599, t600, t603⟩, A70, H⟩ := sqD H
        try dsimp only at H
        obtain ⟨t605, A71, H⟩ := sqD H
        by_cases c72 : t605 = true
        ·subst c72
         rw [if_pos rfl] at H
         obtain ⟨t606, A73, H⟩ := sqD H
         by_cases c74 : t606 = true
         ·subst c74
          rw [if_pos rfl] at H
          obtain rfl := Option.some.inj H
          try go_wp2
          replace HO_4 := Aside0.mk (Kd.R_drew HO_4.out)
          replace HO_565002 := Aside0.mk (Kd.Q_drew HO_565002.out)
          replace HO_572002 := Aside0.mk (Kd.R_drew HO_572002.out)
          replace HO_579002 := Aside0.mk (Kd.Q_drew HO_579002.out)
          replace BK564 := Aside0.mk (blk_drew BK564.out)
          replace BK571 := Aside0.mk (blk_drew BK571.out)
          replace BK578 := Aside0.mk (blk_drew BK578.out)
          replace HB := Aside0.mk (below_drew1 HB.out)
          have q76 : ((ji64) : Int) ≤ ((t561.length : Int) : Int) := of_decide_eq_true Z7
          obtain ⟨i076, hi076, _, hsz76, _⟩ := info_parts info38
          have hroom76 : t561.length ≤ co11 := (Kd.R_reads' HO_4.out).2.1
          have hC76 : Kd.C k38 _ Ao11 t561.length t561 := (Kd.R_reads' HO_4.out).2.2
          have hcut76 := cut_to (P := Tryz.prog) 52 38 .i64 Tryz.underlying52 hi076 Ao11 t561.length co11 (ji64) (of_decide_eq_true Z7) q76 hroom76
          have hr76 := Kd.C_take (m := ((ji64) : Int).toNat) hC76 (by omega)
          have hy76 : y583.length = ((ji64) : Int).toNat := (by rw [Ny583.out, List.length_take]; omega)
          rw [← Ny583.out] at hr76
          rw [← hy76] at hcut76
          have HR586 := Aside0.mk hr76
          have HC586 := Aside0.mk (show y583.length ≤ co11 from by omega)
          clear hr76 hC76 hroom76 hi076 hsz76
          have KY76 := Aside0.mk hy76
          clear hy76
          have KL76 := Aside0.mk (show ((ji64) : Int).toNat ≤ t561.length from by omega)
          replace q76 := eq_true q76
          refine start_ (n := 11) (S := fun w' => w'.cell? ⟨gb564, 0, none⟩ = some (.int .i64 t556) ∧ w'.cell? ⟨gb564, 1, none⟩ = some (.int .i64 t557) ∧ w'.cell? ⟨gb564, 2, none⟩ = some (.slice Ao10 t558.length co10)) (ds := []) #[false, false, false, false, false, false, false, false, false, false, false] (by kernel_rfl) rfl rfl ⟨(blk_cell BK564.out 0).trans rfl, (blk_cell BK564.out 1).trans rfl, (blk_cell BK564.out 2).trans rfl⟩ (fun hHeld => ?_); refine with_tabW laws_FnDeskRun.tab11 laws_FnDeskRun.bits11 (fun HT_ HW_ => ?_)
          generalize wc.drew = w75 at HO_4 HO_565002 HO_572002 HO_579002 BK564 BK571 BK578 HB HR586 hHeld ⊢
          refine sqP (i := 1) (N := some 65) (h := ?_)
          refine sqP (i := 2) (N := some 66) (h := ?_)
          refine sqP (i := 3) (N := some 67) (h := ?_)
          refine take_ (i := 0) (N := some 64) (v := ?_) (a' := ?_) #[true, true, true, true, false, false, false, false, false, false, false] rfl rfl (take_ofW HT_.out HW_.out (by kernel_rfl)) (fun _ _ _ h => h) (Or.inl ⟨by rfl, ?_⟩) hHeld ?_ ?_
          rotate_left
          ·rintro w' ⟨s0, s1, s2⟩
           go_simp
           with_reducible rfl
          rotate_left
          ·simp only [Act.put, List.setIfInBounds_toArray, List.set_cons_zero, List.set_cons_succ, i64_w, i32_w]
           rfl
          refine join_ (σ := Value × Nat) 2 #[true, true, true, true, true, true, true, true, true, false, false] (fun s_ => [(68, .tuple #[.agg #[.int .i64 t587, .int .i64 t588, s_.1], .int .i64 t592]), (10, .pointer (some ⟨s_.2, 0, none⟩)), (63, .tuple #[.agg #[.int .i64 t587, .int .i64 t588, s_.1], .int .i64 t592]), (69, .agg #[.int .i64 t587, .int .i64 t588, s_.1]), (70, .int .i64 t592)]) (fun s_ w' => (w'.cell? ⟨gb564, 0, none⟩ = some (.int .i64 t556) ∧ w'.cell? ⟨gb564, 1, none⟩ = some (.int .i64 t557) ∧ w'.cell? ⟨gb564, 2, none⟩ = some (.slice Ao10 t558.length co10)) ∧ (Kd.R k31 31 w' w.heap.size (fun k_ => some k_ ≠ (.slice Ao10 t558.length co10 : Value).ownBlock ∧ some k_ ≠ (.slice Ao16 t567.length co16 : Value).ownBlock ∧ some k_ ≠ (.slice Ao23 t574.length co23 : Value).ownBlock) s_.1 t589) ∧ (Kd.R k38 38 w' w.heap.size (fun _ => True) (.slice Ao11 t561.length co11) t561) ∧ (Kd.Q k31 31 w' w.heap.size (fun k_ => some k_ ≠ (s_.1 : Value).ownBlock ∧ some k_ ≠ (.slice Ao16 t567.length co16 : Value).ownBlock ∧ some k_ ≠ (.slice Ao23 t574.length co23 : Value).ownBlock) (.slice Ao10 t558.length co10) t558) ∧ (Kd.R k31 31 w' w.heap.size (fun k_ => some k_ ≠ (s_.1 : Value).ownBlock ∧ some k_ ≠ (.slice Ao10 t558.length co10 : Value).ownBlock ∧ some k_ ≠ (.slice Ao23 t574.length co23 : Value).ownBlock) (.slice Ao16 t567.length co16) t567) ∧ (Kd.Q k31 31 w' w.heap.size (fun k_ => some k_ ≠ (s_.1 : Value).ownBlock ∧ some k_ ≠ (.slice Ao10 t558.length co10 : Value).ownBlock ∧ some k_ ≠ (.slice Ao16 t567.length co16 : Value).ownBlock) (.slice Ao23 t574.length co23) t574) ∧ (w'.heap[gb564]? = some (.cells #[.int .i64 t556, .int .i64 t557, .slice Ao10 t558.length co10] 34 (0, 0))) ∧ (w'.heap[gb571]? = some (.cells #[.int .i64 t565, .int .i64 t566, .slice Ao16 t567.length co16] 34 (0, 0))) ∧ (w'.heap[gb578]? = some (.cells #[.int .i64 t572, .int .i64 t573, .slice Ao23 t574.length co23] 34 (0, 0))) ∧ (w'.heap[s_.2]? = some (.cells #[.int .i64 0, .int .i64 0, .slice none 0 0] 34 (0, 0))) ∧ (w.heap.size ≤ s_.2) ∧ (w.heap.size ≤ s_.2) ∧ (gb564 ≠ s_.2) ∧ (s_.2 ≠ gb564) ∧ (gb571 ≠ s_.2) ∧ (s_.2 ≠ gb571) ∧ (gb578 ≠ s_.2) ∧ (s_.2 ≠ gb578) ∧ (Below w.heap.size w w')) ?_ ?_
          rotate_left
          ·intro hCont
           refine two_ (i := 4) (j := 8) (Ni := some 68) (Nj := some 10) #[true, true, true, true, true, false, false, false, false, false, false] #[true, true, true, true, false, false, false, false, true, false, false] rfl rfl rfl rfl (two_of HT_.out (by kernel_rfl)) (by decide) (by decide) (fun K hK => ?_) (fun K hK => ?_)
           ·skip
            refine goes_ Tryz.func28 (by kernel_rfl) rfl #[.agg #[.int .i64 t556, .int .i64 t557, .slice Ao10 t558.length co10], .slice Ao11 y583.length co11] (by rfl) rfl rfl sqA ?_
            with_reducible refine (impl_DeskRun.calls kj38 t556 t557 _ _ t558 _ _ y583 t587 t588 t589 t592 _ ?sideG ?side1 ?side2 ?side3 ?side4 A67.out).mono ?_
            (case sideG => exact Glob.below hG (sqB3 HB GE564 GE571 GE578))
            (case side1 => exact Z42 HO_565002)
            (case side2 => exact Z43 HO_565002)
            (case side3 => exact Z122 HR586)
            (case side4 => exact HC586.out)
            rintro e w77 ⟨v590, rfl, ho0, hb⟩
            refine ⟨_, rfl, ?_⟩
            replace HO_4 := sqU HO_4 hb
            have HO591 := Aside0.mk (Kd.R_lower (Kd.R_new' (Kd.R_new' (Kd.R_new' ho0 (Kd.Q_lt (Z10 HO_565002))) (Kd.R_lt (sqR HO_572002))) (Kd.Q_lt (Z10 HO_579002))) (below_size (sqB3 HB GE564 GE571 GE578)))
            replace HO_565002 := Aside0.mk (Kd.Q_elder' (Z10 HO_565002) (Kd.R_base ho0) hb)
            replace HO_572002 := Aside0.mk (Kd.R_elder' (sqR HO_572002) (Kd.R_base ho0) hb)
            replace HO_579002 := Aside0.mk (Kd.Q_elder' (Z10 HO_579002) (Kd.R_base ho0) hb)
            replace BK564 := sqT BK564 hb
            replace BK571 := sqT BK571 hb
            replace BK578 := sqT BK578 hb
            replace HR586 := Aside0.mk (Kd.C_below (Z38 HR586) hb)
            replace HB := sqS (sqB3 HB GE564 GE571 GE578) hb
            (try clear hb)
            (try clear hb2)
            (try clear hk)
            (try clear hi)
            (try clear ho0)
            refine hK.out _ _ ⟨(blk_cell BK564.out 0).trans rfl, (blk_cell BK564.out 1).trans rfl, (blk_cell BK564.out 2).trans rfl⟩ (fun hHeld => ?_)
            clear hK K
            refine sqN (some 68) ?_
            refine sqP (i := 5) (N := some 63) (h := ?_)
            refine sqP (i := 6) (N := some 69) (h := ?_)
            refine sqP (i := 7) (N := some 70) (h := ?_)
            refine one_ (i := 8) (N := some 10) #[true, true, true, true, true, true, true, true, true, false, false] rfl rfl (one_of HT_.out (by kernel_rfl)) (by decide) (fun K hK => ?_)
            refine box_step ?hg (N := 10) ?hd (cs := #[.int .i64 0, .int .i64 0, .slice none 0 0]) (t := 34) ?hr ?_; (case hd => rfl); (case hg => rfl); (case hr => exact Z8)
            intro gb593 hg w78 hbox hb
            replace HO_4 := sqU HO_4 hb
            replace HO_565002 := Aside0.mk (Kd.Q_below (Z10 HO_565002) hb)
            replace HO_572002 := sqU HO_572002 hb
            replace HO_579002 := Aside0.mk (Kd.Q_below (Z10 HO_579002) hb)
            replace HO591 := sqU HO591 hb
            replace HR586 := Aside0.mk (Kd.C_below (Z38 HR586) hb)
            have BK593 := Aside0.mk (hbox)
            have GW593 := Aside0.mk ((sqG hg (sqB3 HB GE564 GE571 GE578)))
            have GE593 := Aside0.mk ((sqG hg (sqB3 HB GE564 GE571 GE578)))
            replace HB := sqS (sqB3 HB GE564 GE571 GE578) hb
            have NB564_593 := Aside0.mk ((Z50 BK564 : gb564 ≠ gb593))
            have NB593_564 := Aside0.mk ((Z51 BK564 : gb593 ≠ gb564))
            replace BK564 := sqT BK564 hb
            have NB571_593 := Aside0.mk ((Z50 BK571 : gb571 ≠ gb593))
            have NB593_571 := Aside0.mk ((Z51 BK571 : gb593 ≠ gb571))
            replace BK571 := sqT BK571 hb
            have NB578_593 := Aside0.mk ((Z50 BK578 : gb578 ≠ gb593))
            have NB593_578 := Aside0.mk ((Z51 BK578 : gb593 ≠ gb578))
            replace BK578 := sqT BK578 hb
            clear hb hbox hg
            refine hK.out _ _ ⟨(blk_cell BK564.out 0).trans rfl, (blk_cell BK564.out 1).trans rfl, (blk_cell BK564.out 2).trans rfl⟩ (fun hHeld => ?_)
            clear hK K
            refine sqN (some 10) ?_
            exact norm_ Z33 (hCont (v590, gb593) _ ⟨hHeld, (Z98 HO591), (sqR HO_4), (Z99 HO_565002), (Z100 HO_572002), (Z99 HO_579002), (sqK BK564), (sqK BK571), (sqK BK578), (sqK BK593), GW593.out, GE593.out, NB564_593.out, NB593_564.out, NB571_593.out, NB593_571.out, NB578_593.out, NB593_578.out, (sqB4 HB GE564 GE571 GE578 GE593)⟩)
           ·skip
            refine box_step ?hg (N := 10) ?hd (cs := #[.int .i64 0, .int .i64 0, .slice none 0 0]) (t := 34) ?hr ?_; (case hd => rfl); (case hg => rfl); (case hr => exact Z8)
            intro gb593 hg w77 hbox hb
            replace HO_4 := sqU HO_4 hb
            replace HO_565002 := Aside0.mk (Kd.Q_below (Z10 HO_565002) hb)
            replace HO_572002 := sqU HO_572002 hb
            replace HO_579002 := Aside0.mk (Kd.Q_below (Z10 HO_579002) hb)
            replace HR586 := Aside0.mk (Kd.C_below (Z38 HR586) hb)
            have BK593 := Aside0.mk (hbox)
            have GW593 := Aside0.mk ((sqG hg (sqB3 HB GE564 GE571 GE578)))
            have GE593 := Aside0.mk ((sqG hg (sqB3 HB GE564 GE571 GE578)))
            replace HB := sqS (sqB3 HB GE564 GE571 GE578) hb
            have NB564_593 := Aside0.mk ((Z50 BK564 : gb564 ≠ gb593))
            have NB593_564 := Aside0.mk ((Z51 BK564 : gb593 ≠ gb564))
            replace BK564 := sqT BK564 hb
            have NB571_593 := Aside0.mk ((Z50 BK571 : gb571 ≠ gb593))
            have NB593_571 := Aside0.mk ((Z51 BK571 : gb593 ≠ gb571))
            replace BK571 := sqT BK571 hb
            have NB578_593 := Aside0.mk ((Z50 BK578 : gb578 ≠ gb593))
            have NB593_578 := Aside0.mk ((Z51 BK578 : gb593 ≠ gb578))
            replace BK578 := sqT BK578 hb
            clear hb hbox hg
            refine hK.out _ _ ⟨(blk_cell BK564.out 0).trans rfl, (blk_cell BK564.out 1).trans rfl, (blk_cell BK564.out 2).trans rfl⟩ (fun hHeld => ?_)
            clear hK K
            refine sqN (some 10) ?_
            refine one_ (i := 4) (N := some 68) #[true, true, true, true, true, false, false, false, true, false, false] rfl rfl (one_of HT_.out (by kernel_rfl)) (by decide) (fun K hK => ?_)
            refine goes_ Tryz.func28 (by kernel_rfl) rfl #[.agg #[.int .i64 t556, .int .i64 t557, .slice Ao10 t558.length co10], .slice Ao11 y583.length co11] (by rfl) rfl rfl sqA ?_
            with_reducible refine (impl_DeskRun.calls kj38 t556 t557 _ _ t558 _ _ y583 t587 t588 t589 t592 _ ?sideG ?side1 ?side2 ?side3 ?side4 A67.out).mono ?_
            (case sideG => exact Glob.below hG (sqB4 HB GE564 GE571 GE578 GE593))
            (case side1 => exact Z42 HO_565002)
            (case side2 => exact Z43 HO_565002)
            (case side3 => exact Z122 HR586)
            (case side4 => exact HC586.out)
            rintro e w78 ⟨v590, rfl, ho0, hb⟩
            refine ⟨_, rfl, ?_⟩
            replace HO_4 := sqU HO_4 hb
            have HO591 := Aside0.mk (Kd.R_lower (Kd.R_new' (Kd.R_new' (Kd.R_new' ho0 (Kd.Q_lt (Z10 HO_565002))) (Kd.R_lt (sqR HO_572002))) (Kd.Q_lt (Z10 HO_579002))) (below_size (sqB4 HB GE564 GE571 GE578 GE593)))
            replace HO_565002 := Aside0.mk (Kd.Q_elder' (Z10 HO_565002) (Kd.R_base ho0) hb)
            replace HO_572002 := Aside0.mk (Kd.R_elder' (sqR HO_572002) (Kd.R_base ho0) hb)
            replace HO_579002 := Aside0.mk (Kd.Q_elder' (Z10 HO_579002) (Kd.R_base ho0) hb)
            replace BK564 := sqT BK564 hb
            replace BK571 := sqT BK571 hb
            replace BK578 := sqT BK578 hb
            replace HR586 := Aside0.mk (Kd.C_below (Z38 HR586) hb)
            replace BK593 := sqT BK593 hb
            replace HB := sqS (sqB4 HB GE564 GE571 GE578 GE593) hb
            (try clear hb)
            (try clear hb2)
            (try clear hk)
            (try clear hi)
            (try clear ho0)
            refine hK.out _ _ ⟨(blk_cell BK564.out 0).trans rfl, (blk_cell BK564.out 1).trans rfl, (blk_cell BK564.out 2).trans rfl⟩ (fun hHeld => ?_)
            clear hK K
            refine sqN (some 68) ?_
            refine sqP (i := 5) (N := some 63) (h := ?_)
            refine sqP (i := 6) (N := some 69) (h := ?_)
            refine sqP (i := 7) (N := some 70) (h := ?_)
            exact norm_ Z33 (hCont (v590, gb593) _ ⟨hHeld, (Z98 HO591), (sqR HO_4), (Z99 HO_565002), (Z100 HO_572002), (Z99 HO_579002), (sqK BK564), (sqK BK571), (sqK BK578), (sqK BK593), GW593.out, GE593.out, NB564_593.out, NB593_564.out, NB571_593.out, NB593_571.out, NB578_593.out, NB593_578.out, (sqB4 HB GE564 GE571 GE578 GE593)⟩)
          rintro ⟨v590, gb593⟩ w79 ⟨hS_, h0_, h1_, h2_, h3_, h4_, h5_, h6_, h7_, h8_, h9_, h10_, h11_, h12_, h13_, h14_, h15_, h16_, h17_⟩
          have n0_ : Aside0 (Kd.R k31 31 w79 w.heap.size (fun k_ => some k_ ≠ (.slice Ao10 t558.length co10 : Value).ownBlock ∧ some k_ ≠ (.slice Ao16 t567.length co16 : Value).ownBlock ∧ some k_ ≠ (.slice Ao23 t574.length co23 : Value).ownBlock) v590 t589) := ⟨h0_⟩
          have n1_ : Aside0 (Kd.R k38 38 w79 w.heap.size (fun _ => True) (.slice Ao11 t561.length co11) t561) := ⟨h1_⟩
          have n2_ : Aside0 (Kd.Q k31 31 w79 w.heap.size (fun k_ => some k_ ≠ (v590 : Value).ownBlock ∧ some k_ ≠ (.slice Ao16 t567.length co16 : Value).ownBlock ∧ some k_ ≠ (.slice Ao23 t574.length co23 : Value).ownBlock) (.slice Ao10 t558.length co10) t558) := ⟨h2_⟩
          have n3_ : Aside0 (Kd.R k31 31 w79 w.heap.size (fun k_ => some k_ ≠ (v590 : Value).ownBlock ∧ some k_ ≠ (.slice Ao10 t558.length co10 : Value).ownBlock ∧ some k_ ≠ (.slice Ao23 t574.length co23 : Value).ownBlock) (.slice Ao16 t567.length co16) t567) := ⟨h3_⟩
          have n4_ : Aside0 (Kd.Q k31 31 w79 w.heap.size (fun k_ => some k_ ≠ (v590 : Value).ownBlock ∧ some k_ ≠ (.slice Ao10 t558.length co10 : Value).ownBlock ∧ some k_ ≠ (.slice Ao16 t567.length co16 : Value).ownBlock) (.slice Ao23 t574.length co23) t574) := ⟨h4_⟩
          have n5_ : Aside0 (w79.heap[gb564]? = some (.cells #[.int .i64 t556, .int .i64 t557, .slice Ao10 t558.length co10] 34 (0, 0))) := ⟨h5_⟩
          have n6_ : Aside0 (w79.heap[gb571]? = some (.cells #[.int .i64 t565, .int .i64 t566, .slice Ao16 t567.length co16] 34 (0, 0))) := ⟨h6_⟩
          have n7_ : Aside0 (w79.heap[gb578]? = some (.cells #[.int .i64 t572, .int .i64 t573, .slice Ao23 t574.length co23] 34 (0, 0))) := ⟨h7_⟩
          have n8_ : Aside0 (w79.heap[gb593]? = some (.cells #[.int .i64 0, .int .i64 0, .slice none 0 0] 34 (0, 0))) := ⟨h8_⟩
          have n9_ : Aside0 (w.heap.size ≤ gb593) := ⟨h9_⟩
          have n10_ : Aside0 (w.heap.size ≤ gb593) := ⟨h10_⟩
          have n11_ : Aside0 (gb564 ≠ gb593) := ⟨h11_⟩
          have n12_ : Aside0 (gb593 ≠ gb564) := ⟨h12_⟩
          have n13_ : Aside0 (gb571 ≠ gb593) := ⟨h13_⟩
          have n14_ : Aside0 (gb593 ≠ gb571) := ⟨h14_⟩
          have n15_ : Aside0 (gb578 ≠ gb593) := ⟨h15_⟩
          have n16_ : Aside0 (gb593 ≠ gb578) := ⟨h16_⟩
          have n17_ : Aside0 (Below w.heap.size w w79) := ⟨h17_⟩
          clear HO_4
          clear HO_565002
          clear HO_572002
          clear HO_579002
          clear BK564
          clear BK571
          clear BK578
          clear HB
          clear h0_ h1_ h2_ h3_ h4_ h5_ h6_ h7_ h8_ h9_ h10_ h11_ h12_ h13_ h14_ h15_ h16_ h17_
          have HO591 := n0_
          have HO_4 := n1_
          have HO_565002 := n2_
          have HO_572002 := n3_
          have HO_579002 := n4_
          have BK564 := n5_
          have BK571 := n6_
          have BK578 := n7_
          have BK593 := n8_
          have GW593 := n9_
          have GE593 := n10_
          have NB564_593 := n11_
          have NB593_564 := n12_
          have NB571_593 := n13_
          have NB593_571 := n14_
          have NB578_593 := n15_
          have NB593_578 := n16_
          have HB := n17_
          clear n0_ n1_ n2_ n3_ n4_ n5_ n6_ n7_ n8_ n9_ n10_ n11_ n12_ n13_ n14_ n15_ n16_ n17_
          have hHeld : w79.cell? ⟨gb564, 0, none⟩ = some (.int .i64 t556) ∧ w79.cell? ⟨gb564, 1, none⟩ = some (.int .i64 t557) ∧ w79.cell? ⟨gb564, 2, none⟩ = some (.slice Ao10 t558.length co10) := hS_
          obtain ⟨Ao82, co82, eo82⟩ := Kd.R_slice HO591.out
          (first | subst eo82 | (injection eo82 with f1_ f2_ f3_; have f4_ := f1_.symm; have f5_ := f3_.symm; clear f1_ f2_ f3_; subst f4_; subst f5_))
          refine norm_ (a' := ?_) ?_ ?_
          rotate_left
          ·simp only [putAll, Act.put, List.setIfInBounds_toArray, List.set_cons_zero, List.set_cons_succ]
           rfl
          refine one_ (i := 9) (N := none) #[true, true, true, true, true, true, true, true, true, true, false] rfl rfl (one_of HT_.out (by kernel_rfl)) (by decide) (fun K hK => ?_)
          have hs80 : w79.cell? ⟨gb593, 0, none⟩ = some (.int .i64 0) := (blk_cell BK593.out 0).trans rfl
          have hfs80 := blk_frozen BK593.out 0
          have hns80_0 := NB564_593.out
          have hns80_1 := NB571_593.out
          have hns80_2 := NB578_593.out
          have hms80_0 := NB593_564.out
          have hms80_1 := NB593_571.out
          have hms80_2 := NB593_578.out
          have hs81 : w79.cell? ⟨gb593, 1, none⟩ = some (.int .i64 0) := (blk_cell BK593.out 1).trans rfl
          have hfs81 := blk_frozen BK593.out 1
          have hns81_0 := NB564_593.out
          have hns81_1 := NB571_593.out
          have hns81_2 := NB578_593.out
          have hms81_0 := NB593_564.out
          have hms81_1 := NB593_571.out
          have hms81_2 := NB593_578.out
          have hs83 : w79.cell? ⟨gb593, 2, none⟩ = some (.slice none 0 0) := (blk_cell BK593.out 2).trans rfl
          have hfs83 := blk_frozen BK593.out 2
          have hns83_0 := NB564_593.out
          have hns83_1 := NB571_593.out
          have hns83_2 := NB578_593.out
          have hms83_0 := NB593_564.out
          have hms83_1 := NB593_571.out
          have hms83_2 := NB593_578.out
          refine skip_ (w1 := ?_) (by rfl) rfl ?_ ?_
          rotate_left
          ·go_simp
           rfl
          refine hK.out _ _ ⟨((cell_far (p := ⟨gb593, _, none⟩) NB564_593.out _).trans (((cell_far (p := ⟨gb593, _, none⟩) NB564_593.out _).trans (((cell_far (p := ⟨gb593, _, none⟩) NB564_593.out _).trans (hHeld.1)))))), ((cell_far (p := ⟨gb593, _, none⟩) NB564_593.out _).trans (((cell_far (p := ⟨gb593, _, none⟩) NB564_593.out _).trans (((cell_far (p := ⟨gb593, _, none⟩) NB564_593.out _).trans (hHeld.2.1)))))), ((cell_far (p := ⟨gb593, _, none⟩) NB564_593.out _).trans (((cell_far (p := ⟨gb593, _, none⟩) NB564_593.out _).trans (((cell_far (p := ⟨gb593, _, none⟩) NB564_593.out _).trans (hHeld.2.2))))))⟩ (fun hHeld => ?_)
          clear hK K
          refine sqP (i := 10) (N := some 11) (h := ?_)
          refine done_ (done_of HT_.out (by kernel_rfl)) ?_
          try go_wp2
          have n0_ : Aside0 (Kd.R k38 38 (((w79.setCell ⟨gb593, 0, none⟩ (.int .i64 t587)).setCell ⟨gb593, 1, none⟩ (.int .i64 t588)).setCell ⟨gb593, 2, none⟩ (.slice Ao82 t589.length co82)) w.heap.size (fun _ => True) (.slice Ao11 t561.length co11) t561) := ⟨by (with_reducible repeat (first | apply Kd.R_alloc | apply Kd.R_drewN | apply Kd.R_drew)); exact Kd.R_mono (Kd.R_far (p := ⟨gb593, 2, none⟩) (Kd.R_far (p := ⟨gb593, 1, none⟩) (Kd.R_far (p := ⟨gb593, 0, none⟩) (Kd.R_types HO_4.out BK593.out (by decide)) (fun _ hk => hk.2) (.int .i64 t587)) (fun _ hk => hk.2) (.int .i64 t588)) (fun _ hk => hk.2) (.slice Ao82 t589.length co82)) (fun _ hk => trivial)⟩
          have n1_ : Aside0 (Kd.Q k31 31 (((w79.setCell ⟨gb593, 0, none⟩ (.int .i64 t587)).setCell ⟨gb593, 1, none⟩ (.int .i64 t588)).setCell ⟨gb593, 2, none⟩ (.slice Ao82 t589.length co82)) w.heap.size (fun k_ => some k_ ≠ (.slice Ao16 t567.length co16 : Value).ownBlock ∧ some k_ ≠ (.slice Ao23 t574.length co23 : Value).ownBlock ∧ some k_ ≠ (.slice Ao82 t589.length co82 : Value).ownBlock) (.slice Ao10 t558.length co10) t558) := ⟨Z101 HO_565002 BK593⟩
          have n2_ : Aside0 (Kd.R k31 31 (((w79.setCell ⟨gb593, 0, none⟩ (.int .i64 t587)).setCell ⟨gb593, 1, none⟩ (.int .i64 t588)).setCell ⟨gb593, 2, none⟩ (.slice Ao82 t589.length co82)) w.heap.size (fun k_ => some k_ ≠ (.slice Ao10 t558.length co10 : Value).ownBlock ∧ some k_ ≠ (.slice Ao23 t574.length co23 : Value).ownBlock ∧ some k_ ≠ (.slice Ao82 t589.length co82 : Value).ownBlock) (.slice Ao16 t567.length co16) t567) := ⟨by (with_reducible repeat (first | apply Kd.R_alloc | apply Kd.R_drewN | apply Kd.R_drew)); exact Kd.R_mono (Kd.R_far (p := ⟨gb593, 2, none⟩) (Kd.R_far (p := ⟨gb593, 1, none⟩) (Kd.R_far (p := ⟨gb593, 0, none⟩) (Kd.R_types HO_572002.out BK593.out (by decide)) (fun _ hk => hk.2) (.int .i64 t587)) (fun _ hk => hk.2) (.int .i64 t588)) (fun _ hk => hk.2) (.slice Ao82 t589.length co82)) (fun _ hk => ⟨hk.1.2.1, ⟨hk.1.2.2, hk.1.1⟩⟩)⟩
          have n3_ : Aside0 (Kd.Q k31 31 (((w79.setCell ⟨gb593, 0, none⟩ (.int .i64 t587)).setCell ⟨gb593, 1, none⟩ (.int .i64 t588)).setCell ⟨gb593, 2, none⟩ (.slice Ao82 t589.length co82)) w.heap.size (fun k_ => some k_ ≠ (.slice Ao10 t558.length co10 : Value).ownBlock ∧ some k_ ≠ (.slice Ao16 t567.length co16 : Value).ownBlock ∧ some k_ ≠ (.slice Ao82 t589.length co82 : Value).ownBlock) (.slice Ao23 t574.length co23) t574) := ⟨Z101 HO_579002 BK593⟩
          have n4_ : Aside0 (Kd.R k31 31 (((w79.setCell ⟨gb593, 0, none⟩ (.int .i64 t587)).setCell ⟨gb593, 1, none⟩ (.int .i64 t588)).setCell ⟨gb593, 2, none⟩ (.slice Ao82 t589.length co82)) w.heap.size (fun k_ => some k_ ≠ (.slice Ao10 t558.length co10 : Value).ownBlock ∧ some k_ ≠ (.slice Ao16 t567.length co16 : Value).ownBlock ∧ some k_ ≠ (.slice Ao23 t574.length co23 : Value).ownBlock) (.slice Ao82 t589.length co82) t589) := ⟨by (with_reducible repeat (first | apply Kd.R_alloc | apply Kd.R_drewN | apply Kd.R_drew)); exact Kd.R_mono (Kd.R_far (p := ⟨gb593, 2, none⟩) (Kd.R_far (p := ⟨gb593, 1, none⟩) (Kd.R_far (p := ⟨gb593, 0, none⟩) (Kd.R_types HO591.out BK593.out (by decide)) (fun _ hk => hk.2) (.int .i64 t587)) (fun _ hk => hk.2) (.int .i64 t588)) (fun _ hk => hk.2) (.slice Ao82 t589.length co82)) (fun _ hk => ⟨hk.1.1, ⟨hk.1.2.1, hk.1.2.2⟩⟩)⟩
          have n5_ : Aside0 ((((w79.setCell ⟨gb593, 0, none⟩ (.int .i64 t587)).setCell ⟨gb593, 1, none⟩ (.int .i64 t588)).setCell ⟨gb593, 2, none⟩ (.slice Ao82 t589.length co82)).heap[gb564]? = some (.cells #[.int .i64 t556, .int .i64 t557, .slice Ao10 t558.length co10] 34 (0, 0))) := ⟨Z5 NB564_593 BK564⟩
          have n6_ : Aside0 ((((w79.setCell ⟨gb593, 0, none⟩ (.int .i64 t587)).setCell ⟨gb593, 1, none⟩ (.int .i64 t588)).setCell ⟨gb593, 2, none⟩ (.slice Ao82 t589.length co82)).heap[gb571]? = some (.cells #[.int .i64 t565, .int .i64 t566, .slice Ao16 t567.length co16] 34 (0, 0))) := ⟨Z5 NB571_593 BK571⟩
          have n7_ : Aside0 ((((w79.setCell ⟨gb593, 0, none⟩ (.int .i64 t587)).setCell ⟨gb593, 1, none⟩ (.int .i64 t588)).setCell ⟨gb593, 2, none⟩ (.slice Ao82 t589.length co82)).heap[gb578]? = some (.cells #[.int .i64 t572, .int .i64 t573, .slice Ao23 t574.length co23] 34 (0, 0))) := ⟨Z5 NB578_593 BK578⟩
          have n8_ : Aside0 ((((w79.setCell ⟨gb593, 0, none⟩ (.int .i64 t587)).setCell ⟨gb593, 1, none⟩ (.int .i64 t588)).setCell ⟨gb593, 2, none⟩ (.slice Ao82 t589.length co82)).heap[gb593]? = some (.cells #[.int .i64 t587, .int .i64 t588, .slice Ao82 t589.length co82] 34 (0, 0))) := ⟨by refine sqPut (cs := #[.int .i64 t587, .int .i64 t588, .slice none 0 0]) ?_ 2; refine sqPut (cs := #[.int .i64 t587, .int .i64 0, .slice none 0 0]) ?_ 1; refine sqPut (cs := #[.int .i64 0, .int .i64 0, .slice none 0 0]) ?_ 0; exact sqK BK593⟩
          have n9_ : Aside0 (Below w.heap.size w (((w79.setCell ⟨gb593, 0, none⟩ (.int .i64 t587)).setCell ⟨gb593, 1, none⟩ (.int .i64 t588)).setCell ⟨gb593, 2, none⟩ (.slice Ao82 t589.length co82))) := ⟨sqB4 HB GE564 GE571 GE578 GE593⟩
          (try clear HO_4)
          (try clear HO_565002)
          (try clear HO_572002)
          (try clear HO_579002)
          (try clear HO591)
          (try clear BK564)
          (try clear BK571)
          (try clear BK578)
          (try clear BK593)
          (try clear HB)
          generalize (((w79.setCell ⟨gb593, 0, none⟩ (.int .i64 t587)).setCell ⟨gb593, 1, none⟩ (.int .i64 t588)).setCell ⟨gb593, 2, none⟩ (.slice Ao82 t589.length co82)) = w84 at n0_ n1_ n2_ n3_ n4_ n5_ n6_ n7_ n8_ n9_ ⊢
          have HO_4 := n0_
          have HO_565002 := n1_
          have HO_572002 := n2_
          have HO_579002 := n3_
          have HO591 := n4_
          have BK564 := n5_
          have BK571 := n6_
          have BK578 := n7_
          have BK593 := n8_
          have HB := n9_
          clear n0_ n1_ n2_ n3_ n4_ n5_ n6_ n7_ n8_ n9_
          replace HO_4 := Aside0.mk (Kd.R_drew HO_4.out)
          replace HO_565002 := Aside0.mk (Kd.Q_drew HO_565002.out)
          replace HO_572002 := Aside0.mk (Kd.R_drew HO_572002.out)
          replace HO_579002 := Aside0.mk (Kd.Q_drew HO_579002.out)
          replace HO591 := Aside0.mk (Kd.R_drew HO591.out)
          replace BK564 := Aside0.mk (blk_drew BK564.out)
          replace BK571 := Aside0.mk (blk_drew BK571.out)
          replace BK578 := Aside0.mk (blk_drew BK578.out)
          replace BK593 := Aside0.mk (blk_drew BK593.out)
          replace HB := Aside0.mk (below_drew1 HB.out)
          have q86 : ((ji64) : Int) ≤ ((t561.length : Int) : Int) := of_decide_eq_true Z7
          obtain ⟨i086, hi086, _, hsz86, _⟩ := info_parts info38
          have hroom86 : t561.length ≤ co11 := (Kd.R_reads' HO_4.out).2.1
          have hC86 : Kd.C k38 _ Ao11 t561.length t561 := (Kd.R_reads' HO_4.out).2.2
          have q086 : (0 : Int) ≤ ((ji64) : Int) := of_decide_eq_true Z7
          have hcut86 := cut_from (P := Tryz.prog) 52 38 .i64 Tryz.underlying52 hi086 2 hsz86 Ao11 t561.length co11 (ji64) q086 q86
          have hr86 := Kd.C_drop (m := ((ji64) : Int).toNat) (c := co11) hC86 (by omega) hroom86
          obtain ⟨A86, hA86⟩ : ∃ A1, A1 = (if co11 = ((ji64) : Int).toNat then Ao11 else (Ao11 : Option Addr).map (·.add (((ji64) : Int).toNat * 2))) := ⟨_, rfl⟩
          obtain ⟨c86, hc86⟩ : ∃ c1, c1 = co11 - ((ji64) : Int).toNat := ⟨_, rfl⟩
          have hy86 : y594.length = t561.length - ((ji64) : Int).toNat := (by rw [Ny594.out, List.length_drop] <;> omega)
          rw [show (t561).drop ((ji64) : Int).toNat = y594 from Ny594.out.symm] at hr86
          replace hr86 : Kd.C k38 _ A86 y594.length y594 := (by rw [hA86]; exact hr86)
          rw [← hy86, ← hA86, ← hc86] at hcut86
          have HR597 := Aside0.mk hr86
          have HC597 := Aside0.mk (show y594.length ≤ c86 from by rw [hy86, hc86]; exact Nat.sub_le_sub_right hroom86 _)
          clear hr86 hC86 hroom86 hi086 hsz86 hc86
          have KY86 := Aside0.mk hy86
          have KA86 := Aside0.mk hA86
          clear hy86 hA86
          have KL86 := Aside0.mk (show ((ji64) : Int).toNat ≤ t561.length from by omega)
          replace q86 := eq_true q86
          refine start_ (n := 11) (S := fun w' => w'.cell? ⟨gb593, 0, none⟩ = some (.int .i64 t587) ∧ w'.cell? ⟨gb593, 1, none⟩ = some (.int .i64 t588) ∧ w'.cell? ⟨gb593, 2, none⟩ = some (.slice Ao82 t589.length co82)) (ds := []) #[false, false, false, false, false, false, false, false, false, false, false] (by kernel_rfl) rfl rfl ⟨(blk_cell BK593.out 0).trans rfl, (blk_cell BK593.out 1).trans rfl, (blk_cell BK593.out 2).trans rfl⟩ (fun hHeld => ?_); refine with_tabW laws_FnDeskRun.tab12 laws_FnDeskRun.bits12 (fun HT_ HW_ => ?_)
          generalize w84.drew = w85 at HO_4 HO_565002 HO_572002 HO_579002 HO591 BK564 BK571 BK578 BK593 HB HR597 hHeld ⊢
          refine sqP (i := 1) (N := some 73) (h := ?_)
          refine sqP (i := 2) (N := some 74) (h := ?_)
          refine sqP (i := 3) (N := some 75) (h := ?_)
          refine take_ (i := 0) (N := some 72) (v := ?_) (a' := ?_) #[true, true, true, true, false, false, false, false, false, false, false] rfl rfl (take_ofW HT_.out HW_.out (by kernel_rfl)) (fun _ _ _ h => h) (Or.inl ⟨by rfl, ?_⟩) hHeld ?_ ?_
          rotate_left
          ·rintro w' ⟨s0, s1, s2⟩
           go_simp
           with_reducible rfl
          rotate_left
          ·simp only [Act.put, List.setIfInBounds_toArray, List.set_cons_zero, List.set_cons_succ, i64_w, i32_w]
           rfl
          refine join_ (σ := Value × Nat) 2 #[true, true, true, true, true, true, true, true, true, false, false] (fun s_ => [(76, .tuple #[.agg #[.int .i64 t598, .int .i64 t599, s_.1], .int .i64 t603]), (12, .pointer (some ⟨s_.2, 0, none⟩)), (71, .tuple #[.agg #[.int .i64 t598, .int .i64 t599, s_.1], .int .i64 t603]), (77, .agg #[.int .i64 t598, .int .i64 t599, s_.1]), (78, .int .i64 t603)]) (fun s_ w' => (w'.cell? ⟨gb593, 0, none⟩ = some (.int .i64 t587) ∧ w'.cell? ⟨gb593, 1, none⟩ = some (.int .i64 t588) ∧ w'.cell? ⟨gb593, 2, none⟩ = some (.slice Ao82 t589.length co82)) ∧ (Kd.R k31 31 w' w.heap.size (fun k_ => some k_ ≠ (s_.1 : Value).ownBlock ∧ some k_ ≠ (.slice Ao10 t558.length co10 : Value).ownBlock ∧ some k_ ≠ (.slice Ao16 t567.length co16 : Value).ownBlock ∧ some k_ ≠ (.slice Ao23 t574.length co23 : Value).ownBlock) (.slice Ao82 t589.length co82) t589) ∧ (Kd.R k31 31 w' w.heap.size (fun k_ => some k_ ≠ (.slice Ao82 t589.length co82 : Value).ownBlock ∧ some k_ ≠ (.slice Ao10 t558.length co10 : Value).ownBlock ∧ some k_ ≠ (.slice Ao16 t567.length co16 : Value).ownBlock ∧ some k_ ≠ (.slice Ao23 t574.length co23 : Value).ownBlock) s_.1 t600) ∧ (Kd.R k38 38 w' w.heap.size (fun _ => True) (.slice Ao11 t561.length co11) t561) ∧ (Kd.Q k31 31 w' w.heap.size (fun k_ => some k_ ≠ (.slice Ao82 t589.length co82 : Value).ownBlock ∧ some k_ ≠ (s_.1 : Value).ownBlock ∧ some k_ ≠ (.slice Ao16 t567.length co16 : Value).ownBlock ∧ some k_ ≠ (.slice Ao23 t574.length co23 : Value).ownBlock) (.slice Ao10 t558.length co10) t558) ∧ (Kd.R k31 31 w' w.heap.size (fun k_ => some k_ ≠ (.slice Ao82 t589.length co82 : Value).ownBlock ∧ some k_ ≠ (s_.1 : Value).ownBlock ∧ some k_ ≠ (.slice Ao10 t558.length co10 : Value).ownBlock ∧ some k_ ≠ (.slice Ao23 t574.length co23 : Value).ownBlock) (.slice Ao16 t567.length co16) t567) ∧ (Kd.Q k31 31 w' w.heap.size (fun k_ => some k_ ≠ (.slice Ao82 t589.length co82 : Value).ownBlock ∧ some k_ ≠ (s_.1 : Value).ownBlock ∧ some k_ ≠ (.slice Ao10 t558.length co10 : Value).ownBlock ∧ some k_ ≠ (.slice Ao16 t567.length co16 : Value).ownBlock) (.slice Ao23 t574.length co23) t574) ∧ (w'.heap[gb564]? = some (.cells #[.int .i64 t556, .int .i64 t557, .slice Ao10 t558.length co10] 34 (0, 0))) ∧ (w'.heap[gb571]? = some (.cells #[.int .i64 t565, .int .i64 t566, .slice Ao16 t567.length co16] 34 (0, 0))) ∧ (w'.heap[gb578]? = some (.cells #[.int .i64 t572, .int .i64 t573, .slice Ao23 t574.length co23] 34 (0, 0))) ∧ (w'.heap[gb593]? = some (.cells #[.int .i64 t587, .int .i64 t588, .slice Ao82 t589.length co82] 34 (0, 0))) ∧ (w'.heap[s_.2]? = some (.cells #[.int .i64 0, .int .i64 0, .slice none 0 0] 34 (0, 0))) ∧ (w.heap.size ≤ s_.2) ∧ (w.heap.size ≤ s_.2) ∧ (gb564 ≠ s_.2) ∧ (s_.2 ≠ gb564) ∧ (gb571 ≠ s_.2) ∧ (s_.2 ≠ gb571) ∧ (gb578 ≠ s_.2) ∧ (s_.2 ≠ gb578) ∧ (gb593 ≠ s_.2) ∧ (s_.2 ≠ gb593) ∧ (Below w.heap.size w w')) ?_ ?_
          rotate_left
          ·intro hCont
           refine two_ (i := 4) (j := 8) (Ni := some 76) (Nj := some 12) #[true, true, true, true, true, false, false, false, false, false, false] #[true, true, true, true, false, false, false, false, true, false, false] rfl rfl rfl rfl (two_of HT_.out (by kernel_rfl)) (by decide) (by decide) (fun K hK => ?_) (fun K hK => ?_)
           ·skip
            refine goes_ Tryz.func28 (by kernel_rfl) rfl #[.agg #[.int .i64 t587, .int .i64 t588, .slice Ao82 t589.length co82], .slice A86 y594.length c86] (by rfl) rfl rfl sqA ?_
            with_reducible refine (impl_DeskRun.calls kj38 t587 t588 _ _ t589 _ _ y594 t598 t599 t600 t603 _ ?sideG ?side1 ?side2 ?side3 ?side4 A70.out).mono ?_
            (case sideG => exact Glob.below hG (sqB4 HB GE564 GE571 GE578 GE593))
            (case side1 => exact Z44 HO591)
            (case side2 => exact Z45 HO591)
            (case side3 => exact Z122 HR597)
            (case side4 => exact HC597.out)
            rintro e w87 ⟨v601, rfl, ho0, hb⟩
            refine ⟨_, rfl, ?_⟩
            replace HO_4 := sqU HO_4 hb
            have HO602 := Aside0.mk (Kd.R_lower (Kd.R_new' (Kd.R_new' (Kd.R_new' (Kd.R_new' ho0 (Kd.Q_lt (Z10 HO_565002))) (Kd.R_lt (sqR HO_572002))) (Kd.Q_lt (Z10 HO_579002))) (Kd.R_lt (sqR HO591))) (below_size (sqB4 HB GE564 GE571 GE578 GE593)))
            replace HO_565002 := Aside0.mk (Kd.Q_elder' (Z10 HO_565002) (Kd.R_base ho0) hb)
            replace HO_572002 := Aside0.mk (Kd.R_elder' (sqR HO_572002) (Kd.R_base ho0) hb)
            replace HO_579002 := Aside0.mk (Kd.Q_elder' (Z10 HO_579002) (Kd.R_base ho0) hb)
            replace HO591 := Aside0.mk (Kd.R_elder' (sqR HO591) (Kd.R_base ho0) hb)
            replace BK564 := sqT BK564 hb
            replace BK571 := sqT BK571 hb
            replace BK578 := sqT BK578 hb
            replace BK593 := sqT BK593 hb
            replace HR597 := Aside0.mk (Kd.C_below (Z38 HR597) hb)
            replace HB := sqS (sqB4 HB GE564 GE571 GE578 GE593) hb
            (try clear hb)
            (try clear hb2)
            (try clear hk)
            (try clear hi)
            (try clear ho0)
            refine hK.out _ _ ⟨(blk_cell BK593.out 0).trans rfl, (blk_cell BK593.out 1).trans rfl, (blk_cell BK593.out 2).trans rfl⟩ (fun hHeld => ?_)
            clear hK K
            refine sqN (some 76) ?_
            refine sqP (i := 5) (N := some 71) (h := ?_)
            refine sqP (i := 6) (N := some 77) (h := ?_)
            refine sqP (i := 7) (N := some 78) (h := ?_)
            refine one_ (i := 8) (N := some 12) #[true, true, true, true, true, true, true, true, true, false, false] rfl rfl (one_of HT_.out (by kernel_rfl)) (by decide) (fun K hK => ?_)
            refine box_step ?hg (N := 12) ?hd (cs := #[.int .i64 0, .int .i64 0, .slice none 0 0]) (t := 34) ?hr ?_; (case hd => rfl); (case hg => rfl); (case hr => exact Z8)
            intro gb604 hg w88 hbox hb
            replace HO_4 := sqU HO_4 hb
            replace HO_565002 := Aside0.mk (Kd.Q_below (Z10 HO_565002) hb)
            replace HO_572002 := sqU HO_572002 hb
            replace HO_579002 := Aside0.mk (Kd.Q_below (Z10 HO_579002) hb)
            replace HO591 := sqU HO591 hb
            replace HO602 := sqU HO602 hb
            replace HR597 := Aside0.mk (Kd.C_below (Z38 HR597) hb)
            have BK604 := Aside0.mk (hbox)
            have GW604 := Aside0.mk ((sqG hg (sqB4 HB GE564 GE571 GE578 GE593)))
            have GE604 := Aside0.mk ((sqG hg (sqB4 HB GE564 GE571 GE578 GE593)))
            replace HB := sqS (sqB4 HB GE564 GE571 GE578 GE593) hb
            have NB564_604 := Aside0.mk ((Z50 BK564 : gb564 ≠ gb604))
            have NB604_564 := Aside0.mk ((Z51 BK564 : gb604 ≠ gb564))
            replace BK564 := sqT BK564 hb
            have NB571_604 := Aside0.mk ((Z50 BK571 : gb571 ≠ gb604))
            have NB604_571 := Aside0.mk ((Z51 BK571 : gb604 ≠ gb571))
            replace BK571 := sqT BK571 hb
            have NB578_604 := Aside0.mk ((Z50 BK578 : gb578 ≠ gb604))
            have NB604_578 := Aside0.mk ((Z51 BK578 : gb604 ≠ gb578))
            replace BK578 := sqT BK578 hb
            have NB593_604 := Aside0.mk ((Z50 BK593 : gb593 ≠ gb604))
            have NB604_593 := Aside0.mk ((Z51 BK593 : gb604 ≠ gb593))
            replace BK593 := sqT BK593 hb
            clear hb hbox hg
            refine hK.out _ _ ⟨(blk_cell BK593.out 0).trans rfl, (blk_cell BK593.out 1).trans rfl, (blk_cell BK593.out 2).trans rfl⟩ (fun hHeld => ?_)
            clear hK K
            refine sqN (some 12) ?_
            exact norm_ Z33 (hCont (v601, gb604) _ ⟨hHeld, (Z102 HO591), (Z103 HO602), (sqR HO_4), (Z104 HO_565002), (Z105 HO_572002), (Z104 HO_579002), (sqK BK564), (sqK BK571), (sqK BK578), (sqK BK593), (sqK BK604), GW604.out, GE604.out, NB564_604.out, NB604_564.out, NB571_604.out, NB604_571.out, NB578_604.out, NB604_578.out, NB593_604.out, NB604_593.out, (Z14 GE564 GE571 GE578 GE593 GE604)⟩)
           ·skip
            refine box_step ?hg (N := 12) ?hd (cs := #[.int .i64 0, .int .i64 0, .slice none 0 0]) (t := 34) ?hr ?_; (case hd => rfl); (case hg => rfl); (case hr => exact Z8)
            intro gb604 hg w87 hbox hb
            replace HO_4 := sqU HO_4 hb
            replace HO_565002 := Aside0.mk (Kd.Q_below (Z10 HO_565002) hb)
            replace HO_572002 := sqU HO_572002 hb
            replace HO_579002 := Aside0.mk (Kd.Q_below (Z10 HO_579002) hb)
            replace HO591 := sqU HO591 hb
            replace HR597 := Aside0.mk (Kd.C_below (Z38 HR597) hb)
            have BK604 := Aside0.mk (hbox)
            have GW604 := Aside0.mk ((sqG hg (sqB4 HB GE564 GE571 GE578 GE593)))
            have GE604 := Aside0.mk ((sqG hg (sqB4 HB GE564 GE571 GE578 GE593)))
            replace HB := sqS (sqB4 HB GE564 GE571 GE578 GE593) hb
            have NB564_604 := Aside0.mk ((Z50 BK564 : gb564 ≠ gb604))
            have NB604_564 := Aside0.mk ((Z51 BK564 : gb604 ≠ gb564))
            replace BK564 := sqT BK564 hb
            have NB571_604 := Aside0.mk ((Z50 BK571 : gb571 ≠ gb604))
            have NB604_571 := Aside0.mk ((Z51 BK571 : gb604 ≠ gb571))
            replace BK571 := sqT BK571 hb
            have NB578_604 := Aside0.mk ((Z50 BK578 : gb578 ≠ gb604))
            have NB604_578 := Aside0.mk ((Z51 BK578 : gb604 ≠ gb578))
            replace BK578 := sqT BK578 hb
            have NB593_604 := Aside0.mk ((Z50 BK593 : gb593 ≠ gb604))
            have NB604_593 := Aside0.mk ((Z51 BK593 : gb604 ≠ gb593))
            replace BK593 := sqT BK593 hb
            clear hb hbox hg
            refine hK.out _ _ ⟨(blk_cell BK593.out 0).trans rfl, (blk_cell BK593.out 1).trans rfl, (blk_cell BK593.out 2).trans rfl⟩ (fun hHeld => ?_)
            clear hK K
            refine sqN (some 12) ?_
            refine one_ (i := 4) (N := some 76) #[true, true, true, true, true, false, false, false, true, false, false] rfl rfl (one_of HT_.out (by kernel_rfl)) (by decide) (fun K hK => ?_)
            refine goes_ Tryz.func28 (by kernel_rfl) rfl #[.agg #[.int .i64 t587, .int .i64 t588, .slice Ao82 t589.length co82], .slice A86 y594.length c86] (by rfl) rfl rfl sqA ?_
            with_reducible refine (impl_DeskRun.calls kj38 t587 t588 _ _ t589 _ _ y594 t598 t599 t600 t603 _ ?sideG ?side1 ?side2 ?side3 ?side4 A70.out).mono ?_
            (case sideG => exact Glob.below hG (Z14 GE564 GE571 GE578 GE593 GE604))
            (case side1 => exact Z44 HO591)
            (case side2 => exact Z45 HO591)
            (case side3 => exact Z122 HR597)
            (case side4 => exact HC597.out)
            rintro e w88 ⟨v601, rfl, ho0, hb⟩
            refine ⟨_, rfl, ?_⟩
            replace HO_4 := sqU HO_4 hb
            have HO602 := Aside0.mk (Kd.R_lower (Kd.R_new' (Kd.R_new' (Kd.R_new' (Kd.R_new' ho0 (Kd.Q_lt (Z10 HO_565002))) (Kd.R_lt (sqR HO_572002))) (Kd.Q_lt (Z10 HO_579002))) (Kd.R_lt (sqR HO591))) (below_size (Z14 GE564 GE571 GE578 GE593 GE604)))
            replace HO_565002 := Aside0.mk (Kd.Q_elder' (Z10 HO_565002) (Kd.R_base ho0) hb)
            replace HO_572002 := Aside0.mk (Kd.R_elder' (sqR HO_572002) (Kd.R_base ho0) hb)
            replace HO_579002 := Aside0.mk (Kd.Q_elder' (Z10 HO_579002) (Kd.R_base ho0) hb)
            replace HO591 := Aside0.mk (Kd.R_elder' (sqR HO591) (Kd.R_base ho0) hb)
            replace BK564 := sqT BK564 hb
            replace BK571 := sqT BK571 hb
            replace BK578 := sqT BK578 hb
            replace BK593 := sqT BK593 hb
            replace HR597 := Aside0.mk (Kd.C_below (Z38 HR597) hb)
            replace BK604 := sqT BK604 hb
            replace HB := Aside0.mk (below_step (Z14 GE564 GE571 GE578 GE593 GE604) hb)
            (try clear hb)
            (try clear hb2)
            (try clear hk)
            (try clear hi)
            (try clear ho0)
            refine hK.out _ _ ⟨(blk_cell BK593.out 0).trans rfl, (blk_cell BK593.out 1).trans rfl, (blk_cell BK593.out 2).trans rfl⟩ (fun hHeld => ?_)
            clear hK K
            refine sqN (some 76) ?_
            refine sqP (i := 5) (N := some 71) (h := ?_)
            refine sqP (i := 6) (N := some 77) (h := ?_)
            refine sqP (i := 7) (N := some 78) (h := ?_)
            exact norm_ Z33 (hCont (v601, gb604) _ ⟨hHeld, (Z102 HO591), (Z103 HO602), (sqR HO_4), (Z104 HO_565002), (Z105 HO_572002), (Z104 HO_579002), (sqK BK564), (sqK BK571), (sqK BK578), (sqK BK593), (sqK BK604), GW604.out, GE604.out, NB564_604.out, NB604_564.out, NB571_604.out, NB604_571.out, NB578_604.out, NB604_578.out, NB593_604.out, NB604_593.out, (Z14 GE564 GE571 GE578 GE593 GE604)⟩)
          rintro ⟨v601, gb604⟩ w89 ⟨hS_, h0_, h1_, h2_, h3_, h4_, h5_, h6_, h7_, h8_, h9_, h10_, h11_, h12_, h13_, h14_, h15_, h16_, h17_, h18_, h19_, h20_, h21_⟩
          have n0_ : Aside0 (Kd.R k31 31 w89 w.heap.size (fun k_ => some k_ ≠ (v601 : Value).ownBlock ∧ some k_ ≠ (.slice Ao10 t558.length co10 : Value).ownBlock ∧ some k_ ≠ (.slice Ao16 t567.length co16 : Value).ownBlock ∧ some k_ ≠ (.slice Ao23 t574.length co23 : Value).ownBlock) (.slice Ao82 t589.length co82) t589) := ⟨h0_⟩
          have n1_ : Aside0 (Kd.R k31 31 w89 w.heap.size (fun k_ => some k_ ≠ (.slice Ao82 t589.length co82 : Value).ownBlock ∧ some k_ ≠ (.slice Ao10 t558.length co10 : Value).ownBlock ∧ some k_ ≠ (.slice Ao16 t567.length co16 : Value).ownBlock ∧ some k_ ≠ (.slice Ao23 t574.length co23 : Value).ownBlock) v601 t600) := ⟨h1_⟩
          have n2_ : Aside0 (Kd.R k38 38 w89 w.heap.size (fun _ => True) (.slice Ao11 t561.length co11) t561) := ⟨h2_⟩
          have n3_ : Aside0 (Kd.Q k31 31 w89 w.heap.size (fun k_ => some k_ ≠ (.slice Ao82 t589.length co82 : Value).ownBlock ∧ some k_ ≠ (v601 : Value).ownBlock ∧ some k_ ≠ (.slice Ao16 t567.length co16 : Value).ownBlock ∧ some k_ ≠ (.slice Ao23 t574.length co23 : Value).ownBlock) (.slice Ao10 t558.length co10) t558) := ⟨h3_⟩
          have n4_ : Aside0 (Kd.R k31 31 w89 w.heap.size (fun k_ => some k_ ≠ (.slice Ao82 t589.length co82 : Value).ownBlock ∧ some k_ ≠ (v601 : Value).ownBlock ∧ some k_ ≠ (.slice Ao10 t558.length co10 : Value).ownBlock ∧ some k_ ≠ (.slice Ao23 t574.length co23 : Value).ownBlock) (.slice Ao16 t567.length co16) t567) := ⟨h4_⟩
          have n5_ : Aside0 (Kd.Q k31 31 w89 w.heap.size (fun k_ => some k_ ≠ (.slice Ao82 t589.length co82 : Value).ownBlock ∧ some k_ ≠ (v601 : Value).ownBlock ∧ some k_ ≠ (.slice Ao10 t558.length co10 : Value).ownBlock ∧ some k_ ≠ (.slice Ao16 t567.length co16 : Value).ownBlock) (.slice Ao23 t574.length co23) t574) := ⟨h5_⟩
          have n6_ : Aside0 (w89.heap[gb564]? = some (.cells #[.int .i64 t556, .int .i64 t557, .slice Ao10 t558.length co10] 34 (0, 0))) := ⟨h6_⟩
          have n7_ : Aside0 (w89.heap[gb571]? = some (.cells #[.int .i64 t565, .int .i64 t566, .slice Ao16 t567.length co16] 34 (0, 0))) := ⟨h7_⟩
          have n8_ : Aside0 (w89.heap[gb578]? = some (.cells #[.int .i64 t572, .int .i64 t573, .slice Ao23 t574.length co23] 34 (0, 0))) := ⟨h8_⟩
          have n9_ : Aside0 (w89.heap[gb593]? = some (.cells #[.int .i64 t587, .int .i64 t588, .slice Ao82 t589.length co82] 34 (0, 0))) := ⟨h9_⟩
          have n10_ : Aside0 (w89.heap[gb604]? = some (.cells #[.int .i64 0, .int .i64 0, .slice none 0 0] 34 (0, 0))) := ⟨h10_⟩
          have n11_ : Aside0 (w.heap.size ≤ gb604) := ⟨h11_⟩
          have n12_ : Aside0 (w.heap.size ≤ gb604) := ⟨h12_⟩
          have n13_ : Aside0 (gb564 ≠ gb604) := ⟨h13_⟩
          have n14_ : Aside0 (gb604 ≠ gb564) := ⟨h14_⟩
          have n15_ : Aside0 (gb571 ≠ gb604) := ⟨h15_⟩
          have n16_ : Aside0 (gb604 ≠ gb571) := ⟨h16_⟩
          have n17_ : Aside0 (gb578 ≠ gb604) := ⟨h17_⟩
          have n18_ : Aside0 (gb604 ≠ gb578) := ⟨h18_⟩
          have n19_ : Aside0 (gb593 ≠ gb604) := ⟨h19_⟩
          have n20_ : Aside0 (gb604 ≠ gb593) := ⟨h20_⟩
          have n21_ : Aside0 (Below w.heap.size w w89) := ⟨h21_⟩
          clear HO_4
          clear HO_565002
          clear HO_572002
          clear HO_579002
          clear HO591
          clear BK564
          clear BK571
          clear BK578
          clear BK593
          clear HB
          clear h0_ h1_ h2_ h3_ h4_ h5_ h6_ h7_ h8_ h9_ h10_ h11_ h12_ h13_ h14_ h15_ h16_ h17_ h18_ h19_ h20_ h21_
          have HO591 := n0_
          have HO602 := n1_
          have HO_4 := n2_
          have HO_565002 := n3_
          have HO_572002 := n4_
          have HO_579002 := n5_
          have BK564 := n6_
          have BK571 := n7_
          have BK578 := n8_
          have BK593 := n9_
          have BK604 := n10_
          have GW604 := n11_
          have GE604 := n12_
          have NB564_604 := n13_
          have NB604_564 := n14_
          have NB571_604 := n15_
          have NB604_571 := n16_
          have NB578_604 := n17_
          have NB604_578 := n18_
          have NB593_604 := n19_
          have NB604_593 := n20_
          have HB := n21_
          clear n0_ n1_ n2_ n3_ n4_ n5_ n6_ n7_ n8_ n9_ n10_ n11_ n12_ n13_ n14_ n15_ n16_ n17_ n18_ n19_ n20_ n21_
          have hHeld : w89.cell? ⟨gb593, 0, none⟩ = some (.int .i64 t587) ∧ w89.cell? ⟨gb593, 1, none⟩ = some (.int .i64 t588) ∧ w89.cell? ⟨gb593, 2, none⟩ = some (.slice Ao82 t589.length co82) := hS_
          obtain ⟨Ao92, co92, eo92⟩ := Kd.R_slice HO602.out
          (first | subst eo92 | (injection eo92 with f1_ f2_ f3_; have f4_ := f1_.symm; have f5_ := f3_.symm; clear f1_ f2_ f3_; subst f4_; subst f5_))
          refine norm_ (a' := ?_) ?_ ?_
          rotate_left
          ·simp only [putAll, Act.put, List.setIfInBounds_toArray, List.set_cons_zero, List.set_cons_succ]
           rfl
          refine one_ (i := 9) (N := none) #[true, true, true, true, true, true, true, true, true, true, false] rfl rfl (one_of HT_.out (by kernel_rfl)) (by decide) (fun K hK => ?_)
          have hs90 : w89.cell? ⟨gb604, 0, none⟩ = some (.int .i64 0) := (blk_cell BK604.out 0).trans rfl
          have hfs90 := blk_frozen BK604.out 0
          have hns90_0 := NB564_604.out
          have hns90_1 := NB571_604.out
          have hns90_2 := NB578_604.out
          have hns90_3 := NB593_604.out
          have hms90_0 := NB604_564.out
          have hms90_1 := NB604_571.out
          have hms90_2 := NB604_578.out
          have hms90_3 := NB604_593.out
          have hs91 : w89.cell? ⟨gb604, 1, none⟩ = some (.int .i64 0) := (blk_cell BK604.out 1).trans rfl
          have hfs91 := blk_frozen BK604.out 1
          have hns91_0 := NB564_604.out
          have hns91_1 := NB571_604.out
          have hns91_2 := NB578_604.out
          have hns91_3 := NB593_604.out
          have hms91_0 := NB604_564.out
          have hms91_1 := NB604_571.out
          have hms91_2 := NB604_578.out
          have hms91_3 := NB604_593.out
          have hs93 : w89.cell? ⟨gb604, 2, none⟩ = some (.slice none 0 0) := (blk_cell BK604.out 2).trans rfl
          have hfs93 := blk_frozen BK604.out 2
          have hns93_0 := NB564_604.out
          have hns93_1 := NB571_604.out
          have hns93_2 := NB578_604.out
          have hns93_3 := NB593_604.out
          have hms93_0 := NB604_564.out
          have hms93_1 := NB604_571.out
          have hms93_2 := NB604_578.out
          have hms93_3 := NB604_593.out
          refine skip_ (w1 := ?_) (by rfl) rfl ?_ ?_
          rotate_left
          ·go_simp
           rfl
          refine hK.out _ _ ⟨((cell_far (p := ⟨gb604, _, none⟩) NB593_604.out _).trans (((cell_far (p := ⟨gb604, _, none⟩) NB593_604.out _).trans (((cell_far (p := ⟨gb604, _, none⟩) NB593_604.out _).trans (hHeld.1)))))), ((cell_far (p := ⟨gb604, _, none⟩) NB593_604.out _).trans (((cell_far (p := ⟨gb604, _, none⟩) NB593_604.out _).trans (((cell_far (p := ⟨gb604, _, none⟩) NB593_604.out _).trans (hHeld.2.1)))))), ((cell_far (p := ⟨gb604, _, none⟩) NB593_604.out _).trans (((cell_far (p := ⟨gb604, _, none⟩) NB593_604.out _).trans (((cell_far (p := ⟨gb604, _, none⟩) NB593_604.out _).trans (hHeld.2.2))))))⟩ (fun hHeld => ?_)
          clear hK K
          refine sqP (i := 10) (N := some 13) (h := ?_)
          refine done_ (done_of HT_.out (by kernel_rfl)) ?_
          have hnb94 := NB571_564.out
          have hnc94 := NB564_571.out
          have hnb95 := NB571_578.out
          have hnc95 := NB578_571.out
          have hnb96 := NB571_593.out
          have hnc96 := NB593_571.out
          have hnb97 := NB571_604.out
          have hnc97 := NB604_571.out
          obtain ⟨hcz98_0, hcz98_1, hcz98_2, hfz98_0, hfz98_1, hfz98_2⟩ := sqY3 BK571
          try go_wp2_with (first | ((with_reducible refine gate_callee (f := 23) rfl ?_); refine goesL_ (some 80) rfl rfl Tryz.func23 (by kernel_rfl) rfl #[.agg #[.int .i64 t565, .int .i64 t566, .slice Ao16 t567.length co16]] rfl sqA ?_; (with_reducible refine (impl_DeskOk.calls kj38 t565 t566 _ _ t567 true _ ?side1 ?side2 A71.out).mono ?_); (case side1 => refine (Kd.R_reads' (e := 31) (base := w.heap.size) (ok := fun k_ => (some k_ ≠ (.slice Ao82 t589.length co82 : Value).ownBlock ∧ (some k_ ≠ (.slice Ao92 t600.length co92 : Value).ownBlock ∧ (some k_ ≠ (.slice Ao10 t558.length co10 : Value).ownBlock ∧ some k_ ≠ (.slice Ao23 t574.length co23 : Value).ownBlock)))) (n := t567.length) (c := co16) ?_).2.2; exact (Z106 HO_572002 BK604)); (case side2 => exact Z45 HO_572002); rintro e w99 ⟨rfl, hb⟩; refine ⟨_, rfl, ?_⟩; replace HO_4 := Aside0.mk (Kd.R_below (Z106 HO_4 BK604) hb); replace HO_565002 := Aside0.mk (Kd.Q_below (Z107 HO_565002 BK604) hb); replace HO_572002 := Aside0.mk (Kd.R_below (Z106 HO_572002 BK604) hb); replace HO_579002 := Aside0.mk (Kd.Q_below (Z107 HO_579002 BK604) hb); replace HO591 := Aside0.mk (Kd.R_below (Z106 HO591 BK604) hb); replace HO602 := Aside0.mk (Kd.R_below (Z106 HO602 BK604) hb); replace BK564 := Aside0.mk (blk_below (g := gb564) (o := .cells #[.int .i64 t556, .int .i64 t557, .slice Ao10 t558.length co10] 34 (0, 0)) (Z5 NB564_604 BK564) hb); replace BK571 := Aside0.mk (blk_below (g := gb571) (o := .cells #[.int .i64 t565, .int .i64 t566, .slice Ao16 t567.length co16] 34 (0, 0)) (Z5 NB571_604 BK571) hb); replace BK578 := Aside0.mk (blk_below (g := gb578) (o := .cells #[.int .i64 t572, .int .i64 t573, .slice Ao23 t574.length co23] 34 (0, 0)) (Z5 NB578_604 BK578) hb); replace BK593 := Aside0.mk (blk_below (g := gb593) (o := .cells #[.int .i64 t587, .int .i64 t588, .slice Ao82 t589.length co82] 34 (0, 0)) (Z5 NB593_604 BK593) hb); replace BK604 := Aside0.mk (blk_below (g := gb604) (o := .cells #[.int .i64 t598, .int .i64 t599, .slice Ao92 t600.length co92] 34 (0, 0)) (by refine sqPut (cs := #[.int .i64 t598, .int .i64 t599, .slice none 0 0]) ?_ 2; refine sqPut (cs := #[.int .i64 t598, .int .i64 0, .slice none 0 0]) ?_ 1; refine sqPut (cs := #[.int .i64 0, .int .i64 0, .slice none 0 0]) ?_ 0; exact sqK BK604) hb); replace HB := Aside0.mk (below_step (Z14 GE564 GE571 GE578 GE593 GE604) hb); (try clear hb); have hnb100 := NB604_564.out; have hnc100 := NB564_604.out; have hnb101 := NB604_578.out; have hnc101 := NB578_604.out; have hnb102 := NB604_593.out; have hnc102 := NB593_604.out; obtain ⟨hcz103_0, hcz103_1, hcz103_2, hfz103_0, hfz103_1, hfz103_2⟩ := sqY3 BK604; obtain ⟨hcz104_0, hcz104_1, hcz104_2, hfz104_0, hfz104_1, hfz104_2⟩ := sqY3 BK571) | (go_at_call 22; (with_reducible refine (laws_sameDesk.calls kj38 t598 t599 _ _ t600 t565 t566 _ _ t567 true _ ?side1 ?side2 ?side3 ?side4 A73.out).mono ?_); (case side1 => exact Z44 HO602); (case side2 => exact Z45 HO602); (case side3 => exact Z44 HO_572002); (case side4 => exact Z45 HO_572002); rintro e w105 ⟨rfl, hb⟩; replace HO_4 := sqU HO_4 hb; replace HO_565002 := Aside0.mk (Kd.Q_below (Z10 HO_565002) hb); replace HO_572002 := sqU HO_572002 hb; replace HO_579002 := Aside0.mk (Kd.Q_below (Z10 HO_579002) hb); replace HO591 := sqU HO591 hb; replace HO602 := sqU HO602 hb; replace BK564 := sqT BK564 hb; replace BK571 := sqT BK571 hb; replace BK578 := sqT BK578 hb; replace BK593 := sqT BK593 hb; replace BK604 := sqT BK604 hb; replace HB := Aside0.mk (below_step (Z14 GE564 GE571 GE578 GE593 GE604) hb); (try clear hb)))
          go_ret
          exact ⟨by first | rfl | (simp [errP_none, errP_some] <;> rfl) | (simp only [← hji64]; first | rfl | (simp [errP_none, errP_some] <;> rfl)) | (simp [*, errP_none, errP_some] <;> rfl), Z14 GE564 GE571 GE578 GE593 GE604⟩
         ·rw [if_neg c74] at H
          exact absurd (Option.some.inj H) (by rw [hT.out]; decide)
        ·rw [if_neg c72] at H
         exact absurd (Option.some.inj H) (by rw [hT.out]; decide)

/-- THE ONE PURE STATEMENT of laws_FnDeskRun: yours. -/
def laws_FnDeskRun.Pure : Prop := ∀ (l0 : List Int), l0.length ≤ maxLen → l0.length * 1 ≤ 140737488351232 → (∀ x ∈ l0, (Lit.int .u8 x).wf = true) → ∃ k, laws_FnDeskRun.f k l0 = some true
theorem laws_FnDeskRun.walk (P : laws_FnDeskRun.Pure) (a0 : Option Addr) (len0 cap0 : Nat) (z0 : List Int) (w : World) (hG : Glob w) (w0 : (a0 = none ∧ len0 = 0 ∧ cap0 = 0 ∧ z0 = []) ∨ ∃ x, a0 = some x ∧ len0 ≤ cap0 ∧ cap0 ≤ maxLen ∧ z0.length = cap0 ∧ (∀ i, i < z0.length → w.cell? (x.add i) = some (.int .u8 (z0.getD i 0))) ∧ ∀ n ∈ z0, (Lit.int .u8 n).wf = true) (y0 : len0 * 1 ≤ 140737488351232) :
  Calls Tryz.prog 5 #[.slice a0 len0 cap0] w fun e w' => e = .returned (.bool true) ∧ Below w.heap.size w w' := by
 obtain ⟨l0, rfl, hr0, hm0, hw0, hc0⟩ := ReadsInt.ofRowC w0
 obtain ⟨k, h⟩ := P l0 hm0 y0 hw0
 refine (laws_FnDeskRun.calls k _ _ l0 true w hG (Kd.C_of_reads (d := (0 : Int)) (h1 := fun _ => rfl) hr0) hc0 ⟨rfl⟩ h).mono ?_
 rintro e w' ⟨rfl, hd⟩
 exact ⟨rfl, hd⟩


end Go.Proofs.YtofmlbgfcohhoaaGreatDoor.PFnDeskRun
