/- The walk of the law FnExactDeskRun, for the answer true: turned by a program of this session from the printed walk. -/
import Derived.Test.YtofmlbgfcohhoaaGreatDoorPFnExactDeskRunx0
import Derived.Test.YtofmlbgfcohhoaaGreatDoorPFnExactDeskRunx1
import Derived.Test.YtofmlbgfcohhoaaGreatDoorPFnExactDeskRunx2
import Derived.Test.YtofmlbgfcohhoaaGreatDoorPFnExactDeskRunx3
import Derived.Test.YtofmlbgfcohhoaaGreatDoorPFnExactDeskRunx4
import Derived.Test.YtofmlbgfcohhoaaGreatDoorPFnExactDeskRunx5
import Derived.Test.YtofmlbgfcohhoaaGreatDoorPFnExactDeskRunx6
import Derived.Test.YtofmlbgfcohhoaaGreatDoorPFnExactDeskRunx7
import Derived.Test.YtofmlbgfcohhoaaGreatDoorPFnExactDeskRunx8
import Derived.Test.YtofmlbgfcohhoaaGreatDoorPFnExactDeskRunx9
import Derived.Test.YtofmlbgfcohhoaaGreatDoorPFnExactDeskRunx10
import Derived.Test.YtofmlbgfcohhoaaGreatDoorPFnExactDeskRunx11
import Derived.Test.YtofmlbgfcohhoaaGreatDoorPFnExactDeskRunx12
import Derived.Test.YtofmlbgfcohhoaaGreatDoorPFnExactDeskRunx13
import Derived.Test.YtofmlbgfcohhoaaGreatDoorPFnExactDeskRunx14
import Derived.Test.YtofmlbgfcohhoaaGreatDoorPFnExactDeskRunx15
import Derived.Test.YtofmlbgfcohhoaaGreatDoorPFnExactDeskRunx16
import Derived.Test.YtofmlbgfcohhoaaGreatDoorPFnExactDeskRunx17
namespace Go.Proofs.YtofmlbgfcohhoaaGreatDoor.PFnExactDeskRun
open Go.RowKit Go.Proofs.YtofmlbgfcohhoaaGreatDoorW.PrintWords Go.Proofs.YtofmlbgfcohhoaaGreatDoorW.PrintLast Go.Proofs.YtofmlbgfcohhoaaGreatDoorW.PrintMore Go.Proofs.YtofmlbgfcohhoaaGreatDoor.Lib
attribute [local go_sem] max2_int min2_int max_two min_two max_three min_three max_four min_four   -- for this text's walks alone
set_option linter.unusedVariables false
set_option linter.unusedSimpArgs false

/-! ### laws_FnExactDeskRun: function 6 -/
mutual
def laws_FnExactDeskRun.j0 : Nat → List (S28) → Int → List (S38) → Int → Bool → Int → Int → List (S23) → Int → Int → List (S31) → Int → Int → List (S31) → Int → Int → List (S31) → Option (Bool)
 | 0, _, _, _, _, _, _, _, _, _, _, _, _, _, _, _, _, _ => none
 | k + 1, x1, x7, x9, x11, x53, x460000, x460001, x460002, x477000, x477001, x477002, x483000, x483001, x483002, x493000, x493001, x493002 => if x53 = true then (some false) else ((laws_toDesk.f k x460000 x460001 x460002).bind fun bt494 => ((laws_eqDesk.f k x483000 x483001 x483002 bt494.1 bt494.2.1 bt494.2.2).bind fun t499 => (if t499 = true then ((laws_toDeedS.f k x1).bind fun t500 => ((laws_eqDeedS.f k x9 t500).bind fun t503 => (if t503 = true then ((laws_markDesk.f k x483000 x483001 x483002 1).bind fun bt504 => ((laws_markDeedS.f k x9 bt504.1).bind fun bt506 => (if bt506.1 < 0 then (laws_FnExactDeskRun.j1 k x1 x7 true x460000 x460001 x460002 x477000 x477001 x477002 x493000 x493001 x493002) else ((laws_eqDesk.f k x493000 x493001 x493002 x477000 x477001 x477002).bind fun t508 => (if t508 = true then (laws_FnExactDeskRun.j1 k x1 x7 (x11 != x7) x460000 x460001 x460002 x477000 x477001 x477002 x493000 x493001 x493002) else (laws_FnExactDeskRun.j1 k x1 x7 true x460000 x460001 x460002 x477000 x477001 x477002 x493000 x493001 x493002)))))) else (some false)))) else (some false))))
def laws_FnExactDeskRun.j1 : Nat → List (S28) → Int → Bool → Int → Int → List (S23) → Int → Int → List (S31) → Int → Int → List (S31) → Option (Bool)
 | 0, _, _, _, _, _, _, _, _, _, _, _, _ => none
 | k + 1, x1, x7, x82, x460000, x460001, x460002, x477000, x477001, x477002, x493000, x493001, x493002 => if x82 = true then (some false) else ((laws_markDesk.f k x493000 x493001 x493002 1).bind fun bt509 => ((laws_heldDesk.f k x493000 x493001 bt509.2 1).bind fun t511 => (if t511 < 0 then (some false) else (if t511 = bt509.1 then ((laws_toDesk.f k x460000 x460001 x460002).bind fun bt512 => ((laws_toDeedS.f k x1).bind fun t517 => ((impl_DeskRun.f k bt512.1 bt512.2.1 bt512.2.2 t517).bind fun bt520 => ((laws_eqDesk.f k bt520.1 bt520.2.1 bt520.2.2.1 x477000 x477001 x477002).bind fun t527 => (if t527 = true then (laws_FnExactDeskRun.j2 k bt509.1 (bt520.2.2.2 != x7) x493000 x493001 bt509.2) else (laws_FnExactDeskRun.j2 k bt509.1 true x493000 x493001 bt509.2)))))) else (some false)))))
def laws_FnExactDeskRun.j2 : Nat → Int → Bool → Int → Int → List (S31) → Option (Bool)
 | 0, _, _, _, _, _ => none
 | k + 1, x13, x110, x493000, x493001, x493002 => if x110 = true then (some false) else ((laws_heldDesk.f k x493000 x493001 x493002 1).bind fun t528 => (if t528 < 0 then (some false) else (if t528 = x13 then (some true) else (some false))))
end
def laws_FnExactDeskRun.f (k : Nat) (a0_0 : Int) (a0_1 : Int) (l0_2 : List (S23)) (l1 : List (S28)) : Option (Bool) := (laws_szDesk.f a0_0 a0_1 l0_2 1048576).bind fun t460 => (if t460 < 0 then (some true) else ((laws_szDeedS.f k l1 t460).bind fun t461 => (if t461 < 0 then (some true) else ((laws_toDesk.f k a0_0 a0_1 l0_2).bind fun bt462 => ((laws_toDeedS.f k l1).bind fun t467 => ((spec_DeskRun.f k bt462.1 bt462.2.1 bt462.2.2 t467).bind fun bt470 => ((laws_toDesk.f k a0_0 a0_1 l0_2).bind fun bt477 => ((laws_toDeedS.f k l1).bind fun t483 => ((impl_DeskRun.f k bt477.1 bt477.2.1 bt477.2.2 t483).bind fun bt486 => ((laws_eqDesk.f k bt486.1 bt486.2.1 bt486.2.2.1 bt470.1 bt470.2.1 bt470.2.2.1).bind fun t493 => (if t493 = true then (laws_FnExactDeskRun.j0 k l1 bt470.2.2.2 t483 bt486.2.2.2 (bt486.2.2.2 != bt470.2.2.2) a0_0 a0_1 l0_2 bt470.1 bt470.2.1 bt470.2.2.1 bt477.1 bt477.2.1 bt477.2.2 bt486.1 bt486.2.1 bt486.2.2.1) else (laws_FnExactDeskRun.j0 k l1 bt470.2.2.2 t483 bt486.2.2.2 true a0_0 a0_1 l0_2 bt470.1 bt470.2.1 bt470.2.2.1 bt477.1 bt477.2.1 bt477.2.2 bt486.1 bt486.2.1 bt486.2.2.1))))))))))))
theorem laws_FnExactDeskRun.mono_l : ∀ k, (∀ y0 y1 y2 y3 y4 y5 y6 y7 y8 y9 y10 y11 y12 y13 y14 y15 y16, LeO (laws_FnExactDeskRun.j0 k y0 y1 y2 y3 y4 y5 y6 y7 y8 y9 y10 y11 y12 y13 y14 y15 y16) (laws_FnExactDeskRun.j0 (k + 1) y0 y1 y2 y3 y4 y5 y6 y7 y8 y9 y10 y11 y12 y13 y14 y15 y16)) ∧ (∀ y0 y1 y2 y3 y4 y5 y6 y7 y8 y9 y10 y11, LeO (laws_FnExactDeskRun.j1 k y0 y1 y2 y3 y4 y5 y6 y7 y8 y9 y10 y11) (laws_FnExactDeskRun.j1 (k + 1) y0 y1 y2 y3 y4 y5 y6 y7 y8 y9 y10 y11)) ∧ (∀ y0 y1 y2 y3 y4, LeO (laws_FnExactDeskRun.j2 k y0 y1 y2 y3 y4) (laws_FnExactDeskRun.j2 (k + 1) y0 y1 y2 y3 y4))
 | 0 => ⟨fun _ _ _ _ _ _ _ _ _ _ _ _ _ _ _ _ _ r h => by simp [laws_FnExactDeskRun.j0] at h, fun _ _ _ _ _ _ _ _ _ _ _ _ r h => by simp [laws_FnExactDeskRun.j1] at h, fun _ _ _ _ _ r h => by simp [laws_FnExactDeskRun.j2] at h⟩
 | k + 1 => by
  obtain ⟨ih0, ih1, ih2⟩ := laws_FnExactDeskRun.mono_l k
  refine ⟨?_, ?_, ?_⟩
  ·intro y0 y1 y2 y3 y4 y5 y6 y7 y8 y9 y10 y11 y12 y13 y14 y15 y16
   unfold laws_FnExactDeskRun.j0
   repeat' first
   | (with_reducible exact ih0 _ _ _ _ _ _ _ _ _ _ _ _ _ _ _ _ _)
   | (with_reducible exact ih1 _ _ _ _ _ _ _ _ _ _ _ _)
   | (with_reducible exact ih2 _ _ _ _ _)
   | (with_reducible exact impl_DeskRun.mono _ _ _ _ _)
   | (with_reducible exact laws_eqDeedS.mono _ _ _)
   | (with_reducible exact laws_eqDesk.mono _ _ _ _ _ _ _)
   | (with_reducible exact laws_heldDesk.mono _ _ _ _ _)
   | (with_reducible exact laws_markDeedS.mono _ _ _)
   | (with_reducible exact laws_markDesk.mono _ _ _ _ _)
   | (with_reducible exact laws_szDeedS.mono _ _ _)
   | (with_reducible exact laws_toDeedS.mono _ _)
   | (with_reducible exact laws_toDesk.mono _ _ _ _)
   | (with_reducible exact spec_DeskRun.mono _ _ _ _ _)
   | (with_reducible exact LeO.refl _)
   | (with_reducible exact LeO.none _)
   | (with_reducible refine LeO.ite ?_ ?_)
   | (with_reducible refine LeO.bind ?_ (fun _ => ?_))
  ·intro y0 y1 y2 y3 y4 y5 y6 y7 y8 y9 y10 y11
   unfold laws_FnExactDeskRun.j1
   repeat' first
   | (with_reducible exact ih0 _ _ _ _ _ _ _ _ _ _ _ _ _ _ _ _ _)
   | (with_reducible exact ih1 _ _ _ _ _ _ _ _ _ _ _ _)
   | (with_reducible exact ih2 _ _ _ _ _)
   | (with_reducible exact impl_DeskRun.mono _ _ _ _ _)
   | (with_reducible exact laws_eqDeedS.mono _ _ _)
   | (with_reducible exact laws_eqDesk.mono _ _ _ _ _ _ _)
   | (with_reducible exact laws_heldDesk.mono _ _ _ _ _)
   | (with_reducible exact laws_markDeedS.mono _ _ _)
   | (with_reducible exact laws_markDesk.mono _ _ _ _ _)
   | (with_reducible exact laws_szDeedS.mono _ _ _)
   | (with_reducible exact laws_toDeedS.mono _ _)
   | (with_reducible exact laws_toDesk.mono _ _ _ _)
   | (with_reducible exact spec_DeskRun.mono _ _ _ _ _)
   | (with_reducible exact LeO.refl _)
   | (with_reducible exact LeO.none _)
   | (with_reducible refine LeO.ite ?_ ?_)
   | (with_reducible refine LeO.bind ?_ (fun _ => ?_))
  ·intro y0 y1 y2 y3 y4
   unfold laws_FnExactDeskRun.j2
   repeat' first
   | (with_reducible exact ih0 _ _ _ _ _ _ _ _ _ _ _ _ _ _ _ _ _)
   | (with_reducible exact ih1 _ _ _ _ _ _ _ _ _ _ _ _)
   | (with_reducible exact ih2 _ _ _ _ _)
   | (with_reducible exact impl_DeskRun.mono _ _ _ _ _)
   | (with_reducible exact laws_eqDeedS.mono _ _ _)
   | (with_reducible exact laws_eqDesk.mono _ _ _ _ _ _ _)
   | (with_reducible exact laws_heldDesk.mono _ _ _ _ _)
   | (with_reducible exact laws_markDeedS.mono _ _ _)
   | (with_reducible exact laws_markDesk.mono _ _ _ _ _)
   | (with_reducible exact laws_szDeedS.mono _ _ _)
   | (with_reducible exact laws_toDeedS.mono _ _)
   | (with_reducible exact laws_toDesk.mono _ _ _ _)
   | (with_reducible exact spec_DeskRun.mono _ _ _ _ _)
   | (with_reducible exact LeO.refl _)
   | (with_reducible exact LeO.none _)
   | (with_reducible refine LeO.ite ?_ ?_)
   | (with_reducible refine LeO.bind ?_ (fun _ => ?_))
theorem laws_FnExactDeskRun.mono : ∀ a0 a1 a2 a3 k, LeO (laws_FnExactDeskRun.f k a0 a1 a2 a3) (laws_FnExactDeskRun.f (k + 1) a0 a1 a2 a3) := by
 intro a0 a1 a2 a3 k
 obtain ⟨ih0, ih1, ih2⟩ := laws_FnExactDeskRun.mono_l k
 unfold laws_FnExactDeskRun.f
 repeat' first
   | (with_reducible exact ih0 _ _ _ _ _ _ _ _ _ _ _ _ _ _ _ _ _)
   | (with_reducible exact ih1 _ _ _ _ _ _ _ _ _ _ _ _)
   | (with_reducible exact ih2 _ _ _ _ _)
   | (with_reducible exact impl_DeskRun.mono _ _ _ _ _)
   | (with_reducible exact laws_eqDeedS.mono _ _ _)
   | (with_reducible exact laws_eqDesk.mono _ _ _ _ _ _ _)
   | (with_reducible exact laws_heldDesk.mono _ _ _ _ _)
   | (with_reducible exact laws_markDeedS.mono _ _ _)
   | (with_reducible exact laws_markDesk.mono _ _ _ _ _)
   | (with_reducible exact laws_szDeedS.mono _ _ _)
   | (with_reducible exact laws_toDeedS.mono _ _)
   | (with_reducible exact laws_toDesk.mono _ _ _ _)
   | (with_reducible exact spec_DeskRun.mono _ _ _ _ _)
   | (with_reducible exact LeO.refl _)
   | (with_reducible exact LeO.none _)
   | (with_reducible refine LeO.ite ?_ ?_)
   | (with_reducible refine LeO.bind ?_ (fun _ => ?_))
set_option maxHeartbeats 8000000 in
set_option maxRecDepth 100000 in
theorem laws_FnExactDeskRun.calls (k : Nat) (a0_0 : Int) (a0_1 : Int) (A0_2 : Option Addr) (c0_2 : Nat) (l0_2 : List (S23)) (A1 : Option Addr) (c1 : Nat) (l1 : List (S28)) (r : Bool) (w : World) (hG : Glob w) (hr0_2 : Kd.C k23 w A0_2 l0_2.length l0_2) (hc0_2 : l0_2.length ≤ c0_2) (hr1 : Kd.C k28 w A1 l1.length l1) (hc1 : l1.length ≤ c1) (hT : Aside0 (r = true)) (h : laws_FnExactDeskRun.f k a0_0 a0_1 l0_2 l1 = some r) :
  Calls Tryz.prog 6 #[.agg #[.int .i64 a0_0, .int .i64 a0_1, .slice A0_2 l0_2.length c0_2], .slice A1 l1.length c1] w fun e w' => e = .returned (.bool r) ∧ Below w.heap.size w w' := by
 have hu26 := Tryz.underlying26
 have hu34 := Tryz.underlying34
 have HR0_2 := Aside0.mk hr0_2
 have HC0_2 := Aside0.mk hc0_2
 clear hr0_2 hc0_2
 have HR1 := Aside0.mk hr1
 have HC1 := Aside0.mk hc1
 clear hr1 hc1
 have HB := Aside0.mk (Below.refl w.heap.size w)
 have H : ((laws_szDesk.f a0_0 a0_1 l0_2 1048576).bind fun t460 => (if t460 < 0 then (some true) else ((laws_szDeedS.f k l1 t460).bind fun t461 => (if t461 < 0 then (some true) else ((laws_toDesk.f k a0_0 a0_1 l0_2).bind fun bt462 => ((laws_toDeedS.f k l1).bind fun t467 => ((spec_DeskRun.f k bt462.1 bt462.2.1 bt462.2.2 t467).bind fun bt470 => ((laws_toDesk.f k a0_0 a0_1 l0_2).bind fun bt477 => ((laws_toDeedS.f k l1).bind fun t483 => ((impl_DeskRun.f k bt477.1 bt477.2.1 bt477.2.2 t483).bind fun bt486 => ((laws_eqDesk.f k bt486.1 bt486.2.1 bt486.2.2.1 bt470.1 bt470.2.1 bt470.2.2.1).bind fun t493 => (if t493 = true then (laws_FnExactDeskRun.j0 k l1 bt470.2.2.2 t483 bt486.2.2.2 (bt486.2.2.2 != bt470.2.2.2) a0_0 a0_1 l0_2 bt470.1 bt470.2.1 bt470.2.2.1 bt477.1 bt477.2.1 bt477.2.2 bt486.1 bt486.2.1 bt486.2.2.1) else (laws_FnExactDeskRun.j0 k l1 bt470.2.2.2 t483 bt486.2.2.2 true a0_0 a0_1 l0_2 bt470.1 bt470.2.1 bt470.2.2.1 bt477.1 bt477.2.1 bt477.2.2 bt486.1 bt486.2.1 bt486.2.2.1))))))))))))) = some r := h
 clear h
 obtain ⟨t460, A3, H⟩ := sqD H
 by_cases c4 : t460 < 0
 ·rw [if_pos c4] at H
  have c4b0 : decide (t460 < 0) = true := decide_eq_true c4
  clear c4
  obtain rfl := Option.some.inj H
  go_enter Tryz.func6, Tryz.ntmps6
  go_wp2_with (first | ((with_reducible refine gate_dst (N := 2) rfl ?_); refine sqBox (N := 2) (cs := #[.int .i64 a0_0, .int .i64 a0_1, .slice A0_2 l0_2.length c0_2]) (t := 26) ?_; intro gb459 hg w5 BK459 hb; have GW459 := Aside0.mk ((sqG hg (sqB HB))); have GE459 := GW459; replace HB := sqS (sqB HB) hb; clear hb hg; obtain ⟨hcz6_0, hcz6_1, hcz6_2, hfz6_0, hfz6_1, hfz6_2⟩ := sqY3 BK459) | ((with_reducible refine gate_callee (f := 12) rfl ?_); refine goesL_ (some 19) rfl rfl Tryz.func12 (by kernel_rfl) rfl #[.agg #[.int .i64 a0_0, .int .i64 a0_1, .slice A0_2 l0_2.length c0_2], .int .i64 1048576] rfl sqA ?_; (with_reducible refine (laws_szDesk.calls a0_0 a0_1 _ _ l0_2 1048576 t460 _ ?side1 ?side2 A3.out).mono ?_); (case side1 => exact Z27); (case side2 => exact Z28); rintro e w7 ⟨rfl, hb⟩; refine ⟨_, rfl, ?_⟩; replace BK459 := sqT BK459 hb; replace HB := sqS (sqB1 HB GE459) hb; (try clear hb)))
  go_ret
  exact ⟨Z4, sqB1 HB GE459⟩
 ·rw [if_neg c4] at H
  have c4b0 : decide (t460 < 0) = false := decide_eq_false c4
  clear c4
  obtain ⟨t461, A8, H⟩ := sqD H
  by_cases c9 : t461 < 0
  ·rw [if_pos c9] at H
   have c9b0 : decide (t461 < 0) = true := decide_eq_true c9
   clear c9
   obtain rfl := Option.some.inj H
   go_enter Tryz.func6, Tryz.ntmps6
   go_wp2_with (first | ((with_reducible refine gate_dst (N := 2) rfl ?_); refine sqBox (N := 2) (cs := #[.int .i64 a0_0, .int .i64 a0_1, .slice A0_2 l0_2.length c0_2]) (t := 26) ?_; intro gb459 hg w10 BK459 hb; have GW459 := Aside0.mk ((sqG hg (sqB HB))); have GE459 := GW459; replace HB := sqS (sqB HB) hb; clear hb hg; obtain ⟨hcz11_0, hcz11_1, hcz11_2, hfz11_0, hfz11_1, hfz11_2⟩ := sqY3 BK459) | ((with_reducible refine gate_callee (f := 12) rfl ?_); refine goesL_ (some 19) rfl rfl Tryz.func12 (by kernel_rfl) rfl #[.agg #[.int .i64 a0_0, .int .i64 a0_1, .slice A0_2 l0_2.length c0_2], .int .i64 1048576] rfl sqA ?_; (with_reducible refine (laws_szDesk.calls a0_0 a0_1 _ _ l0_2 1048576 t460 _ ?side1 ?side2 A3.out).mono ?_); (case side1 => exact Z27); (case side2 => exact Z28); rintro e w12 ⟨rfl, hb⟩; refine ⟨_, rfl, ?_⟩; replace BK459 := sqT BK459 hb; replace HB := sqS (sqB1 HB GE459) hb; (try clear hb)) | ((with_reducible refine gate_callee (f := 32) rfl ?_); refine goesL_ (some 24) rfl rfl Tryz.func32 (by kernel_rfl) rfl #[.slice A1 l1.length c1, .int .i64 t460] rfl sqA ?_; (with_reducible refine (laws_szDeedS.calls k _ _ l1 t460 t461 _ ?side1 ?side2 A8.out).mono ?_); (case side1 => exact Z67 HR1); (case side2 => exact HC1.out); rintro e w13 ⟨rfl, hb⟩; refine ⟨_, rfl, ?_⟩; replace BK459 := sqT BK459 hb; replace HB := sqS (sqB1 HB GE459) hb; (try clear hb)))
   go_ret
   exact ⟨Z4, sqB1 HB GE459⟩
  ·rw [if_neg c9] at H
   have c9b0 : decide (t461 < 0) = false := decide_eq_false c9
   clear c9
   replace H := Option.bind_eq_some_iff.mp H
   obtain ⟨⟨t462, t463, t464⟩, A140, H⟩ := H
   replace H : ((laws_toDeedS.f k l1).bind fun t467 => ((spec_DeskRun.f k t462 t463 t464 t467).bind fun bt470 => ((laws_toDesk.f k a0_0 a0_1 l0_2).bind fun bt477 => ((laws_toDeedS.f k l1).bind fun t483 => ((impl_DeskRun.f k bt477.1 bt477.2.1 bt477.2.2 t483).bind fun bt486 => ((laws_eqDesk.f k bt486.1 bt486.2.1 bt486.2.2.1 bt470.1 bt470.2.1 bt470.2.2.1).bind fun t493 => (if t493 = true then (laws_FnExactDeskRun.j0 k l1 bt470.2.2.2 t483 bt486.2.2.2 (bt486.2.2.2 != bt470.2.2.2) a0_0 a0_1 l0_2 bt470.1 bt470.2.1 bt470.2.2.1 bt477.1 bt477.2.1 bt477.2.2 bt486.1 bt486.2.1 bt486.2.2.1) else (laws_FnExactDeskRun.j0 k l1 bt470.2.2.2 t483 bt486.2.2.2 true a0_0 a0_1 l0_2 bt470.1 bt470.2.1 bt470.2.2.1 bt477.1 bt477.2.1 bt477.2.2 bt486.1 bt486.2.1 bt486.2.2.1)))))))) = some r := H
   have A14 := Aside0.mk A140
   clear A140
   obtain ⟨t467, A15, H⟩ := sqD H
   replace H := Option.bind_eq_some_iff.mp H
   obtain ⟨⟨t470, t471, t472, t475⟩, A160, H⟩ := H
   replace H : ((laws_toDesk.f k a0_0 a0_1 l0_2).bind fun bt477 => ((laws_toDeedS.f k l1).bind fun t483 => ((impl_DeskRun.f k bt477.1 bt477.2.1 bt477.2.2 t483).bind fun bt486 => ((laws_eqDesk.f k bt486.1 bt486.2.1 bt486.2.2.1 t470 t471 t472).bind fun t493 => (if t493 = true then (laws_FnExactDeskRun.j0 k l1 t475 t483 bt486.2.2.2 (bt486.2.2.2 != t475) a0_0 a0_1 l0_2 t470 t471 t472 bt477.1 bt477.2.1 bt477.2.2 bt486.1 bt486.2.1 bt486.2.2.1) else (laws_FnExactDeskRun.j0 k l1 t475 t483 bt486.2.2.2 true a0_0 a0_1 l0_2 t470 t471 t472 bt477.1 bt477.2.1 bt477.2.2 bt486.1 bt486.2.1 bt486.2.2.1)))))) = some r := H
   have A16 := Aside0.mk A160
   clear A160
   replace H := Option.bind_eq_some_iff.mp H
   obtain ⟨⟨t477, t478, t479⟩, A170, H⟩ := H
   replace H : ((laws_toDeedS.f k l1).bind fun t483 => ((impl_DeskRun.f k t477 t478 t479 t483).bind fun bt486 => ((laws_eqDesk.f k bt486.1 bt486.2.1 bt486.2.2.1 t470 t471 t472).bind fun t493 => (if t493 = true then (laws_FnExactDeskRun.j0 k l1 t475 t483 bt486.2.2.2 (bt486.2.2.2 != t475) a0_0 a0_1 l0_2 t470 t471 t472 t477 t478 t479 bt486.1 bt486.2.1 bt486.2.2.1) else (laws_FnExactDeskRun.j0 k l1 t475 t483 bt486.2.2.2 true a0_0 a0_1 l0_2 t470 t471 t472 t477 t478 t479 bt486.1 bt486.2.1 bt486.2.2.1))))) = some r := H
   have A17 := Aside0.mk A170
   clear A170
   obtain ⟨t483, A18, H⟩ := sqD H
   replace H := Option.bind_eq_some_iff.mp H
   obtain ⟨⟨t486, t487, t488, t491⟩, A190, H⟩ := H
   replace H : ((laws_eqDesk.f k t486 t487 t488 t470 t471 t472).bind fun t493 => (if t493 = true then (laws_FnExactDeskRun.j0 k l1 t475 t483 t491 (t491 != t475) a0_0 a0_1 l0_2 t470 t471 t472 t477 t478 t479 t486 t487 t488) else (laws_FnExactDeskRun.j0 k l1 t475 t483 t491 true a0_0 a0_1 l0_2 t470 t471 t472 t477 t478 t479 t486 t487 t488))) = some r := H
   have A19 := Aside0.mk A190
   clear A190
   have HC20 := Aside0.mk H
   clear H
   go_enter Tryz.func6, Tryz.ntmps6
   go_upto_region 12 with (first | ((with_reducible refine gate_dst (N := 2) rfl ?_); refine sqBox (N := 2) (cs := #[.int .i64 a0_0, .int .i64 a0_1, .slice A0_2 l0_2.length c0_2]) (t := 26) ?_; intro gb459 hg w21 BK459 hb; have GW459 := Aside0.mk ((sqG hg (sqB HB))); have GE459 := GW459; replace HB := sqS (sqB HB) hb; clear hb hg; obtain ⟨hcz22_0, hcz22_1, hcz22_2, hfz22_0, hfz22_1, hfz22_2⟩ := sqY3 BK459) | ((with_reducible refine gate_callee (f := 12) rfl ?_); refine goesL_ (some 19) rfl rfl Tryz.func12 (by kernel_rfl) rfl #[.agg #[.int .i64 a0_0, .int .i64 a0_1, .slice A0_2 l0_2.length c0_2], .int .i64 1048576] rfl sqA ?_; (with_reducible refine (laws_szDesk.calls a0_0 a0_1 _ _ l0_2 1048576 t460 _ ?side1 ?side2 A3.out).mono ?_); (case side1 => exact Z27); (case side2 => exact Z28); rintro e w23 ⟨rfl, hb⟩; refine ⟨_, rfl, ?_⟩; replace BK459 := sqT BK459 hb; replace HB := sqS (sqB1 HB GE459) hb; (try clear hb)) | ((with_reducible refine gate_callee (f := 32) rfl ?_); refine goesL_ (some 24) rfl rfl Tryz.func32 (by kernel_rfl) rfl #[.slice A1 l1.length c1, .int .i64 t460] rfl sqA ?_; (with_reducible refine (laws_szDeedS.calls k _ _ l1 t460 t461 _ ?side1 ?side2 A8.out).mono ?_); (case side1 => exact Z67 HR1); (case side2 => exact HC1.out); rintro e w24 ⟨rfl, hb⟩; refine ⟨_, rfl, ?_⟩; replace BK459 := sqT BK459 hb; replace HB := sqS (sqB1 HB GE459) hb; (try clear hb); obtain ⟨hcz25_0, hcz25_1, hcz25_2, hfz25_0, hfz25_1, hfz25_2⟩ := sqY3 BK459) | ((with_reducible refine gate_callee (f := 15) rfl ?_); refine goesL_ (some 29) rfl rfl Tryz.func15 (by kernel_rfl) rfl #[.agg #[.int .i64 a0_0, .int .i64 a0_1, .slice A0_2 l0_2.length c0_2]] rfl sqA ?_; (with_reducible refine (laws_toDesk.calls k a0_0 a0_1 _ _ l0_2 t462 t463 t464 _ ?side1 ?side2 A14.out).mono ?_); (case side1 => exact Z27); (case side2 => exact Z28); rintro e w26 ⟨v465, rfl, ho0, hb⟩; refine ⟨_, rfl, ?_⟩; have HO466 := sqL ho0 (sqB1 HB GE459); replace BK459 := sqT BK459 hb; replace HB := sqS (sqB1 HB GE459) hb; (try clear hb); (try clear ho0)) | ((with_reducible refine gate_callee (f := 33) rfl ?_); refine goesL_ (some 31) rfl rfl Tryz.func33 (by kernel_rfl) rfl #[.slice A1 l1.length c1] rfl sqA ?_; (with_reducible refine (laws_toDeedS.calls k _ _ l1 t467 _ ?side1 ?side2 A15.out).mono ?_); (case side1 => exact Z67 HR1); (case side2 => exact HC1.out); rintro e w27 ⟨v468, rfl, ho0, hb⟩; refine ⟨_, rfl, ?_⟩; replace HO466 := sqU HO466 hb; have HO469 := sqL ho0 (sqB1 HB GE459); replace BK459 := sqT BK459 hb; replace HB := sqS (sqB1 HB GE459) hb; (try clear hb); (try clear ho0); obtain ⟨Ao28, co28, eo28⟩ := Kd.R_slice HO466.out; subst eo28; obtain ⟨Ao29, co29, eo29⟩ := Kd.R_slice HO469.out; subst eo29) | ((with_reducible refine gate_callee (f := 29) rfl ?_); refine goesL_ (some 32) rfl rfl Tryz.func29 (by kernel_rfl) rfl #[.agg #[.int .i64 t462, .int .i64 t463, .slice Ao28 t464.length co28], .slice Ao29 t467.length co29] rfl sqA ?_; (with_reducible refine (spec_DeskRun.calls k t462 t463 _ _ t464 _ _ t467 t470 t471 t472 t475 _ ?side1 ?side2 ?side3 ?side4 A16.out).mono ?_); (case side1 => exact Z61 HO466); (case side2 => exact Z62 HO466); (case side3 => exact Z61 HO469); (case side4 => exact Z62 HO469); rintro e w30 ⟨v473, rfl, ho0, hb⟩; refine ⟨_, rfl, ?_⟩; replace HO469 := sqU HO469 hb; have HO474 := Aside0.mk (Kd.Q_lower (Kd.Q_new' ho0 (Kd.R_lt (sqR HO466))) (below_size (sqB1 HB GE459))); replace HO466 := Aside0.mk (Kd.R_elder' (sqR HO466) (Kd.Q_base ho0) hb); replace BK459 := sqT BK459 hb; replace HB := sqS (sqB1 HB GE459) hb; (try clear hb); (try clear ho0)) | ((with_reducible refine gate_dst (N := 6) rfl ?_); refine sqBox (N := 6) (cs := #[.int .i64 0, .int .i64 0, .slice none 0 0]) (t := 34) ?_; intro gb476 hg w31 BK476 hb; replace HO466 := sqU HO466 hb; replace HO469 := sqU HO469 hb; replace HO474 := Aside0.mk (Kd.Q_below (Z32 HO474) hb); have GW476 := Aside0.mk ((sqG hg (sqB1 HB GE459))); have GE476 := GW476; replace HB := sqS (sqB1 HB GE459) hb; obtain ⟨NB459_476, NB476_459⟩ := sqM hg BK459; replace BK459 := sqT BK459 hb; clear hb hg; have hnb32 := NB476_459.out; have hnc32 := NB459_476.out; obtain ⟨hcz33_0, hcz33_1, hcz33_2, hfz33_0, hfz33_1, hfz33_2⟩ := sqY3 BK476; obtain ⟨Ao34, co34, eo34, _⟩ := Kd.Q_slice HO474.out; subst eo34; obtain ⟨hcz35_0, hcz35_1, hcz35_2, hfz35_0, hfz35_1, hfz35_2⟩ := sqY3 BK459) | ((with_reducible refine gate_callee (f := 15) rfl ?_); refine goesL_ (some 36) rfl rfl Tryz.func15 (by kernel_rfl) rfl #[.agg #[.int .i64 a0_0, .int .i64 a0_1, .slice A0_2 l0_2.length c0_2]] rfl sqA ?_; (with_reducible refine (laws_toDesk.calls k a0_0 a0_1 _ _ l0_2 t477 t478 t479 _ ?side1 ?side2 A17.out).mono ?_); (case side1 => exact Kd.C_below HR0_2.out (sqB2 HB GE459 GE476)); (case side2 => exact Z28); rintro e w36 ⟨v480, rfl, ho0, hb⟩; refine ⟨_, rfl, ?_⟩; replace HO469 := Aside0.mk (Kd.R_below (Z68 HO469 BK476) hb); have HO481 := Aside0.mk (Kd.R_lower (Kd.R_new' (Kd.R_new' ho0 (Kd.R_lt (Z68 HO466 BK476))) (Kd.Q_lt (Z69 HO474 BK476))) (below_size (sqB2 HB GE459 GE476))); replace HO466 := Aside0.mk (Kd.R_elder' (Z68 HO466 BK476) (Kd.R_base ho0) hb); replace HO474 := Aside0.mk (Kd.Q_elder' (Z69 HO474 BK476) (Kd.R_base ho0) hb); replace BK459 := Aside0.mk (blk_below (g := gb459) (o := .cells #[.int .i64 a0_0, .int .i64 a0_1, .slice A0_2 l0_2.length c0_2] 26 (0, 0)) (Z30 NB459_476 BK459) hb); replace BK476 := Aside0.mk (blk_below (g := gb476) (o := .cells #[.int .i64 t470, .int .i64 t471, .slice Ao34 t472.length co34] 34 (0, 0)) (by refine sqPut (cs := #[.int .i64 t470, .int .i64 t471, .slice none 0 0]) ?_ 2; refine sqPut (cs := #[.int .i64 t470, .int .i64 0, .slice none 0 0]) ?_ 1; refine sqPut (cs := #[.int .i64 0, .int .i64 0, .slice none 0 0]) ?_ 0; exact sqK BK476) hb); replace HB := sqS (sqB2 HB GE459 GE476) hb; (try clear hb); (try clear ho0)) | ((with_reducible refine gate_dst (N := 8) rfl ?_); refine sqBox (N := 8) (cs := #[.int .i64 0, .int .i64 0, .slice none 0 0]) (t := 34) ?_; intro gb482 hg w37 BK482 hb; replace HO466 := sqU HO466 hb; replace HO469 := sqU HO469 hb; replace HO474 := Aside0.mk (Kd.Q_below (Z32 HO474) hb); replace HO481 := sqU HO481 hb; have GW482 := Aside0.mk ((sqG hg (sqB2 HB GE459 GE476))); have GE482 := GW482; replace HB := sqS (sqB2 HB GE459 GE476) hb; obtain ⟨NB459_482, NB482_459⟩ := sqM hg BK459; replace BK459 := sqT BK459 hb; obtain ⟨NB476_482, NB482_476⟩ := sqM hg BK476; replace BK476 := sqT BK476 hb; clear hb hg; have hnb38 := NB482_459.out; have hnc38 := NB459_482.out; have hnb39 := NB482_476.out; have hnc39 := NB476_482.out; obtain ⟨hcz40_0, hcz40_1, hcz40_2, hfz40_0, hfz40_1, hfz40_2⟩ := sqY3 BK482; obtain ⟨Ao41, co41, eo41⟩ := Kd.R_slice HO481.out; subst eo41) | ((with_reducible refine gate_callee (f := 33) rfl ?_); refine goesL_ (some 38) rfl rfl Tryz.func33 (by kernel_rfl) rfl #[.slice A1 l1.length c1] rfl sqA ?_; (with_reducible refine (laws_toDeedS.calls k _ _ l1 t483 _ ?side1 ?side2 A18.out).mono ?_); (case side1 => exact Kd.C_below HR1.out (sqB3 HB GE459 GE476 GE482)); (case side2 => exact HC1.out); rintro e w42 ⟨v484, rfl, ho0, hb⟩; refine ⟨_, rfl, ?_⟩; replace HO466 := Aside0.mk (Kd.R_below (Z70 HO466 BK482) hb); replace HO474 := Aside0.mk (Kd.Q_below (by (with_reducible repeat (first | apply Kd.Q_alloc | apply Kd.Q_drewN | apply Kd.Q_drew)); exact (Kd.Q_mono (Kd.Q_far (p := ⟨gb482, 2, none⟩) (Kd.Q_far (p := ⟨gb482, 1, none⟩) (Kd.Q_far (p := ⟨gb482, 0, none⟩) (Kd.Q_types HO474.out BK482.out (by decide)) (fun _ hk => hk.2) (.int .i64 t477)) (fun _ hk => hk.2) (.int .i64 t478)) (fun _ hk => hk.2) (.slice Ao41 t479.length co41)) (fun _ h_ => h_.1))) hb); replace HO481 := Aside0.mk (Kd.R_below (Z70 HO481 BK482) hb); have HO485 := Aside0.mk (Kd.R_lower (Kd.R_new' ho0 (Kd.R_lt (Z70 HO469 BK482))) (below_size (sqB3 HB GE459 GE476 GE482))); replace HO469 := Aside0.mk (Kd.R_elder' (Z70 HO469 BK482) (Kd.R_base ho0) hb); replace BK459 := Aside0.mk (blk_below (g := gb459) (o := .cells #[.int .i64 a0_0, .int .i64 a0_1, .slice A0_2 l0_2.length c0_2] 26 (0, 0)) (Z30 NB459_482 BK459) hb); replace BK476 := Aside0.mk (blk_below (g := gb476) (o := .cells #[.int .i64 t470, .int .i64 t471, .slice Ao34 t472.length co34] 34 (0, 0)) (Z30 NB476_482 BK476) hb); replace BK482 := Aside0.mk (blk_below (g := gb482) (o := .cells #[.int .i64 t477, .int .i64 t478, .slice Ao41 t479.length co41] 34 (0, 0)) (by refine sqPut (cs := #[.int .i64 t477, .int .i64 t478, .slice none 0 0]) ?_ 2; refine sqPut (cs := #[.int .i64 t477, .int .i64 0, .slice none 0 0]) ?_ 1; refine sqPut (cs := #[.int .i64 0, .int .i64 0, .slice none 0 0]) ?_ 0; exact sqK BK482) hb); replace HB := sqS (sqB3 HB GE459 GE476 GE482) hb; (try clear hb); (try clear ho0); obtain ⟨hcz43_0, hcz43_1, hcz43_2, hfz43_0, hfz43_1, hfz43_2⟩ := sqY3 BK482; obtain ⟨Ao44, co44, eo44⟩ := Kd.R_slice HO485.out; subst eo44) | ((with_reducible refine gate_callee (f := 28) rfl ?_); refine goesL_ (some 42) rfl rfl Tryz.func28 (by kernel_rfl) rfl #[.agg #[.int .i64 t477, .int .i64 t478, .slice Ao41 t479.length co41], .slice Ao44 t483.length co44] rfl sqA ?_; (with_reducible refine (impl_DeskRun.calls k t477 t478 _ _ t479 _ _ t483 t486 t487 t488 t491 _ ?sideG ?side1 ?side2 ?side3 ?side4 A19.out).mono ?_); (case sideG => exact Glob.below hG (sqB3 HB GE459 GE476 GE482)); (case side1 => exact Z61 HO481); (case side2 => exact Z62 HO481); (case side3 => exact Z61 HO485); (case side4 => exact Z62 HO485); rintro e w45 ⟨v489, rfl, ho0, hb⟩; refine ⟨_, rfl, ?_⟩; replace HO469 := sqU HO469 hb; replace HO485 := sqU HO485 hb; have HO490 := Aside0.mk (Kd.R_lower (Kd.R_new' (Kd.R_new' (Kd.R_new' ho0 (Kd.R_lt (sqR HO466))) (Kd.Q_lt (Z32 HO474))) (Kd.R_lt (sqR HO481))) (below_size (sqB3 HB GE459 GE476 GE482))); replace HO466 := Aside0.mk (Kd.R_elder' (sqR HO466) (Kd.R_base ho0) hb); replace HO474 := Aside0.mk (Kd.Q_elder' (Z32 HO474) (Kd.R_base ho0) hb); replace HO481 := Aside0.mk (Kd.R_elder' (sqR HO481) (Kd.R_base ho0) hb); replace BK459 := sqT BK459 hb; replace BK476 := sqT BK476 hb; replace BK482 := sqT BK482 hb; replace HB := sqS (sqB3 HB GE459 GE476 GE482) hb; (try clear hb); (try clear ho0)) | ((with_reducible refine gate_dst (N := 10) rfl ?_); refine sqBox (N := 10) (cs := #[.int .i64 0, .int .i64 0, .slice none 0 0]) (t := 34) ?_; intro gb492 hg w46 BK492 hb; replace HO466 := sqU HO466 hb; replace HO469 := sqU HO469 hb; replace HO474 := Aside0.mk (Kd.Q_below (Z32 HO474) hb); replace HO481 := sqU HO481 hb; replace HO485 := sqU HO485 hb; replace HO490 := sqU HO490 hb; have GW492 := Aside0.mk ((sqG hg (sqB3 HB GE459 GE476 GE482))); have GE492 := GW492; replace HB := sqS (sqB3 HB GE459 GE476 GE482) hb; obtain ⟨NB459_492, NB492_459⟩ := sqM hg BK459; replace BK459 := sqT BK459 hb; obtain ⟨NB476_492, NB492_476⟩ := sqM hg BK476; replace BK476 := sqT BK476 hb; obtain ⟨NB482_492, NB492_482⟩ := sqM hg BK482; replace BK482 := sqT BK482 hb; clear hb hg; have hnb47 := NB492_459.out; have hnc47 := NB459_492.out; have hnb48 := NB492_476.out; have hnc48 := NB476_492.out; have hnb49 := NB492_482.out; have hnc49 := NB482_492.out; obtain ⟨hcz50_0, hcz50_1, hcz50_2, hfz50_0, hfz50_1, hfz50_2⟩ := sqY3 BK492; obtain ⟨Ao51, co51, eo51⟩ := Kd.R_slice HO490.out; subst eo51))
   (try simp only [Act.put, List.setIfInBounds_toArray, List.set_cons_zero, List.set_cons_succ])
   go_cut [53] (fun v53 wc => ∃ (kq : Nat) (x53_19 : Bool), v53 = .bool x53_19 ∧ Aside0 (laws_FnExactDeskRun.j0 kq l1 t475 t483 t491 x53_19 a0_0 a0_1 l0_2 t470 t471 t472 t477 t478 t479 t486 t487 t488 = some r) ∧ Aside0 (kq ≤ k) ∧ Aside0 (Kd.R k38 38 wc w.heap.size (fun _ => True) (.slice Ao44 t483.length co44) t483) ∧ Aside0 (Kd.Q k31 31 wc w.heap.size (fun k_ => some k_ ≠ ((.slice Ao41 t479.length co41) : Value).ownBlock ∧ some k_ ≠ ((.slice Ao51 t488.length co51) : Value).ownBlock) (.slice Ao34 t472.length co34) t472) ∧ Aside0 (Kd.R k31 31 wc w.heap.size (fun k_ => some k_ ≠ ((.slice Ao34 t472.length co34) : Value).ownBlock ∧ some k_ ≠ ((.slice Ao51 t488.length co51) : Value).ownBlock) (.slice Ao41 t479.length co41) t479) ∧ Aside0 (Kd.R k31 31 wc w.heap.size (fun k_ => some k_ ≠ ((.slice Ao34 t472.length co34) : Value).ownBlock ∧ some k_ ≠ ((.slice Ao41 t479.length co41) : Value).ownBlock) (.slice Ao51 t488.length co51) t488) ∧ Aside0 (wc.heap[gb459]? = some (.cells #[.int .i64 a0_0, .int .i64 a0_1, (.slice A0_2 l0_2.length c0_2)] 26 (0, 0))) ∧ Aside0 (wc.heap[gb476]? = some (.cells #[.int .i64 t470, .int .i64 t471, (.slice Ao34 t472.length co34)] 34 (0, 0))) ∧ Aside0 (wc.heap[gb482]? = some (.cells #[.int .i64 t477, .int .i64 t478, (.slice Ao41 t479.length co41)] 34 (0, 0))) ∧ Aside0 (wc.heap[gb492]? = some (.cells #[.int .i64 t486, .int .i64 t487, (.slice Ao51 t488.length co51)] 34 (0, 0))) ∧ Aside0 (Below w.heap.size w wc))
   case first =>
    have H := HC20.out
    clear HC20
    obtain ⟨t493, A52, H⟩ := sqD H
    by_cases c53 : t493 = true
    ·subst c53
     have H1 : (laws_FnExactDeskRun.j0 k l1 t475 t483 t491 (t491 != t475) a0_0 a0_1 l0_2 t470 t471 t472 t477 t478 t479 t486 t487 t488) = some r := by rw [if_pos rfl] at H; exact H
     clear H
     have H := H1
     clear H1
     have H' := Aside0.mk H
     clear H
     have hnb54 := NB492_459.out
     have hnc54 := NB459_492.out
     have hnb55 := NB492_476.out
     have hnc55 := NB476_492.out
     have hnb56 := NB492_482.out
     have hnc56 := NB482_492.out
     obtain ⟨hcz57_0, hcz57_1, hcz57_2, hfz57_0, hfz57_1, hfz57_2⟩ := sqY3 BK492
     have hnb58 := NB476_459.out
     have hnc58 := NB459_476.out
     have hnb59 := NB476_482.out
     have hnc59 := NB482_476.out
     obtain ⟨hcz60_0, hcz60_1, hcz60_2, hfz60_0, hfz60_1, hfz60_2⟩ := sqY3 BK476
     go_wp2_with (first | ((with_reducible refine gate_callee (f := 18) rfl ?_); refine goesL_ (some 47) rfl rfl Tryz.func18 (by kernel_rfl) rfl #[.agg #[.int .i64 t486, .int .i64 t487, .slice Ao51 t488.length co51], .agg #[.int .i64 t470, .int .i64 t471, .slice Ao34 t472.length co34]] rfl sqA ?_; (with_reducible refine (laws_eqDesk.calls k t486 t487 _ _ t488 t470 t471 _ _ t472 true _ ?side1 ?side2 ?side3 ?side4 A52.out).mono ?_); (case side1 => exact Z91 HO490 BK492); (case side2 => exact Z62 HO490); (case side3 => exact Z92 HO474 BK492); (case side4 => exact Z40 HO474); rintro e w61 ⟨rfl, hb⟩; refine ⟨_, rfl, ?_⟩; replace HO466 := Aside0.mk (Kd.R_below (Z71 HO466 BK492) hb); replace HO469 := Aside0.mk (Kd.R_below (Z71 HO469 BK492) hb); replace HO474 := Aside0.mk (Kd.Q_below (Z72 HO474 BK492) hb); replace HO481 := Aside0.mk (Kd.R_below (Z71 HO481 BK492) hb); replace HO485 := Aside0.mk (Kd.R_below (Z71 HO485 BK492) hb); replace HO490 := Aside0.mk (Kd.R_below (Z71 HO490 BK492) hb); replace BK459 := Aside0.mk (blk_below (g := gb459) (o := .cells #[.int .i64 a0_0, .int .i64 a0_1, .slice A0_2 l0_2.length c0_2] 26 (0, 0)) (Z30 NB459_492 BK459) hb); replace BK476 := Aside0.mk (blk_below (g := gb476) (o := .cells #[.int .i64 t470, .int .i64 t471, .slice Ao34 t472.length co34] 34 (0, 0)) (Z30 NB476_492 BK476) hb); replace BK482 := Aside0.mk (blk_below (g := gb482) (o := .cells #[.int .i64 t477, .int .i64 t478, .slice Ao41 t479.length co41] 34 (0, 0)) (Z30 NB482_492 BK482) hb); replace BK492 := Aside0.mk (blk_below (g := gb492) (o := .cells #[.int .i64 t486, .int .i64 t487, .slice Ao51 t488.length co51] 34 (0, 0)) (Z73 BK492) hb); replace HB := sqS (sqB4 HB GE459 GE476 GE482 GE492) hb; (try clear hb)))
     go_meet
     case rel => exact ⟨_, ((t491 != t475)), Z2, H', ⟨Z3⟩, ⟨Z74 HO485⟩, ⟨Z75 HO474⟩, ⟨Z76 HO481⟩, ⟨Z76 HO490⟩, ⟨sqK BK459⟩, ⟨sqK BK476⟩, ⟨sqK BK482⟩, ⟨sqK BK492⟩, ⟨sqB4 HB GE459 GE476 GE482 GE492⟩⟩
    ·replace c53 := Bool.eq_false_iff.mpr c53
     subst c53
     have H1 : (laws_FnExactDeskRun.j0 k l1 t475 t483 t491 true a0_0 a0_1 l0_2 t470 t471 t472 t477 t478 t479 t486 t487 t488) = some r := by rw [if_neg (show ¬ (false = true) by decide)] at H; exact H
     clear H
     have H := H1
     clear H1
     have H' := Aside0.mk H
     clear H
     have hnb62 := NB492_459.out
     have hnc62 := NB459_492.out
     have hnb63 := NB492_476.out
     have hnc63 := NB476_492.out
     have hnb64 := NB492_482.out
     have hnc64 := NB482_492.out
     obtain ⟨hcz65_0, hcz65_1, hcz65_2, hfz65_0, hfz65_1, hfz65_2⟩ := sqY3 BK492
     have hnb66 := NB476_459.out
     have hnc66 := NB459_476.out
     have hnb67 := NB476_482.out
     have hnc67 := NB482_476.out
     obtain ⟨hcz68_0, hcz68_1, hcz68_2, hfz68_0, hfz68_1, hfz68_2⟩ := sqY3 BK476
     go_wp2_with (first | ((with_reducible refine gate_callee (f := 18) rfl ?_); refine goesL_ (some 47) rfl rfl Tryz.func18 (by kernel_rfl) rfl #[.agg #[.int .i64 t486, .int .i64 t487, .slice Ao51 t488.length co51], .agg #[.int .i64 t470, .int .i64 t471, .slice Ao34 t472.length co34]] rfl sqA ?_; (with_reducible refine (laws_eqDesk.calls k t486 t487 _ _ t488 t470 t471 _ _ t472 false _ ?side1 ?side2 ?side3 ?side4 A52.out).mono ?_); (case side1 => exact Z91 HO490 BK492); (case side2 => exact Z62 HO490); (case side3 => exact Z92 HO474 BK492); (case side4 => exact Z40 HO474); rintro e w69 ⟨rfl, hb⟩; refine ⟨_, rfl, ?_⟩; replace HO466 := Aside0.mk (Kd.R_below (Z71 HO466 BK492) hb); replace HO469 := Aside0.mk (Kd.R_below (Z71 HO469 BK492) hb); replace HO474 := Aside0.mk (Kd.Q_below (Z72 HO474 BK492) hb); replace HO481 := Aside0.mk (Kd.R_below (Z71 HO481 BK492) hb); replace HO485 := Aside0.mk (Kd.R_below (Z71 HO485 BK492) hb); replace HO490 := Aside0.mk (Kd.R_below (Z71 HO490 BK492) hb); replace BK459 := Aside0.mk (blk_below (g := gb459) (o := .cells #[.int .i64 a0_0, .int .i64 a0_1, .slice A0_2 l0_2.length c0_2] 26 (0, 0)) (Z30 NB459_492 BK459) hb); replace BK476 := Aside0.mk (blk_below (g := gb476) (o := .cells #[.int .i64 t470, .int .i64 t471, .slice Ao34 t472.length co34] 34 (0, 0)) (Z30 NB476_492 BK476) hb); replace BK482 := Aside0.mk (blk_below (g := gb482) (o := .cells #[.int .i64 t477, .int .i64 t478, .slice Ao41 t479.length co41] 34 (0, 0)) (Z30 NB482_492 BK482) hb); replace BK492 := Aside0.mk (blk_below (g := gb492) (o := .cells #[.int .i64 t486, .int .i64 t487, .slice Ao51 t488.length co51] 34 (0, 0)) (Z73 BK492) hb); replace HB := sqS (sqB4 HB GE459 GE476 GE482 GE492) hb; (try clear hb)))
     go_meet
     case rel => exact ⟨_, (true), Z2, H', ⟨Z3⟩, ⟨Z74 HO485⟩, ⟨Z75 HO474⟩, ⟨Z76 HO481⟩, ⟨Z76 HO490⟩, ⟨sqK BK459⟩, ⟨sqK BK476⟩, ⟨sqK BK482⟩, ⟨sqK BK492⟩, ⟨sqB4 HB GE459 GE476 GE482 GE492⟩⟩
   case rest =>
    clear HC20
    try clear c1; try clear c2; try clear p2; try clear c3; try clear c4; try clear c4b0; try clear c5; try clear c6; try clear c9; try clear c9b0; try clear c12; try clear c15; try clear c18; try clear c28; try clear c29; try clear c32; try clear c33; try clear c38; try clear c39; try clear c47; try clear c48; try clear c49; try clear c53; try clear c54; try clear c55; try clear c56; try clear c58; try clear c59; try clear c62; try clear c63; try clear c64; try clear c66; try clear c67; try clear hcz11_0; try clear hcz11_1; try clear hcz11_2; try clear hcz22_0; try clear hcz22_1; try clear hcz22_2; try clear hcz25_0; try clear hcz25_1; try clear hcz25_2; try clear hcz33_0; try clear hcz33_1; try clear hcz33_2; try clear hcz35_0; try clear hcz35_1; try clear hcz35_2; try clear hcz40_0; try clear hcz40_1; try clear hcz40_2; try clear hcz43_0; try clear hcz43_1; try clear hcz43_2; try clear hcz50_0; try clear hcz50_1; try clear hcz50_2; try clear hcz57_0; try clear hcz57_1; try clear hcz57_2; try clear hcz60_0; try clear hcz60_1; try clear hcz60_2; try clear hcz65_0; try clear hcz65_1; try clear hcz65_2; try clear hcz68_0; try clear hcz68_1; try clear hcz68_2; try clear hcz6_0; try clear hcz6_1; try clear hcz6_2; try clear hfz11_0; try clear hfz11_1; try clear hfz11_2; try clear hfz22_0; try clear hfz22_1; try clear hfz22_2; try clear hfz25_0; try clear hfz25_1; try clear hfz25_2; try clear hfz33_0; try clear hfz33_1; try clear hfz33_2; try clear hfz35_0; try clear hfz35_1; try clear hfz35_2; try clear hfz40_0; try clear hfz40_1; try clear hfz40_2; try clear hfz43_0; try clear hfz43_1; try clear hfz43_2; try clear hfz50_0; try clear hfz50_1; try clear hfz50_2; try clear hfz57_0; try clear hfz57_1; try clear hfz57_2; try clear hfz60_0; try clear hfz60_1; try clear hfz60_2; try clear hfz65_0; try clear hfz65_1; try clear hfz65_2; try clear hfz68_0; try clear hfz68_1; try clear hfz68_2; try clear hfz6_0; try clear hfz6_1; try clear hfz6_2
    obtain ⟨kq, x53_19, rfl, HA, HJ19, HO_9, HO_477002, HO_483002, HO_493002, BK459, BK476, BK482, BK492, HB⟩ := hcut
    cases kq with
    | zero => exact absurd HA.out (by simp [laws_FnExactDeskRun.j0])
    | succ kj19 =>
     have H := HA.out
     clear HA
     simp only [laws_FnExactDeskRun.j0] at H
     by_cases c70 : x53_19 = true
     ·subst c70
      have H1 : (some false) = some r := by rw [if_pos rfl] at H; exact H
      clear H
      have H := H1
      clear H1
      obtain rfl := Option.some.inj H
      go_wp2
      go_ret
      exact ⟨Z4, sqB4 HB GE459 GE476 GE482 GE492⟩
     ·replace c70 := Bool.eq_false_iff.mpr c70
      subst c70
      have H1 : ((laws_toDesk.f kj19 a0_0 a0_1 l0_2).bind fun bt494 => ((laws_eqDesk.f kj19 t477 t478 t479 bt494.1 bt494.2.1 bt494.2.2).bind fun t499 => (if t499 = true then ((laws_toDeedS.f kj19 l1).bind fun t500 => ((laws_eqDeedS.f kj19 t483 t500).bind fun t503 => (if t503 = true then ((laws_markDesk.f kj19 t477 t478 t479 1).bind fun bt504 => ((laws_markDeedS.f kj19 t483 bt504.1).bind fun bt506 => (if bt506.1 < 0 then (laws_FnExactDeskRun.j1 kj19 l1 t475 true a0_0 a0_1 l0_2 t470 t471 t472 t486 t487 t488) else ((laws_eqDesk.f kj19 t486 t487 t488 t470 t471 t472).bind fun t508 => (if t508 = true then (laws_FnExactDeskRun.j1 kj19 l1 t475 (t491 != t475) a0_0 a0_1 l0_2 t470 t471 t472 t486 t487 t488) else (laws_FnExactDeskRun.j1 kj19 l1 t475 true a0_0 a0_1 l0_2 t470 t471 t472 t486 t487 t488)))))) else (some false)))) else (some false)))) = some r := by rw [if_neg (show ¬ (false = true) by decide)] at H; exact H
      clear H
      have H := H1
      clear H1
      replace H := Option.bind_eq_some_iff.mp H
      obtain ⟨⟨t494, t495, t496⟩, A710, H⟩ := H
      replace H : ((laws_eqDesk.f kj19 t477 t478 t479 t494 t495 t496).bind fun t499 => (if t499 = true then ((laws_toDeedS.f kj19 l1).bind fun t500 => ((laws_eqDeedS.f kj19 t483 t500).bind fun t503 => (if t503 = true then ((laws_markDesk.f kj19 t477 t478 t479 1).bind fun bt504 => ((laws_markDeedS.f kj19 t483 bt504.1).bind fun bt506 => (if bt506.1 < 0 then (laws_FnExactDeskRun.j1 kj19 l1 t475 true a0_0 a0_1 l0_2 t470 t471 t472 t486 t487 t488) else ((laws_eqDesk.f kj19 t486 t487 t488 t470 t471 t472).bind fun t508 => (if t508 = true then (laws_FnExactDeskRun.j1 kj19 l1 t475 (t491 != t475) a0_0 a0_1 l0_2 t470 t471 t472 t486 t487 t488) else (laws_FnExactDeskRun.j1 kj19 l1 t475 true a0_0 a0_1 l0_2 t470 t471 t472 t486 t487 t488)))))) else (some false)))) else (some false))) = some r := H
      have A71 := Aside0.mk A710
      clear A710
      obtain ⟨t499, A72, H⟩ := sqD H
      by_cases c73 : t499 = true
      ·subst c73
       have H1 : ((laws_toDeedS.f kj19 l1).bind fun t500 => ((laws_eqDeedS.f kj19 t483 t500).bind fun t503 => (if t503 = true then ((laws_markDesk.f kj19 t477 t478 t479 1).bind fun bt504 => ((laws_markDeedS.f kj19 t483 bt504.1).bind fun bt506 => (if bt506.1 < 0 then (laws_FnExactDeskRun.j1 kj19 l1 t475 true a0_0 a0_1 l0_2 t470 t471 t472 t486 t487 t488) else ((laws_eqDesk.f kj19 t486 t487 t488 t470 t471 t472).bind fun t508 => (if t508 = true then (laws_FnExactDeskRun.j1 kj19 l1 t475 (t491 != t475) a0_0 a0_1 l0_2 t470 t471 t472 t486 t487 t488) else (laws_FnExactDeskRun.j1 kj19 l1 t475 true a0_0 a0_1 l0_2 t470 t471 t472 t486 t487 t488)))))) else (some false)))) = some r := by rw [if_pos rfl] at H; exact H
       clear H
       have H := H1
       clear H1
       obtain ⟨t500, A74, H⟩ := sqD H
       obtain ⟨t503, A75, H⟩ := sqD H
       by_cases c76 : t503 = true
       ·subst c76
        have H1 : ((laws_markDesk.f kj19 t477 t478 t479 1).bind fun bt504 => ((laws_markDeedS.f kj19 t483 bt504.1).bind fun bt506 => (if bt506.1 < 0 then (laws_FnExactDeskRun.j1 kj19 l1 t475 true a0_0 a0_1 l0_2 t470 t471 t472 t486 t487 t488) else ((laws_eqDesk.f kj19 t486 t487 t488 t470 t471 t472).bind fun t508 => (if t508 = true then (laws_FnExactDeskRun.j1 kj19 l1 t475 (t491 != t475) a0_0 a0_1 l0_2 t470 t471 t472 t486 t487 t488) else (laws_FnExactDeskRun.j1 kj19 l1 t475 true a0_0 a0_1 l0_2 t470 t471 t472 t486 t487 t488)))))) = some r := by rw [if_pos rfl] at H; exact H
        clear H
        have H := H1
        clear H1
        replace H := Option.bind_eq_some_iff.mp H
        obtain ⟨⟨t504, t505⟩, A770, H⟩ := H
        replace H : ((laws_markDeedS.f kj19 t483 t504).bind fun bt506 => (if bt506.1 < 0 then (laws_FnExactDeskRun.j1 kj19 l1 t475 true a0_0 a0_1 l0_2 t470 t471 t472 t486 t487 t488) else ((laws_eqDesk.f kj19 t486 t487 t488 t470 t471 t472).bind fun t508 => (if t508 = true then (laws_FnExactDeskRun.j1 kj19 l1 t475 (t491 != t475) a0_0 a0_1 l0_2 t470 t471 t472 t486 t487 t488) else (laws_FnExactDeskRun.j1 kj19 l1 t475 true a0_0 a0_1 l0_2 t470 t471 t472 t486 t487 t488))))) = some r := H
        have A77 := Aside0.mk A770
        clear A770
        replace H := Option.bind_eq_some_iff.mp H
        obtain ⟨⟨t506, t507⟩, A780, H⟩ := H
        replace H : (if t506 < 0 then (laws_FnExactDeskRun.j1 kj19 l1 t475 true a0_0 a0_1 l0_2 t470 t471 t472 t486 t487 t488) else ((laws_eqDesk.f kj19 t486 t487 t488 t470 t471 t472).bind fun t508 => (if t508 = true then (laws_FnExactDeskRun.j1 kj19 l1 t475 (t491 != t475) a0_0 a0_1 l0_2 t470 t471 t472 t486 t487 t488) else (laws_FnExactDeskRun.j1 kj19 l1 t475 true a0_0 a0_1 l0_2 t470 t471 t472 t486 t487 t488)))) = some r := H
        have A78 := Aside0.mk A780
        clear A780
        have HC79 := Aside0.mk H
        clear H
        try go_wp2
        replace HO_9 := Aside0.mk (Kd.R_drew HO_9.out)
        replace HO_477002 := Aside0.mk (Kd.Q_drew HO_477002.out)
        replace HO_483002 := Aside0.mk (Kd.R_drew HO_483002.out)
        replace HO_493002 := Aside0.mk (Kd.R_drew HO_493002.out)
        replace BK459 := Aside0.mk (blk_drew BK459.out)
        replace BK476 := Aside0.mk (blk_drew BK476.out)
        replace BK482 := Aside0.mk (blk_drew BK482.out)
        replace BK492 := Aside0.mk (blk_drew BK492.out)
        replace HB := Aside0.mk (below_drew1 HB.out)
        refine start_ (n := 5) (S := fun w' => w'.cell? ⟨gb482, 0, none⟩ = some (.int .i64 t477) ∧ w'.cell? ⟨gb482, 1, none⟩ = some (.int .i64 t478) ∧ w'.cell? ⟨gb482, 2, none⟩ = some (.slice Ao41 t479.length co41) ∧ w'.cell? ⟨gb459, 0, none⟩ = some (.int .i64 a0_0) ∧ w'.cell? ⟨gb459, 1, none⟩ = some (.int .i64 a0_1) ∧ w'.cell? ⟨gb459, 2, none⟩ = some (.slice A0_2 l0_2.length c0_2)) (ds := []) #[false, false, false, false, false] (by kernel_rfl) rfl rfl ⟨(blk_cell BK482.out 0).trans rfl, (blk_cell BK482.out 1).trans rfl, (blk_cell BK482.out 2).trans rfl, (blk_cell BK459.out 0).trans rfl, (blk_cell BK459.out 1).trans rfl, (blk_cell BK459.out 2).trans rfl⟩ (fun hHeld => ?_)
        generalize wc.drew = w80 at HO_9 HO_477002 HO_483002 HO_493002 BK459 BK476 BK482 BK492 HB hHeld ⊢
        refine take_ (i := 0) (N := some 54) (v := ?_) (a' := ?_) #[true, false, false, false, false] rfl rfl (by kernel_rfl) (fun _ _ _ h => h) (Or.inl ⟨by rfl, ?_⟩) hHeld ?_ ?_
        rotate_left
        ·rintro w' ⟨s0, s1, s2, s3, s4, s5⟩
         go_simp
         with_reducible rfl
        rotate_left
        ·simp only [Act.put, List.setIfInBounds_toArray, List.set_cons_zero, List.set_cons_succ, i64_w, i32_w]
         rfl
        refine take_ (i := 1) (N := some 55) (v := ?_) (a' := ?_) #[true, true, false, false, false] rfl rfl (by kernel_rfl) (fun _ _ _ h => h) (Or.inl ⟨by rfl, ?_⟩) hHeld ?_ ?_
        rotate_left
        ·rintro w' ⟨s0, s1, s2, s3, s4, s5⟩
         go_simp
         with_reducible rfl
        rotate_left
        ·simp only [Act.put, List.setIfInBounds_toArray, List.set_cons_zero, List.set_cons_succ, i64_w, i32_w]
         rfl
        refine one_ (i := 2) (N := some 56) #[true, true, true, false, false] rfl rfl (by kernel_rfl) (by decide) (fun K hK => ?_)
        refine goes_ Tryz.func15 (by kernel_rfl) rfl #[.agg #[.int .i64 a0_0, .int .i64 a0_1, .slice A0_2 l0_2.length c0_2]] (by rfl) rfl rfl sqA ?_
        with_reducible refine (laws_toDesk.calls kj19 a0_0 a0_1 _ _ l0_2 t494 t495 t496 _ ?side1 ?side2 A71.out).mono ?_
        (case side1 => exact Z27)
        (case side2 => exact Z28)
        rintro e w81 ⟨v497, rfl, ho0, hb⟩
        refine ⟨_, rfl, ?_⟩
        replace HO_9 := sqU HO_9 hb
        have HO498 := Aside0.mk (Kd.R_lower (Kd.R_new' (Kd.R_new' (Kd.R_new' ho0 (Kd.Q_lt (Z32 HO_477002))) (Kd.R_lt (sqR HO_483002))) (Kd.R_lt (sqR HO_493002))) (below_size (sqB4 HB GE459 GE476 GE482 GE492)))
        replace HO_477002 := Aside0.mk (Kd.Q_elder' (Z32 HO_477002) (Kd.R_base ho0) hb)
        replace HO_483002 := Aside0.mk (Kd.R_elder' (sqR HO_483002) (Kd.R_base ho0) hb)
        replace HO_493002 := Aside0.mk (Kd.R_elder' (sqR HO_493002) (Kd.R_base ho0) hb)
        replace BK459 := sqT BK459 hb
        replace BK476 := sqT BK476 hb
        replace BK482 := sqT BK482 hb
        replace BK492 := sqT BK492 hb
        replace HB := sqS (sqB4 HB GE459 GE476 GE482 GE492) hb
        (try clear hb)
        (try clear hb2)
        (try clear hk)
        (try clear hi)
        (try clear ho0)
        obtain ⟨Ao82, co82, eo82⟩ := Kd.R_slice HO498.out
        (first | subst eo82 | (injection eo82 with f1_ f2_ f3_; have f4_ := f1_.symm; have f5_ := f3_.symm; clear f1_ f2_ f3_; subst f4_; subst f5_))
        refine hK.out _ _ ⟨(blk_cell BK482.out 0).trans rfl, (blk_cell BK482.out 1).trans rfl, (blk_cell BK482.out 2).trans rfl, (blk_cell BK459.out 0).trans rfl, (blk_cell BK459.out 1).trans rfl, (blk_cell BK459.out 2).trans rfl⟩ (fun hHeld => ?_)
        clear hK K
        refine sqN (some 56) ?_
        refine one_ (i := 3) (N := some 57) #[true, true, true, true, false] rfl rfl (by kernel_rfl) (by decide) (fun K hK => ?_)
        refine goes_ Tryz.func18 (by kernel_rfl) rfl #[.agg #[.int .i64 t477, .int .i64 t478, .slice Ao41 t479.length co41], .agg #[.int .i64 t494, .int .i64 t495, .slice Ao82 t496.length co82]] (by rfl) rfl rfl sqA ?_
        with_reducible refine (laws_eqDesk.calls kj19 t477 t478 _ _ t479 t494 t495 _ _ t496 true _ ?side1 ?side2 ?side3 ?side4 A72.out).mono ?_
        (case side1 => exact Z61 HO_483002)
        (case side2 => exact Z62 HO_483002)
        (case side3 => exact Z61 HO498)
        (case side4 => exact Z62 HO498)
        rintro e w83 ⟨rfl, hb⟩
        refine ⟨_, rfl, ?_⟩
        replace HO_9 := sqU HO_9 hb
        replace HO_477002 := Aside0.mk (Kd.Q_below (Z32 HO_477002) hb)
        replace HO_483002 := sqU HO_483002 hb
        replace HO_493002 := sqU HO_493002 hb
        replace HO498 := sqU HO498 hb
        replace BK459 := sqT BK459 hb
        replace BK476 := sqT BK476 hb
        replace BK482 := sqT BK482 hb
        replace BK492 := sqT BK492 hb
        replace HB := sqS (sqB4 HB GE459 GE476 GE482 GE492) hb
        (try clear hb)
        (try clear hb2)
        (try clear hk)
        (try clear hi)
        refine hK.out _ _ ⟨(blk_cell BK482.out 0).trans rfl, (blk_cell BK482.out 1).trans rfl, (blk_cell BK482.out 2).trans rfl, (blk_cell BK459.out 0).trans rfl, (blk_cell BK459.out 1).trans rfl, (blk_cell BK459.out 2).trans rfl⟩ (fun hHeld => ?_)
        clear hK K
        refine sqN (some 57) ?_
        refine pure_ (i := 4) (N := some 58) (v := ?_) (a' := ?_) #[true, true, true, true, true] rfl rfl (by kernel_rfl) (fun _ _ _ h => h) (Or.inl ⟨by rfl, ?_⟩) ?_ ?_
        rotate_left
        ·intro w'
         go_simp
         with_reducible rfl
        rotate_left
        ·simp only [Act.put, List.setIfInBounds_toArray, List.set_cons_zero, List.set_cons_succ, i64_w, i32_w]
         rfl
        refine done_ (by kernel_rfl) ?_
        go_upto_region 21 with (first | ((with_reducible refine gate_callee (f := 33) rfl ?_); refine goesL_ (some 61) rfl rfl Tryz.func33 (by kernel_rfl) rfl #[.slice A1 l1.length c1] rfl sqA ?_; (with_reducible refine (laws_toDeedS.calls kj19 _ _ l1 t500 _ ?side1 ?side2 A74.out).mono ?_); (case side1 => exact Z67 HR1); (case side2 => exact HC1.out); rintro e w84 ⟨v501, rfl, ho0, hb⟩; refine ⟨_, rfl, ?_⟩; replace HO_477002 := Aside0.mk (Kd.Q_below (Z32 HO_477002) hb); replace HO_483002 := sqU HO_483002 hb; replace HO_493002 := sqU HO_493002 hb; replace HO498 := sqU HO498 hb; have HO502 := Aside0.mk (Kd.R_lower (Kd.R_new' ho0 (Kd.R_lt (sqR HO_9))) (below_size (sqB4 HB GE459 GE476 GE482 GE492))); replace HO_9 := Aside0.mk (Kd.R_elder' (sqR HO_9) (Kd.R_base ho0) hb); replace BK459 := sqT BK459 hb; replace BK476 := sqT BK476 hb; replace BK482 := sqT BK482 hb; replace BK492 := sqT BK492 hb; replace HB := sqS (sqB4 HB GE459 GE476 GE482 GE492) hb; (try clear hb); (try clear ho0); obtain ⟨Ao85, co85, eo85⟩ := Kd.R_slice HO502.out; subst eo85) | ((with_reducible refine gate_callee (f := 34) rfl ?_); refine goesL_ (some 62) rfl rfl Tryz.func34 (by kernel_rfl) rfl #[.slice Ao44 t483.length co44, .slice Ao85 t500.length co85] rfl sqA ?_; (with_reducible refine (laws_eqDeedS.calls kj19 _ _ t483 _ _ t500 true _ ?side1 ?side2 ?side3 ?side4 A75.out).mono ?_); (case side1 => exact Z61 HO_9); (case side2 => exact Z62 HO_9); (case side3 => exact Z61 HO502); (case side4 => exact Z62 HO502); rintro e w86 ⟨rfl, hb⟩; refine ⟨_, rfl, ?_⟩; replace HO_9 := sqU HO_9 hb; replace HO_477002 := Aside0.mk (Kd.Q_below (Z32 HO_477002) hb); replace HO_483002 := sqU HO_483002 hb; replace HO_493002 := sqU HO_493002 hb; replace HO498 := sqU HO498 hb; replace HO502 := sqU HO502 hb; replace BK459 := sqT BK459 hb; replace BK476 := sqT BK476 hb; replace BK482 := sqT BK482 hb; replace BK492 := sqT BK492 hb; replace HB := sqS (sqB4 HB GE459 GE476 GE482 GE492) hb; (try clear hb); have hnb87 := NB482_459.out; have hnc87 := NB459_482.out; have hnb88 := NB482_476.out; have hnc88 := NB476_482.out; have hnb89 := NB482_492.out; have hnc89 := NB492_482.out; obtain ⟨hcz90_0, hcz90_1, hcz90_2, hfz90_0, hfz90_1, hfz90_2⟩ := sqY3 BK482) | ((with_reducible refine gate_callee (f := 19) rfl ?_); refine goesL_ (some 66) rfl rfl Tryz.func19 (by kernel_rfl) rfl #[.agg #[.int .i64 t477, .int .i64 t478, .slice Ao41 t479.length co41], .int .i64 1] rfl sqA ?_; (with_reducible refine (laws_markDesk.calls kj19 t477 t478 (fun k_ => some k_ = (.slice Ao41 t479.length co41 : Value).ownBlock) (.slice Ao41 t479.length co41) t479 1 t504 t505 w _ ?side1 ?side2 A77.out).mono ?_); (case side1 => exact Z77 GE459 GE476 GE482 GE492); (case side2 => exact Kd.R_tight rfl HO_483002.out); rintro e w91 ⟨rfl, hy0, hb, hkp⟩; refine ⟨_, rfl, ?_⟩; replace HO_9 := Aside0.mk (Kd.R_mono (ok' := fun k_ => some k_ ≠ (.slice Ao85 t500.length co85 : Value).ownBlock) (Kd.R_keptB ((Kd.R_apart' HO_9.out (Kd.R_typed HO_483002.out) (by decide))) hkp (fun k_ hk_ hs_ => (hk_.2) hs_)) (fun k_ hk_ => hk_.1.1.2)); replace HO_477002 := Aside0.mk (Kd.Q_mono (ok' := fun k_ => some k_ ≠ (.slice Ao41 t479.length co41 : Value).ownBlock ∧ some k_ ≠ (.slice Ao51 t488.length co51 : Value).ownBlock ∧ some k_ ≠ (.slice Ao82 t496.length co82 : Value).ownBlock) (Kd.Q_keptB (HO_477002.out) hkp (fun k_ hk_ hs_ => (hk_.1.1) hs_)) (fun k_ hk_ => ⟨hk_.1.1.1, hk_.1.1.2, hk_.1.2⟩)); replace HO_493002 := Aside0.mk (Kd.R_mono (ok' := fun k_ => some k_ ≠ (.slice Ao34 t472.length co34 : Value).ownBlock ∧ some k_ ≠ (.slice Ao41 t479.length co41 : Value).ownBlock ∧ some k_ ≠ (.slice Ao82 t496.length co82 : Value).ownBlock) (Kd.R_keptB (HO_493002.out) hkp (fun k_ hk_ hs_ => (hk_.1.2) hs_)) (fun k_ hk_ => ⟨hk_.1.1.1, hk_.1.1.2, hk_.1.2⟩)); replace BK459 := Aside0.mk (blk_kept (sqK BK459) hkp (fun hs_ => (fun e_ => (Kd.R_ne HO_483002.out BK459.out (by decide)) e_) hs_)); replace BK476 := Aside0.mk (blk_kept (sqK BK476) hkp (fun hs_ => (fun e_ => (Kd.R_ne HO_483002.out BK476.out (by decide)) e_) hs_)); replace BK482 := Aside0.mk (blk_kept (sqK BK482) hkp (fun hs_ => (fun e_ => (Kd.R_ne HO_483002.out BK482.out (by decide)) e_) hs_)); replace BK492 := Aside0.mk (blk_kept (sqK BK492) hkp (fun hs_ => (fun e_ => (Kd.R_ne HO_483002.out BK492.out (by decide)) e_) hs_)); replace HO498 := Aside0.mk (Kd.R_mono (ok' := fun k_ => some k_ ≠ (.slice Ao34 t472.length co34 : Value).ownBlock ∧ some k_ ≠ (.slice Ao41 t479.length co41 : Value).ownBlock ∧ some k_ ≠ (.slice Ao51 t488.length co51 : Value).ownBlock) (Kd.R_keptB (HO498.out) hkp (fun k_ hk_ hs_ => (hk_.1.2) hs_)) (fun k_ hk_ => ⟨hk_.1.1.1.2, hk_.1.1.2, hk_.1.2⟩)); replace HO502 := Aside0.mk (Kd.R_mono (ok' := fun k_ => some k_ ≠ (.slice Ao44 t483.length co44 : Value).ownBlock) (Kd.R_keptB ((Kd.R_apart' HO502.out (Kd.R_typed HO_483002.out) (by decide))) hkp (fun k_ hk_ hs_ => (hk_.2) hs_)) (fun k_ hk_ => hk_.1.1.2)); replace HO_483002 := Aside0.mk (Kd.R_reok rfl hy0 (fun k_ e_ => HO_483002.out.1 k_ e_)); replace HB := Aside0.mk (hb); (try clear hb); (try clear hkp); (try clear hy0)) | ((with_reducible refine gate_callee (f := 35) rfl ?_); refine goesL_ (some 69) rfl rfl Tryz.func35 (by kernel_rfl) rfl #[.slice Ao44 t483.length co44, .int .i64 t504] rfl sqA ?_; (with_reducible refine (laws_markDeedS.calls kj19 (fun k_ => some k_ = (.slice Ao44 t483.length co44 : Value).ownBlock) (.slice Ao44 t483.length co44) t483 t504 t506 t507 w _ ?side1 ?side2 A78.out).mono ?_); (case side1 => exact Z77 GE459 GE476 GE482 GE492); (case side2 => exact Kd.R_tight rfl HO_9.out); rintro e w92 ⟨rfl, hy0, hb, hkp⟩; refine ⟨_, rfl, ?_⟩; replace HO_477002 := Aside0.mk (Kd.Q_mono (ok' := fun k_ => some k_ ≠ (.slice Ao41 t479.length co41 : Value).ownBlock ∧ some k_ ≠ (.slice Ao51 t488.length co51 : Value).ownBlock ∧ some k_ ≠ (.slice Ao82 t496.length co82 : Value).ownBlock) (Kd.Q_keptB ((Kd.Q_apart' HO_477002.out (Kd.R_typed HO_9.out) (by decide))) hkp (fun k_ hk_ hs_ => (hk_.2) hs_)) (fun k_ hk_ => ⟨hk_.1.1.1, hk_.1.1.2.1, hk_.1.1.2.2⟩)); replace HO_483002 := Aside0.mk (Kd.R_mono (ok' := fun k_ => some k_ ≠ (.slice Ao34 t472.length co34 : Value).ownBlock ∧ some k_ ≠ (.slice Ao51 t488.length co51 : Value).ownBlock ∧ some k_ ≠ (.slice Ao82 t496.length co82 : Value).ownBlock) (Kd.R_keptB ((Kd.R_apart' HO_483002.out (Kd.R_typed HO_9.out) (by decide))) hkp (fun k_ hk_ hs_ => (hk_.2) hs_)) (fun k_ hk_ => ⟨hk_.1.1.1.1, hk_.1.1.1.2, hk_.1.1.2⟩)); replace HO_493002 := Aside0.mk (Kd.R_mono (ok' := fun k_ => some k_ ≠ (.slice Ao34 t472.length co34 : Value).ownBlock ∧ some k_ ≠ (.slice Ao41 t479.length co41 : Value).ownBlock ∧ some k_ ≠ (.slice Ao82 t496.length co82 : Value).ownBlock) (Kd.R_keptB ((Kd.R_apart' HO_493002.out (Kd.R_typed HO_9.out) (by decide))) hkp (fun k_ hk_ hs_ => (hk_.2) hs_)) (fun k_ hk_ => ⟨hk_.1.1.1, hk_.1.1.2.1, hk_.1.1.2.2⟩)); replace BK459 := Aside0.mk (blk_kept (sqK BK459) hkp (fun hs_ => (fun e_ => (Kd.R_ne HO_9.out BK459.out (by decide)) e_) hs_)); replace BK476 := Aside0.mk (blk_kept (sqK BK476) hkp (fun hs_ => (fun e_ => (Kd.R_ne HO_9.out BK476.out (by decide)) e_) hs_)); replace BK482 := Aside0.mk (blk_kept (sqK BK482) hkp (fun hs_ => (fun e_ => (Kd.R_ne HO_9.out BK482.out (by decide)) e_) hs_)); replace BK492 := Aside0.mk (blk_kept (sqK BK492) hkp (fun hs_ => (fun e_ => (Kd.R_ne HO_9.out BK492.out (by decide)) e_) hs_)); replace HO498 := Aside0.mk (Kd.R_mono (ok' := fun k_ => some k_ ≠ (.slice Ao34 t472.length co34 : Value).ownBlock ∧ some k_ ≠ (.slice Ao41 t479.length co41 : Value).ownBlock ∧ some k_ ≠ (.slice Ao51 t488.length co51 : Value).ownBlock) (Kd.R_keptB ((Kd.R_apart' HO498.out (Kd.R_typed HO_9.out) (by decide))) hkp (fun k_ hk_ hs_ => (hk_.2) hs_)) (fun k_ hk_ => ⟨hk_.1.1.1, hk_.1.1.2.1, hk_.1.1.2.2⟩)); replace HO_9 := Aside0.mk (Kd.R_reok rfl hy0 (fun k_ e_ => HO_9.out.1 k_ e_)); replace HO502 := Aside0.mk (Kd.R_mono (ok' := fun k_ => some k_ ≠ (.slice Ao44 t483.length co44 : Value).ownBlock) (Kd.R_keptB (HO502.out) hkp (fun k_ hk_ hs_ => (hk_) hs_)) (fun k_ hk_ => hk_.1)); replace HB := Aside0.mk (hb); (try clear hb); (try clear hkp); (try clear hy0)))
        (try simp only [Act.put, List.setIfInBounds_toArray, List.set_cons_zero, List.set_cons_succ])
        go_cut [82] (fun v82 wc => ∃ (kq : Nat) (x82_78 : Bool), v82 = .bool x82_78 ∧ Aside0 (laws_FnExactDeskRun.j1 kq l1 t475 x82_78 a0_0 a0_1 l0_2 t470 t471 t472 t486 t487 t488 = some r) ∧ Aside0 (kq ≤ kj19) ∧ Aside0 (Kd.Q k31 31 wc w.heap.size (fun k_ => some k_ ≠ ((.slice Ao41 t479.length co41) : Value).ownBlock ∧ some k_ ≠ ((.slice Ao51 t488.length co51) : Value).ownBlock) (.slice Ao34 t472.length co34) t472) ∧ Aside0 (Kd.R k31 31 wc w.heap.size (fun k_ => some k_ ≠ ((.slice Ao34 t472.length co34) : Value).ownBlock ∧ some k_ ≠ ((.slice Ao51 t488.length co51) : Value).ownBlock) (.slice Ao41 t479.length co41) t505) ∧ Aside0 (Kd.R k31 31 wc w.heap.size (fun k_ => some k_ ≠ ((.slice Ao34 t472.length co34) : Value).ownBlock ∧ some k_ ≠ ((.slice Ao41 t479.length co41) : Value).ownBlock) (.slice Ao51 t488.length co51) t488) ∧ Aside0 (wc.heap[gb459]? = some (.cells #[.int .i64 a0_0, .int .i64 a0_1, (.slice A0_2 l0_2.length c0_2)] 26 (0, 0))) ∧ Aside0 (wc.heap[gb476]? = some (.cells #[.int .i64 t470, .int .i64 t471, (.slice Ao34 t472.length co34)] 34 (0, 0))) ∧ Aside0 (wc.heap[gb482]? = some (.cells #[.int .i64 t477, .int .i64 t478, (.slice Ao41 t479.length co41)] 34 (0, 0))) ∧ Aside0 (wc.heap[gb492]? = some (.cells #[.int .i64 t486, .int .i64 t487, (.slice Ao51 t488.length co51)] 34 (0, 0))) ∧ Aside0 (Below w.heap.size w wc))
        case first =>
         have H := HC79.out
         clear HC79
         by_cases c93 : t506 < 0
         ·rw [if_pos c93] at H
          have c93b0 : decide (t506 < 0) = true := decide_eq_true c93
          clear c93
          (first | rw [c93b0] | (simp only [i64_w, i32_w]; rw [c93b0]) | skip)
          have H' := Aside0.mk H
          clear H
          go_wp2
          go_meet
          case rel => exact ⟨_, (true), Z2, H', ⟨Z78⟩, ⟨Z79 HO_477002⟩, ⟨Z80 HO_483002⟩, ⟨Z80 HO_493002⟩, ⟨sqK BK459⟩, ⟨sqK BK476⟩, ⟨sqK BK482⟩, ⟨sqK BK492⟩, ⟨sqB4 HB GE459 GE476 GE482 GE492⟩⟩
         ·rw [if_neg c93] at H
          have c93b0 : decide (t506 < 0) = false := decide_eq_false c93
          clear c93
          (first | rw [c93b0] | (simp only [i64_w, i32_w]; rw [c93b0]) | skip)
          obtain ⟨t508, A94, H⟩ := sqD H
          by_cases c95 : t508 = true
          ·subst c95
           have H1 : (laws_FnExactDeskRun.j1 kj19 l1 t475 (t491 != t475) a0_0 a0_1 l0_2 t470 t471 t472 t486 t487 t488) = some r := by rw [if_pos rfl] at H; exact H
           clear H
           have H := H1
           clear H1
           have H' := Aside0.mk H
           clear H
           have hnb96 := NB492_459.out
           have hnc96 := NB459_492.out
           have hnb97 := NB492_476.out
           have hnc97 := NB476_492.out
           have hnb98 := NB492_482.out
           have hnc98 := NB482_492.out
           obtain ⟨hcz99_0, hcz99_1, hcz99_2, hfz99_0, hfz99_1, hfz99_2⟩ := sqY3 BK492
           have hnb100 := NB476_459.out
           have hnc100 := NB459_476.out
           have hnb101 := NB476_482.out
           have hnc101 := NB482_476.out
           obtain ⟨hcz102_0, hcz102_1, hcz102_2, hfz102_0, hfz102_1, hfz102_2⟩ := sqY3 BK476
           go_wp2_with (first | (go_at_call 18; (with_reducible refine (laws_eqDesk.calls kj19 t486 t487 _ _ t488 t470 t471 _ _ t472 true _ ?side1 ?side2 ?side3 ?side4 A94.out).mono ?_); (case side1 => exact Z61 HO_493002); (case side2 => exact Z62 HO_493002); (case side3 => exact Z39 HO_477002); (case side4 => exact Z40 HO_477002); rintro e w103 ⟨rfl, hb⟩; replace HO_9 := sqU HO_9 hb; replace HO_477002 := Aside0.mk (Kd.Q_below (Z32 HO_477002) hb); replace HO_483002 := sqU HO_483002 hb; replace HO_493002 := sqU HO_493002 hb; replace HO498 := sqU HO498 hb; replace HO502 := sqU HO502 hb; replace BK459 := sqT BK459 hb; replace BK476 := sqT BK476 hb; replace BK482 := sqT BK482 hb; replace BK492 := sqT BK492 hb; replace HB := sqS (sqB4 HB GE459 GE476 GE482 GE492) hb; (try clear hb)))
           go_meet
           case rel => exact ⟨_, ((t491 != t475)), Z2, H', ⟨Z78⟩, ⟨Z79 HO_477002⟩, ⟨Z80 HO_483002⟩, ⟨Z80 HO_493002⟩, ⟨sqK BK459⟩, ⟨sqK BK476⟩, ⟨sqK BK482⟩, ⟨sqK BK492⟩, ⟨sqB4 HB GE459 GE476 GE482 GE492⟩⟩
          ·replace c95 := Bool.eq_false_iff.mpr c95
           subst c95
           have H1 : (laws_FnExactDeskRun.j1 kj19 l1 t475 true a0_0 a0_1 l0_2 t470 t471 t472 t486 t487 t488) = some r := by rw [if_neg (show ¬ (false = true) by decide)] at H; exact H
           clear H
           have H := H1
           clear H1
           have H' := Aside0.mk H
           clear H
           have hnb104 := NB492_459.out
           have hnc104 := NB459_492.out
           have hnb105 := NB492_476.out
           have hnc105 := NB476_492.out
           have hnb106 := NB492_482.out
           have hnc106 := NB482_492.out
           obtain ⟨hcz107_0, hcz107_1, hcz107_2, hfz107_0, hfz107_1, hfz107_2⟩ := sqY3 BK492
           have hnb108 := NB476_459.out
           have hnc108 := NB459_476.out
           have hnb109 := NB476_482.out
           have hnc109 := NB482_476.out
           obtain ⟨hcz110_0, hcz110_1, hcz110_2, hfz110_0, hfz110_1, hfz110_2⟩ := sqY3 BK476
           go_wp2_with (first | (go_at_call 18; (with_reducible refine (laws_eqDesk.calls kj19 t486 t487 _ _ t488 t470 t471 _ _ t472 false _ ?side1 ?side2 ?side3 ?side4 A94.out).mono ?_); (case side1 => exact Z61 HO_493002); (case side2 => exact Z62 HO_493002); (case side3 => exact Z39 HO_477002); (case side4 => exact Z40 HO_477002); rintro e w111 ⟨rfl, hb⟩; replace HO_9 := sqU HO_9 hb; replace HO_477002 := Aside0.mk (Kd.Q_below (Z32 HO_477002) hb); replace HO_483002 := sqU HO_483002 hb; replace HO_493002 := sqU HO_493002 hb; replace HO498 := sqU HO498 hb; replace HO502 := sqU HO502 hb; replace BK459 := sqT BK459 hb; replace BK476 := sqT BK476 hb; replace BK482 := sqT BK482 hb; replace BK492 := sqT BK492 hb; replace HB := sqS (sqB4 HB GE459 GE476 GE482 GE492) hb; (try clear hb)))
           go_meet
           case rel => exact ⟨_, (true), Z2, H', ⟨Z78⟩, ⟨Z79 HO_477002⟩, ⟨Z80 HO_483002⟩, ⟨Z80 HO_493002⟩, ⟨sqK BK459⟩, ⟨sqK BK476⟩, ⟨sqK BK482⟩, ⟨sqK BK492⟩, ⟨sqB4 HB GE459 GE476 GE482 GE492⟩⟩
        case rest =>
         clear HC79
         try clear c1; try clear c2; try clear p2; try clear c3; try clear c4; try clear c4b0; try clear c5; try clear c6; try clear c7; try clear c8; try clear c9; try clear c9b0; try clear c10; try clear c12; try clear c15; try clear c18; try clear c19; try clear c28; try clear c29; try clear c32; try clear c33; try clear c34; try clear c35; try clear c38; try clear c39; try clear c47; try clear c48; try clear c49; try clear c53; try clear c54; try clear c55; try clear c56; try clear c58; try clear c59; try clear c62; try clear c63; try clear c64; try clear c66; try clear c67; try clear c70; try clear c73; try clear c76; try clear c87; try clear c88; try clear c89; try clear c93; try clear c93b0; try clear c95; try clear c96; try clear c97; try clear c98; try clear c100; try clear c101; try clear c104; try clear c105; try clear c106; try clear c108; try clear c109; try clear hcz102_0; try clear hcz102_1; try clear hcz102_2; try clear hcz107_0; try clear hcz107_1; try clear hcz107_2; try clear hcz110_0; try clear hcz110_1; try clear hcz110_2; try clear hcz11_0; try clear hcz11_1; try clear hcz11_2; try clear hcz22_0; try clear hcz22_1; try clear hcz22_2; try clear hcz25_0; try clear hcz25_1; try clear hcz25_2; try clear hcz33_0; try clear hcz33_1; try clear hcz33_2; try clear hcz35_0; try clear hcz35_1; try clear hcz35_2; try clear hcz40_0; try clear hcz40_1; try clear hcz40_2; try clear hcz43_0; try clear hcz43_1; try clear hcz43_2; try clear hcz50_0; try clear hcz50_1; try clear hcz50_2; try clear hcz57_0; try clear hcz57_1; try clear hcz57_2; try clear hcz60_0; try clear hcz60_1; try clear hcz60_2; try clear hcz65_0; try clear hcz65_1; try clear hcz65_2; try clear hcz68_0; try clear hcz68_1; try clear hcz68_2; try clear hcz6_0; try clear hcz6_1; try clear hcz6_2; try clear hcz90_0; try clear hcz90_1; try clear hcz90_2; try clear hcz99_0; try clear hcz99_1; try clear hcz99_2; try clear hfz102_0; try clear hfz102_1; try clear hfz102_2; try clear hfz107_0; try clear hfz107_1; try clear hfz107_2; try clear hfz110_0; try clear hfz110_1; try clear hfz110_2; try clear hfz11_0; try clear hfz11_1; try clear hfz11_2; try clear hfz22_0; try clear hfz22_1; try clear hfz22_2; try clear hfz25_0; try clear hfz25_1; try clear hfz25_2; try clear hfz33_0; try clear hfz33_1; try clear hfz33_2; try clear hfz35_0; try clear hfz35_1; try clear hfz35_2; try clear hfz40_0; try clear hfz40_1; try clear hfz40_2; try clear hfz43_0; try clear hfz43_1; try clear hfz43_2; try clear hfz50_0; try clear hfz50_1; try clear hfz50_2; try clear hfz57_0; try clear hfz57_1; try clear hfz57_2; try clear hfz60_0; try clear hfz60_1; try clear hfz60_2; try clear hfz65_0; try clear hfz65_1; try clear hfz65_2; try clear hfz68_0; try clear hfz68_1; try clear hfz68_2; try clear hfz6_0; try clear hfz6_1; try clear hfz6_2; try clear hfz90_0; try clear hfz90_1; try clear hfz90_2; try clear hfz99_0; try clear hfz99_1; try clear hfz99_2; try clear p2
         obtain ⟨kq, x82_78, rfl, HA, HJ78, HO_477002, HO_483002, HO_493002, BK459, BK476, BK482, BK492, HB⟩ := hcut
         have hl483002_78 := (Kd.R_reads' HO_483002.out).1
         rw [hl483002_78] at HO_483002
         (try simp only [hl483002_78])
         (try simp only [hl483002_78] at BK459)
         (try simp only [hl483002_78] at BK476)
         (try simp only [hl483002_78] at BK482)
         (try simp only [hl483002_78] at BK492)
         (try simp only [hl483002_78] at HO_477002)
         (try simp only [hl483002_78] at HO_493002)
         cases kq with
         | zero => exact absurd HA.out (by simp [laws_FnExactDeskRun.j1])
         | succ kj78 =>
          have H := HA.out
          clear HA
          simp only [laws_FnExactDeskRun.j1] at H
          by_cases c112 : x82_78 = true
          ·subst c112
           have H1 : (some false) = some r := by rw [if_pos rfl] at H; exact H
           clear H
           have H := H1
           clear H1
           obtain rfl := Option.some.inj H
           go_wp2
           go_ret
           exact ⟨Z4, sqB4 HB GE459 GE476 GE482 GE492⟩
          ·replace c112 := Bool.eq_false_iff.mpr c112
           subst c112
           have H1 : ((laws_markDesk.f kj78 t486 t487 t488 1).bind fun bt509 => ((laws_heldDesk.f kj78 t486 t487 bt509.2 1).bind fun t511 => (if t511 < 0 then (some false) else (if t511 = bt509.1 then ((laws_toDesk.f kj78 a0_0 a0_1 l0_2).bind fun bt512 => ((laws_toDeedS.f kj78 l1).bind fun t517 => ((impl_DeskRun.f kj78 bt512.1 bt512.2.1 bt512.2.2 t517).bind fun bt520 => ((laws_eqDesk.f kj78 bt520.1 bt520.2.1 bt520.2.2.1 t470 t471 t472).bind fun t527 => (if t527 = true then (laws_FnExactDeskRun.j2 kj78 bt509.1 (bt520.2.2.2 != t475) t486 t487 bt509.2) else (laws_FnExactDeskRun.j2 kj78 bt509.1 true t486 t487 bt509.2)))))) else (some false))))) = some r := by rw [if_neg (show ¬ (false = true) by decide)] at H; exact H
           clear H
           have H := H1
           clear H1
           replace H := Option.bind_eq_some_iff.mp H
           obtain ⟨⟨t509, t510⟩, A1130, H⟩ := H
           replace H : ((laws_heldDesk.f kj78 t486 t487 t510 1).bind fun t511 => (if t511 < 0 then (some false) else (if t511 = t509 then ((laws_toDesk.f kj78 a0_0 a0_1 l0_2).bind fun bt512 => ((laws_toDeedS.f kj78 l1).bind fun t517 => ((impl_DeskRun.f kj78 bt512.1 bt512.2.1 bt512.2.2 t517).bind fun bt520 => ((laws_eqDesk.f kj78 bt520.1 bt520.2.1 bt520.2.2.1 t470 t471 t472).bind fun t527 => (if t527 = true then (laws_FnExactDeskRun.j2 kj78 t509 (bt520.2.2.2 != t475) t486 t487 t510) else (laws_FnExactDeskRun.j2 kj78 t509 true t486 t487 t510)))))) else (some false)))) = some r := H
           have A113 := Aside0.mk A1130
           clear A1130
           obtain ⟨t511, A114, H⟩ := sqD H
           by_cases c115 : t511 < 0
           ·rw [if_pos c115] at H
            exact absurd (Option.some.inj H) Z81
           ·rw [if_neg c115] at H
            have c115b0 : decide (t511 < 0) = false := decide_eq_false c115
            clear c115
            by_cases c123 : t511 = t509
            ·rw [if_pos c123] at H
             have c123b0 : (t511 == t509) = true := beq_iff_eq.mpr c123
             have c123b1 : (t511 != t509) = false := bne_eq_false_iff_eq.mpr c123
             clear c123
             replace H := Option.bind_eq_some_iff.mp H
             obtain ⟨⟨t512, t513, t514⟩, A1240, H⟩ := H
             replace H : ((laws_toDeedS.f kj78 l1).bind fun t517 => ((impl_DeskRun.f kj78 t512 t513 t514 t517).bind fun bt520 => ((laws_eqDesk.f kj78 bt520.1 bt520.2.1 bt520.2.2.1 t470 t471 t472).bind fun t527 => (if t527 = true then (laws_FnExactDeskRun.j2 kj78 t509 (bt520.2.2.2 != t475) t486 t487 t510) else (laws_FnExactDeskRun.j2 kj78 t509 true t486 t487 t510))))) = some r := H
             have A124 := Aside0.mk A1240
             clear A1240
             obtain ⟨t517, A125, H⟩ := sqD H
             replace H := Option.bind_eq_some_iff.mp H
             obtain ⟨⟨t520, t521, t522, t525⟩, A1260, H⟩ := H
             replace H : ((laws_eqDesk.f kj78 t520 t521 t522 t470 t471 t472).bind fun t527 => (if t527 = true then (laws_FnExactDeskRun.j2 kj78 t509 (t525 != t475) t486 t487 t510) else (laws_FnExactDeskRun.j2 kj78 t509 true t486 t487 t510))) = some r := H
             have A126 := Aside0.mk A1260
             clear A1260
             have HC127 := Aside0.mk H
             clear H
             have hnb128 := NB492_459.out
             have hnc128 := NB459_492.out
             have hnb129 := NB492_476.out
             have hnc129 := NB476_492.out
             have hnb130 := NB492_482.out
             have hnc130 := NB482_492.out
             obtain ⟨hcz131_0, hcz131_1, hcz131_2, hfz131_0, hfz131_1, hfz131_2⟩ := sqY3 BK492
             go_upto_region 32 with (first | ((with_reducible refine gate_callee (f := 19) rfl ?_); refine goesL_ (some 85) rfl rfl Tryz.func19 (by kernel_rfl) rfl #[.agg #[.int .i64 t486, .int .i64 t487, .slice Ao51 t488.length co51], .int .i64 1] rfl sqA ?_; (with_reducible refine (laws_markDesk.calls kj78 t486 t487 (fun k_ => some k_ = (.slice Ao51 t488.length co51 : Value).ownBlock) (.slice Ao51 t488.length co51) t488 1 t509 t510 w _ ?side1 ?side2 A113.out).mono ?_); (case side1 => exact Z77 GE459 GE476 GE482 GE492); (case side2 => exact Kd.R_tight rfl HO_493002.out); rintro e w132 ⟨rfl, hy0, hb, hkp⟩; refine ⟨_, rfl, ?_⟩; replace HO_477002 := Aside0.mk (Kd.Q_mono (ok' := fun k_ => some k_ ≠ (.slice Ao41 t505.length co41 : Value).ownBlock ∧ some k_ ≠ (.slice Ao51 t488.length co51 : Value).ownBlock) (Kd.Q_keptB (HO_477002.out) hkp (fun k_ hk_ hs_ => (hk_.2) hs_)) (fun k_ hk_ => ⟨hk_.1.1, hk_.1.2⟩)); replace HO_483002 := Aside0.mk (Kd.R_mono (ok' := fun k_ => some k_ ≠ (.slice Ao34 t472.length co34 : Value).ownBlock ∧ some k_ ≠ (.slice Ao51 t488.length co51 : Value).ownBlock) (Kd.R_keptB (HO_483002.out) hkp (fun k_ hk_ hs_ => (hk_.2) hs_)) (fun k_ hk_ => ⟨hk_.1.1, hk_.1.2⟩)); replace BK459 := Aside0.mk (blk_kept (sqK BK459) hkp (fun hs_ => (fun e_ => (Kd.R_ne HO_493002.out BK459.out (by decide)) e_) hs_)); replace BK476 := Aside0.mk (blk_kept (sqK BK476) hkp (fun hs_ => (fun e_ => (Kd.R_ne HO_493002.out BK476.out (by decide)) e_) hs_)); replace BK482 := Aside0.mk (blk_kept (sqK BK482) hkp (fun hs_ => (fun e_ => (Kd.R_ne HO_493002.out BK482.out (by decide)) e_) hs_)); replace BK492 := Aside0.mk (blk_kept (sqK BK492) hkp (fun hs_ => (fun e_ => (Kd.R_ne HO_493002.out BK492.out (by decide)) e_) hs_)); replace HO_493002 := Aside0.mk (Kd.R_reok rfl hy0 (fun k_ e_ => HO_493002.out.1 k_ e_)); replace HB := Aside0.mk (hb); (try clear hb); (try clear hkp); (try clear hy0); obtain ⟨hcz133_0, hcz133_1, hcz133_2, hfz133_0, hfz133_1, hfz133_2⟩ := sqY3 BK492) | ((with_reducible refine gate_callee (f := 20) rfl ?_); refine goesL_ (some 88) rfl rfl Tryz.func20 (by kernel_rfl) rfl #[.agg #[.int .i64 t486, .int .i64 t487, .slice Ao51 t510.length co51], .int .i64 1] rfl (by (try simp only [List.map_toArray, List.map_cons, List.map_nil]); first | done | (rw [show t510.length = t488.length from (Kd.R_reads' HO_493002.out).1.symm] <;> rfl) | rfl | (simp only [List.length_drop, List.length_take]; rfl)) ?_; (with_reducible refine (laws_heldDesk.calls kj78 t486 t487 _ _ t510 1 t511 _ ?side1 ?side2 A114.out).mono ?_); (case side1 => exact Z61 HO_493002); (case side2 => rw [show t510.length = t488.length from (Kd.R_reads' HO_493002.out).1.symm]; exact (Kd.R_reads' HO_493002.out).2.1); rintro e w134 ⟨rfl, hb⟩; refine ⟨_, rfl, ?_⟩; replace HO_477002 := Aside0.mk (Kd.Q_below (Z32 HO_477002) hb); replace HO_483002 := sqU HO_483002 hb; replace HO_493002 := sqU HO_493002 hb; replace BK459 := sqT BK459 hb; replace BK476 := sqT BK476 hb; replace BK482 := sqT BK482 hb; replace BK492 := sqT BK492 hb; replace HB := sqS (sqB4 HB GE459 GE476 GE482 GE492) hb; (try clear hb); have hnb135 := NB459_476.out; have hnc135 := NB476_459.out; have hnb136 := NB459_482.out; have hnc136 := NB482_459.out; obtain ⟨hcz137_0, hcz137_1, hcz137_2, hfz137_0, hfz137_1, hfz137_2⟩ := sqY3 BK459) | ((with_reducible refine gate_callee (f := 15) rfl ?_); refine goesL_ (some 96) rfl rfl Tryz.func15 (by kernel_rfl) rfl #[.agg #[.int .i64 a0_0, .int .i64 a0_1, .slice A0_2 l0_2.length c0_2]] rfl sqA ?_; (with_reducible refine (laws_toDesk.calls kj78 a0_0 a0_1 _ _ l0_2 t512 t513 t514 _ ?side1 ?side2 A124.out).mono ?_); (case side1 => exact Z27); (case side2 => exact Z28); rintro e w138 ⟨v515, rfl, ho0, hb⟩; refine ⟨_, rfl, ?_⟩; have HO516 := Aside0.mk (Kd.R_lower (Kd.R_new' (Kd.R_new' (Kd.R_new' ho0 (Kd.Q_lt (Z32 HO_477002))) (Kd.R_lt (sqR HO_483002))) (Kd.R_lt (sqR HO_493002))) (below_size (sqB4 HB GE459 GE476 GE482 GE492))); replace HO_477002 := Aside0.mk (Kd.Q_elder' (Z32 HO_477002) (Kd.R_base ho0) hb); replace HO_483002 := Aside0.mk (Kd.R_elder' (sqR HO_483002) (Kd.R_base ho0) hb); replace HO_493002 := Aside0.mk (Kd.R_elder' (sqR HO_493002) (Kd.R_base ho0) hb); replace BK459 := sqT BK459 hb; replace BK476 := sqT BK476 hb; replace BK482 := sqT BK482 hb; replace BK492 := sqT BK492 hb; replace HB := sqS (sqB4 HB GE459 GE476 GE482 GE492) hb; (try clear hb); (try clear ho0)) | ((with_reducible refine gate_callee (f := 33) rfl ?_); refine goesL_ (some 98) rfl rfl Tryz.func33 (by kernel_rfl) rfl #[.slice A1 l1.length c1] rfl sqA ?_; (with_reducible refine (laws_toDeedS.calls kj78 _ _ l1 t517 _ ?side1 ?side2 A125.out).mono ?_); (case side1 => exact Z67 HR1); (case side2 => exact HC1.out); rintro e w139 ⟨v518, rfl, ho0, hb⟩; refine ⟨_, rfl, ?_⟩; replace HO_477002 := Aside0.mk (Kd.Q_below (Z32 HO_477002) hb); replace HO_483002 := sqU HO_483002 hb; replace HO_493002 := sqU HO_493002 hb; replace HO516 := sqU HO516 hb; have HO519 := sqL ho0 (sqB4 HB GE459 GE476 GE482 GE492); replace BK459 := sqT BK459 hb; replace BK476 := sqT BK476 hb; replace BK482 := sqT BK482 hb; replace BK492 := sqT BK492 hb; replace HB := sqS (sqB4 HB GE459 GE476 GE482 GE492) hb; (try clear hb); (try clear ho0); obtain ⟨Ao140, co140, eo140⟩ := Kd.R_slice HO516.out; subst eo140; obtain ⟨Ao141, co141, eo141⟩ := Kd.R_slice HO519.out; subst eo141) | ((with_reducible refine gate_callee (f := 28) rfl ?_); refine goesL_ (some 99) rfl rfl Tryz.func28 (by kernel_rfl) rfl #[.agg #[.int .i64 t512, .int .i64 t513, .slice Ao140 t514.length co140], .slice Ao141 t517.length co141] rfl sqA ?_; (with_reducible refine (impl_DeskRun.calls kj78 t512 t513 _ _ t514 _ _ t517 t520 t521 t522 t525 _ ?sideG ?side1 ?side2 ?side3 ?side4 A126.out).mono ?_); (case sideG => exact Glob.below hG (sqB4 HB GE459 GE476 GE482 GE492)); (case side1 => exact Z61 HO516); (case side2 => exact Z62 HO516); (case side3 => exact Z61 HO519); (case side4 => exact Z62 HO519); rintro e w142 ⟨v523, rfl, ho0, hb⟩; refine ⟨_, rfl, ?_⟩; replace HO519 := sqU HO519 hb; have HO524 := Aside0.mk (Kd.R_lower (Kd.R_new' (Kd.R_new' (Kd.R_new' (Kd.R_new' ho0 (Kd.Q_lt (Z32 HO_477002))) (Kd.R_lt (sqR HO_483002))) (Kd.R_lt (sqR HO_493002))) (Kd.R_lt (sqR HO516))) (below_size (sqB4 HB GE459 GE476 GE482 GE492))); replace HO_477002 := Aside0.mk (Kd.Q_elder' (Z32 HO_477002) (Kd.R_base ho0) hb); replace HO_483002 := Aside0.mk (Kd.R_elder' (sqR HO_483002) (Kd.R_base ho0) hb); replace HO_493002 := Aside0.mk (Kd.R_elder' (sqR HO_493002) (Kd.R_base ho0) hb); replace HO516 := Aside0.mk (Kd.R_elder' (sqR HO516) (Kd.R_base ho0) hb); replace BK459 := sqT BK459 hb; replace BK476 := sqT BK476 hb; replace BK482 := sqT BK482 hb; replace BK492 := sqT BK492 hb; replace HB := sqS (sqB4 HB GE459 GE476 GE482 GE492) hb; (try clear hb); (try clear ho0)) | ((with_reducible refine gate_dst (N := 15) rfl ?_); refine sqBox (N := 15) (cs := #[.int .i64 0, .int .i64 0, .slice none 0 0]) (t := 34) ?_; intro gb526 hg w143 BK526 hb; replace HO_477002 := Aside0.mk (Kd.Q_below (Z32 HO_477002) hb); replace HO_483002 := sqU HO_483002 hb; replace HO_493002 := sqU HO_493002 hb; replace HO516 := sqU HO516 hb; replace HO519 := sqU HO519 hb; replace HO524 := sqU HO524 hb; have GW526 := Aside0.mk ((sqG hg (sqB4 HB GE459 GE476 GE482 GE492))); have GE526 := GW526; replace HB := sqS (sqB4 HB GE459 GE476 GE482 GE492) hb; obtain ⟨NB459_526, NB526_459⟩ := sqM hg BK459; replace BK459 := sqT BK459 hb; obtain ⟨NB476_526, NB526_476⟩ := sqM hg BK476; replace BK476 := sqT BK476 hb; obtain ⟨NB482_526, NB526_482⟩ := sqM hg BK482; replace BK482 := sqT BK482 hb; obtain ⟨NB492_526, NB526_492⟩ := sqM hg BK492; replace BK492 := sqT BK492 hb; clear hb hg; have hnb144 := NB526_459.out; have hnc144 := NB459_526.out; have hnb145 := NB526_476.out; have hnc145 := NB476_526.out; have hnb146 := NB526_482.out; have hnc146 := NB482_526.out; have hnb147 := NB526_492.out; have hnc147 := NB492_526.out; obtain ⟨hcz148_0, hcz148_1, hcz148_2, hfz148_0, hfz148_1, hfz148_2⟩ := sqY3 BK526; obtain ⟨Ao149, co149, eo149⟩ := Kd.R_slice HO524.out; subst eo149))
             (try simp only [Act.put, List.setIfInBounds_toArray, List.set_cons_zero, List.set_cons_succ])
             go_cut [110] (fun v110 wc => ∃ (kq : Nat) (x110_126 : Bool), v110 = .bool x110_126 ∧ Aside0 (laws_FnExactDeskRun.j2 kq t509 x110_126 t486 t487 t510 = some r) ∧ Aside0 (kq ≤ kj78) ∧ Aside0 (Kd.Q k31 31 wc w.heap.size (fun k_ => some k_ ≠ ((.slice Ao41 t505.length co41) : Value).ownBlock ∧ some k_ ≠ ((.slice Ao51 t488.length co51) : Value).ownBlock ∧ some k_ ≠ ((.slice Ao149 t522.length co149) : Value).ownBlock) (.slice Ao34 t472.length co34) t472) ∧ Aside0 (Kd.R k31 31 wc w.heap.size (fun k_ => some k_ ≠ ((.slice Ao34 t472.length co34) : Value).ownBlock ∧ some k_ ≠ ((.slice Ao51 t488.length co51) : Value).ownBlock ∧ some k_ ≠ ((.slice Ao149 t522.length co149) : Value).ownBlock) (.slice Ao41 t505.length co41) t505) ∧ Aside0 (Kd.R k31 31 wc w.heap.size (fun k_ => some k_ ≠ ((.slice Ao34 t472.length co34) : Value).ownBlock ∧ some k_ ≠ ((.slice Ao41 t505.length co41) : Value).ownBlock ∧ some k_ ≠ ((.slice Ao149 t522.length co149) : Value).ownBlock) (.slice Ao51 t488.length co51) t510) ∧ Aside0 (Kd.R k31 31 wc w.heap.size (fun k_ => some k_ ≠ ((.slice Ao34 t472.length co34) : Value).ownBlock ∧ some k_ ≠ ((.slice Ao41 t505.length co41) : Value).ownBlock ∧ some k_ ≠ ((.slice Ao51 t488.length co51) : Value).ownBlock) (.slice Ao149 t522.length co149) t522) ∧ Aside0 (wc.heap[gb459]? = some (.cells #[.int .i64 a0_0, .int .i64 a0_1, (.slice A0_2 l0_2.length c0_2)] 26 (0, 0))) ∧ Aside0 (wc.heap[gb476]? = some (.cells #[.int .i64 t470, .int .i64 t471, (.slice Ao34 t472.length co34)] 34 (0, 0))) ∧ Aside0 (wc.heap[gb482]? = some (.cells #[.int .i64 t477, .int .i64 t478, (.slice Ao41 t505.length co41)] 34 (0, 0))) ∧ Aside0 (wc.heap[gb492]? = some (.cells #[.int .i64 t486, .int .i64 t487, (.slice Ao51 t488.length co51)] 34 (0, 0))) ∧ Aside0 (wc.heap[gb526]? = some (.cells #[.int .i64 t520, .int .i64 t521, (.slice Ao149 t522.length co149)] 34 (0, 0))) ∧ Aside0 (Below w.heap.size w wc))
             case first =>
              have H := HC127.out
              clear HC127
              obtain ⟨t527, A150, H⟩ := sqD H
              by_cases c151 : t527 = true
              ·subst c151
               have H1 : (laws_FnExactDeskRun.j2 kj78 t509 (t525 != t475) t486 t487 t510) = some r := by rw [if_pos rfl] at H; exact H
               clear H
               have H := H1
               clear H1
               have H' := Aside0.mk H
               clear H
               have hnb152 := NB526_459.out
               have hnc152 := NB459_526.out
               have hnb153 := NB526_476.out
               have hnc153 := NB476_526.out
               have hnb154 := NB526_482.out
               have hnc154 := NB482_526.out
               have hnb155 := NB526_492.out
               have hnc155 := NB492_526.out
               obtain ⟨hcz156_0, hcz156_1, hcz156_2, hfz156_0, hfz156_1, hfz156_2⟩ := sqY3 BK526
               have hnb157 := NB476_459.out
               have hnc157 := NB459_476.out
               have hnb158 := NB476_482.out
               have hnc158 := NB482_476.out
               have hnb159 := NB476_492.out
               have hnc159 := NB492_476.out
               obtain ⟨hcz160_0, hcz160_1, hcz160_2, hfz160_0, hfz160_1, hfz160_2⟩ := sqY3 BK476
               go_wp2_with (first | ((with_reducible refine gate_callee (f := 18) rfl ?_); refine goesL_ (some 104) rfl rfl Tryz.func18 (by kernel_rfl) rfl #[.agg #[.int .i64 t520, .int .i64 t521, .slice Ao149 t522.length co149], .agg #[.int .i64 t470, .int .i64 t471, .slice Ao34 t472.length co34]] rfl sqA ?_; (with_reducible refine (laws_eqDesk.calls kj78 t520 t521 _ _ t522 t470 t471 _ _ t472 true _ ?side1 ?side2 ?side3 ?side4 A150.out).mono ?_); (case side1 => exact Z93 HO524 BK526); (case side2 => exact Z62 HO524); (case side3 => exact Z94 HO_477002 BK526); (case side4 => exact Z40 HO_477002); rintro e w161 ⟨rfl, hb⟩; refine ⟨_, rfl, ?_⟩; replace HO_477002 := Aside0.mk (Kd.Q_below (Z83 HO_477002 BK526) hb); replace HO_483002 := Aside0.mk (Kd.R_below (Z82 HO_483002 BK526) hb); replace HO_493002 := Aside0.mk (Kd.R_below (Z82 HO_493002 BK526) hb); replace HO516 := Aside0.mk (Kd.R_below (Z82 HO516 BK526) hb); replace HO519 := Aside0.mk (Kd.R_below (Z82 HO519 BK526) hb); replace HO524 := Aside0.mk (Kd.R_below (Z82 HO524 BK526) hb); replace BK459 := Aside0.mk (blk_below (g := gb459) (o := .cells #[.int .i64 a0_0, .int .i64 a0_1, .slice A0_2 l0_2.length c0_2] 26 (0, 0)) (Z30 NB459_526 BK459) hb); replace BK476 := Aside0.mk (blk_below (g := gb476) (o := .cells #[.int .i64 t470, .int .i64 t471, .slice Ao34 t472.length co34] 34 (0, 0)) (Z30 NB476_526 BK476) hb); replace BK482 := Aside0.mk (blk_below (g := gb482) (o := .cells #[.int .i64 t477, .int .i64 t478, .slice Ao41 t505.length co41] 34 (0, 0)) (Z30 NB482_526 BK482) hb); replace BK492 := Aside0.mk (blk_below (g := gb492) (o := .cells #[.int .i64 t486, .int .i64 t487, .slice Ao51 t488.length co51] 34 (0, 0)) (Z30 NB492_526 BK492) hb); replace BK526 := Aside0.mk (blk_below (g := gb526) (o := .cells #[.int .i64 t520, .int .i64 t521, .slice Ao149 t522.length co149] 34 (0, 0)) (Z84 BK526) hb); replace HB := Aside0.mk (below_step (Z35 GE459 GE476 GE482 GE492 GE526) hb); (try clear hb)))
               go_meet
               case rel => exact ⟨_, ((t525 != t475)), Z2, H', ⟨by have := HJ19.out; have := HJ78.out; first | omega | exact Nat.le_refl _⟩, ⟨Z85 HO_477002⟩, ⟨Z86 HO_483002⟩, ⟨Z86 HO_493002⟩, ⟨Z87 HO524⟩, ⟨Z88 BK459⟩, ⟨Z88 BK476⟩, ⟨Z88 BK482⟩, ⟨Z88 BK492⟩, ⟨Z88 BK526⟩, ⟨Z35 GE459 GE476 GE482 GE492 GE526⟩⟩
              ·replace c151 := Bool.eq_false_iff.mpr c151
               subst c151
               have H1 : (laws_FnExactDeskRun.j2 kj78 t509 true t486 t487 t510) = some r := by rw [if_neg (show ¬ (false = true) by decide)] at H; exact H
               clear H
               have H := H1
               clear H1
               have H' := Aside0.mk H
               clear H
               have hnb162 := NB526_459.out
               have hnc162 := NB459_526.out
               have hnb163 := NB526_476.out
               have hnc163 := NB476_526.out
               have hnb164 := NB526_482.out
               have hnc164 := NB482_526.out
               have hnb165 := NB526_492.out
               have hnc165 := NB492_526.out
               obtain ⟨hcz166_0, hcz166_1, hcz166_2, hfz166_0, hfz166_1, hfz166_2⟩ := sqY3 BK526
               have hnb167 := NB476_459.out
               have hnc167 := NB459_476.out
               have hnb168 := NB476_482.out
               have hnc168 := NB482_476.out
               have hnb169 := NB476_492.out
               have hnc169 := NB492_476.out
               obtain ⟨hcz170_0, hcz170_1, hcz170_2, hfz170_0, hfz170_1, hfz170_2⟩ := sqY3 BK476
               go_wp2_with (first | ((with_reducible refine gate_callee (f := 18) rfl ?_); refine goesL_ (some 104) rfl rfl Tryz.func18 (by kernel_rfl) rfl #[.agg #[.int .i64 t520, .int .i64 t521, .slice Ao149 t522.length co149], .agg #[.int .i64 t470, .int .i64 t471, .slice Ao34 t472.length co34]] rfl sqA ?_; (with_reducible refine (laws_eqDesk.calls kj78 t520 t521 _ _ t522 t470 t471 _ _ t472 false _ ?side1 ?side2 ?side3 ?side4 A150.out).mono ?_); (case side1 => exact Z93 HO524 BK526); (case side2 => exact Z62 HO524); (case side3 => exact Z94 HO_477002 BK526); (case side4 => exact Z40 HO_477002); rintro e w171 ⟨rfl, hb⟩; refine ⟨_, rfl, ?_⟩; replace HO_477002 := Aside0.mk (Kd.Q_below (Z83 HO_477002 BK526) hb); replace HO_483002 := Aside0.mk (Kd.R_below (Z82 HO_483002 BK526) hb); replace HO_493002 := Aside0.mk (Kd.R_below (Z82 HO_493002 BK526) hb); replace HO516 := Aside0.mk (Kd.R_below (Z82 HO516 BK526) hb); replace HO519 := Aside0.mk (Kd.R_below (Z82 HO519 BK526) hb); replace HO524 := Aside0.mk (Kd.R_below (Z82 HO524 BK526) hb); replace BK459 := Aside0.mk (blk_below (g := gb459) (o := .cells #[.int .i64 a0_0, .int .i64 a0_1, .slice A0_2 l0_2.length c0_2] 26 (0, 0)) (Z30 NB459_526 BK459) hb); replace BK476 := Aside0.mk (blk_below (g := gb476) (o := .cells #[.int .i64 t470, .int .i64 t471, .slice Ao34 t472.length co34] 34 (0, 0)) (Z30 NB476_526 BK476) hb); replace BK482 := Aside0.mk (blk_below (g := gb482) (o := .cells #[.int .i64 t477, .int .i64 t478, .slice Ao41 t505.length co41] 34 (0, 0)) (Z30 NB482_526 BK482) hb); replace BK492 := Aside0.mk (blk_below (g := gb492) (o := .cells #[.int .i64 t486, .int .i64 t487, .slice Ao51 t488.length co51] 34 (0, 0)) (Z30 NB492_526 BK492) hb); replace BK526 := Aside0.mk (blk_below (g := gb526) (o := .cells #[.int .i64 t520, .int .i64 t521, .slice Ao149 t522.length co149] 34 (0, 0)) (Z84 BK526) hb); replace HB := Aside0.mk (below_step (Z35 GE459 GE476 GE482 GE492 GE526) hb); (try clear hb)))
               go_meet
               case rel => exact ⟨_, (true), Z2, H', ⟨by have := HJ19.out; have := HJ78.out; first | omega | exact Nat.le_refl _⟩, ⟨Z85 HO_477002⟩, ⟨Z86 HO_483002⟩, ⟨Z86 HO_493002⟩, ⟨Z87 HO524⟩, ⟨Z88 BK459⟩, ⟨Z88 BK476⟩, ⟨Z88 BK482⟩, ⟨Z88 BK492⟩, ⟨Z88 BK526⟩, ⟨Z35 GE459 GE476 GE482 GE492 GE526⟩⟩
             case rest =>
              clear HC127
              try clear c1; try clear c2; try clear p2; try clear c3; try clear c4; try clear c4b0; try clear c5; try clear c6; try clear c7; try clear c8; try clear c9; try clear c9b0; try clear c10; try clear c11; try clear c12; try clear c13; try clear c14; try clear c15; try clear c16; try clear c18; try clear c19; try clear c20; try clear c28; try clear c29; try clear c32; try clear c33; try clear c34; try clear c35; try clear c38; try clear c39; try clear c47; try clear c48; try clear c49; try clear c53; try clear c54; try clear c55; try clear c56; try clear c58; try clear c59; try clear c62; try clear c63; try clear c64; try clear c66; try clear c67; try clear c70; try clear c73; try clear c76; try clear c87; try clear c88; try clear c89; try clear c93; try clear c93b0; try clear c95; try clear c96; try clear c97; try clear c98; try clear c100; try clear c101; try clear c104; try clear c105; try clear c106; try clear c108; try clear c109; try clear c112; try clear c115; try clear c115b0; try clear c116; try clear c117; try clear c118; try clear c123; try clear c123b0; try clear c123b1; try clear c128; try clear c129; try clear c130; try clear c135; try clear c136; try clear c144; try clear c145; try clear c146; try clear c147; try clear c151; try clear c152; try clear c153; try clear c154; try clear c155; try clear c157; try clear c158; try clear c159; try clear c162; try clear c163; try clear c164; try clear c165; try clear c167; try clear c168; try clear c169; try clear hcz102_0; try clear hcz102_1; try clear hcz102_2; try clear hcz107_0; try clear hcz107_1; try clear hcz107_2; try clear hcz110_0; try clear hcz110_1; try clear hcz110_2; try clear hcz119_0; try clear hcz119_1; try clear hcz119_2; try clear hcz11_0; try clear hcz11_1; try clear hcz11_2; try clear hcz121_0; try clear hcz121_1; try clear hcz121_2; try clear hcz131_0; try clear hcz131_1; try clear hcz131_2; try clear hcz133_0; try clear hcz133_1; try clear hcz133_2; try clear hcz137_0; try clear hcz137_1; try clear hcz137_2; try clear hcz148_0; try clear hcz148_1; try clear hcz148_2; try clear hcz156_0; try clear hcz156_1; try clear hcz156_2; try clear hcz160_0; try clear hcz160_1; try clear hcz160_2; try clear hcz166_0; try clear hcz166_1; try clear hcz166_2; try clear hcz170_0; try clear hcz170_1; try clear hcz170_2; try clear hcz22_0; try clear hcz22_1; try clear hcz22_2; try clear hcz25_0; try clear hcz25_1; try clear hcz25_2; try clear hcz33_0; try clear hcz33_1; try clear hcz33_2; try clear hcz35_0; try clear hcz35_1; try clear hcz35_2; try clear hcz40_0; try clear hcz40_1; try clear hcz40_2; try clear hcz43_0; try clear hcz43_1; try clear hcz43_2; try clear hcz50_0; try clear hcz50_1; try clear hcz50_2; try clear hcz57_0; try clear hcz57_1; try clear hcz57_2; try clear hcz60_0; try clear hcz60_1; try clear hcz60_2; try clear hcz65_0; try clear hcz65_1; try clear hcz65_2; try clear hcz68_0; try clear hcz68_1; try clear hcz68_2; try clear hcz6_0; try clear hcz6_1; try clear hcz6_2; try clear hcz90_0; try clear hcz90_1; try clear hcz90_2; try clear hcz99_0; try clear hcz99_1; try clear hcz99_2; try clear hfz102_0; try clear hfz102_1; try clear hfz102_2; try clear hfz107_0; try clear hfz107_1; try clear hfz107_2; try clear hfz110_0; try clear hfz110_1; try clear hfz110_2; try clear hfz119_0; try clear hfz119_1; try clear hfz119_2; try clear hfz11_0; try clear hfz11_1; try clear hfz11_2; try clear hfz121_0; try clear hfz121_1; try clear hfz121_2; try clear hfz131_0; try clear hfz131_1; try clear hfz131_2; try clear hfz133_0; try clear hfz133_1; try clear hfz133_2; try clear hfz137_0; try clear hfz137_1; try clear hfz137_2; try clear hfz148_0; try clear hfz148_1; try clear hfz148_2; try clear hfz156_0; try clear hfz156_1; try clear hfz156_2; try clear hfz160_0; try clear hfz160_1; try clear hfz160_2; try clear hfz166_0; try clear hfz166_1; try clear hfz166_2; try clear hfz170_0; try clear hfz170_1; try clear hfz170_2; try clear hfz22_0; try clear hfz22_1; try clear hfz22_2; try clear hfz25_0; try clear hfz25_1; try clear hfz25_2; try clear hfz33_0; try clear hfz33_1; try clear hfz33_2; try clear hfz35_0; try clear hfz35_1; try clear hfz35_2; try clear hfz40_0; try clear hfz40_1; try clear hfz40_2; try clear hfz43_0; try clear hfz43_1; try clear hfz43_2; try clear hfz50_0; try clear hfz50_1; try clear hfz50_2; try clear hfz57_0; try clear hfz57_1; try clear hfz57_2; try clear hfz60_0; try clear hfz60_1; try clear hfz60_2; try clear hfz65_0; try clear hfz65_1; try clear hfz65_2; try clear hfz68_0; try clear hfz68_1; try clear hfz68_2; try clear hfz6_0; try clear hfz6_1; try clear hfz6_2; try clear hfz90_0; try clear hfz90_1; try clear hfz90_2; try clear hfz99_0; try clear hfz99_1; try clear hfz99_2; try clear p2
              obtain ⟨kq, x110_126, rfl, HA, HJ126, HO_477002, HO_483002, HO_493002, HO_527002, BK459, BK476, BK482, BK492, BK526, HB⟩ := hcut
              have hl493002_126 := (Kd.R_reads' HO_493002.out).1
              rw [hl493002_126] at HO_493002
              (try simp only [hl493002_126])
              (try simp only [hl493002_126] at BK459)
              (try simp only [hl493002_126] at BK476)
              (try simp only [hl493002_126] at BK482)
              (try simp only [hl493002_126] at BK492)
              (try simp only [hl493002_126] at BK526)
              (try simp only [hl493002_126] at HO_477002)
              (try simp only [hl493002_126] at HO_483002)
              (try simp only [hl493002_126] at HO_527002)
              cases kq with
              | zero => exact absurd HA.out (by simp [laws_FnExactDeskRun.j2])
              | succ kj126 =>
               have H := HA.out
               clear HA
               simp only [laws_FnExactDeskRun.j2] at H
               by_cases c172 : x110_126 = true
               ·subst c172
                have H1 : (some false) = some r := by rw [if_pos rfl] at H; exact H
                clear H
                have H := H1
                clear H1
                obtain rfl := Option.some.inj H
                go_wp2
                go_ret
                exact ⟨Z4, Z35 GE459 GE476 GE482 GE492 GE526⟩
               ·replace c172 := Bool.eq_false_iff.mpr c172
                subst c172
                have H1 : ((laws_heldDesk.f kj126 t486 t487 t510 1).bind fun t528 => (if t528 < 0 then (some false) else (if t528 = t509 then (some true) else (some false)))) = some r := by rw [if_neg (show ¬ (false = true) by decide)] at H; exact H
                clear H
                have H := H1
                clear H1
                obtain ⟨t528, A173, H⟩ := sqD H
                by_cases c174 : t528 < 0
                ·rw [if_pos c174] at H
                 exact absurd (Option.some.inj H) Z81
                ·rw [if_neg c174] at H
                 have c174b0 : decide (t528 < 0) = false := decide_eq_false c174
                 clear c174
                 by_cases c181 : t528 = t509
                 ·rw [if_pos c181] at H
                  have c181b0 : (t528 == t509) = true := beq_iff_eq.mpr c181
                  have c181b1 : (t528 != t509) = false := bne_eq_false_iff_eq.mpr c181
                  clear c181
                  obtain rfl := Option.some.inj H
                  have hnb182 := NB492_459.out
                  have hnc182 := NB459_492.out
                  have hnb183 := NB492_476.out
                  have hnc183 := NB476_492.out
                  have hnb184 := NB492_482.out
                  have hnc184 := NB482_492.out
                  have hnb185 := NB492_526.out
                  have hnc185 := NB526_492.out
                  obtain ⟨hcz186_0, hcz186_1, hcz186_2, hfz186_0, hfz186_1, hfz186_2⟩ := sqY3 BK492
                  go_wp2_with (first | ((with_reducible refine gate_callee (f := 20) rfl ?_); refine goesL_ (some 113) rfl rfl Tryz.func20 (by kernel_rfl) rfl #[.agg #[.int .i64 t486, .int .i64 t487, .slice Ao51 t510.length co51], .int .i64 1] rfl sqA ?_; (with_reducible refine (laws_heldDesk.calls kj126 t486 t487 _ _ t510 1 t528 _ ?side1 ?side2 A173.out).mono ?_); (case side1 => exact Z61 HO_493002); (case side2 => exact Z62 HO_493002); rintro e w187 ⟨rfl, hb⟩; refine ⟨_, rfl, ?_⟩; replace HO_477002 := Aside0.mk (Kd.Q_below (Z32 HO_477002) hb); replace HO_483002 := sqU HO_483002 hb; replace HO_493002 := sqU HO_493002 hb; replace HO_527002 := sqU HO_527002 hb; replace BK459 := sqT BK459 hb; replace BK476 := sqT BK476 hb; replace BK482 := sqT BK482 hb; replace BK492 := sqT BK492 hb; replace BK526 := sqT BK526 hb; replace HB := Aside0.mk (below_step (Z35 GE459 GE476 GE482 GE492 GE526) hb); (try clear hb)))
                  go_ret
                  exact ⟨Z4, Z35 GE459 GE476 GE482 GE492 GE526⟩
                 ·rw [if_neg c181] at H
                  exact absurd (Option.some.inj H) Z81
            ·rw [if_neg c123] at H
             exact absurd (Option.some.inj H) Z81
       ·rw [if_neg c76] at H
        exact absurd (Option.some.inj H) Z81
      ·rw [if_neg c73] at H
       exact absurd (Option.some.inj H) Z81

end Go.Proofs.YtofmlbgfcohhoaaGreatDoor.PFnExactDeskRun
