/- The walk of the law FnExactDeskDo, for the answer true: turned by a program of this session from the printed walk. -/
import Derived.Test.YtofmlbgfcohhoaaGreatDoorPFnExactDeskDox0
import Derived.Test.YtofmlbgfcohhoaaGreatDoorPFnExactDeskDox1
import Derived.Test.YtofmlbgfcohhoaaGreatDoorPFnExactDeskDox2
import Derived.Test.YtofmlbgfcohhoaaGreatDoorPFnExactDeskDox3
import Derived.Test.YtofmlbgfcohhoaaGreatDoorPFnExactDeskDox4
import Derived.Test.YtofmlbgfcohhoaaGreatDoorPFnExactDeskDox5
import Derived.Test.YtofmlbgfcohhoaaGreatDoorPFnExactDeskDox6
import Derived.Test.YtofmlbgfcohhoaaGreatDoorPFnExactDeskDox7
import Derived.Test.YtofmlbgfcohhoaaGreatDoorPFnExactDeskDox8
import Derived.Test.YtofmlbgfcohhoaaGreatDoorPFnExactDeskDox9
import Derived.Test.YtofmlbgfcohhoaaGreatDoorPFnExactDeskDox10
import Derived.Test.YtofmlbgfcohhoaaGreatDoorPFnExactDeskDox11
import Derived.Test.YtofmlbgfcohhoaaGreatDoorPFnExactDeskDox12
import Derived.Test.YtofmlbgfcohhoaaGreatDoorPFnExactDeskDox13
import Derived.Test.YtofmlbgfcohhoaaGreatDoorPFnExactDeskDox14
namespace Go.Proofs.YtofmlbgfcohhoaaGreatDoor.PFnExactDeskDo
open Go.RowKit Go.Proofs.YtofmlbgfcohhoaaGreatDoorW.PrintWords Go.Proofs.YtofmlbgfcohhoaaGreatDoorW.PrintLast Go.Proofs.YtofmlbgfcohhoaaGreatDoorW.PrintMore Go.Proofs.YtofmlbgfcohhoaaGreatDoor.Lib
attribute [local go_sem] max2_int min2_int max_two min_two max_three min_three max_four min_four   -- for this text's walks alone
set_option linter.unusedVariables false
set_option linter.unusedSimpArgs false

/-! ### laws_FnExactDeskDo: function 3 -/
mutual
def laws_FnExactDeskDo.j0 : Nat → Bool → Bool → Bool → Int → Int → List (S23) → Int → ByteArray → Int → Int → List (S31) → Int → Int → List (S31) → Int → Int → List (S31) → Option (Bool)
 | 0, _, _, _, _, _, _, _, _, _, _, _, _, _, _, _, _, _ => none
 | k + 1, x7, x10, x51, x416000, x416001, x416002, x417000, x417001, x433000, x433001, x433002, x439000, x439001, x439002, x448000, x448001, x448002 => if x51 = true then (some false) else ((laws_toDesk.f k x416000 x416001 x416002).bind fun bt449 => ((laws_eqDesk.f k x439000 x439001 x439002 bt449.1 bt449.2.1 bt449.2.2).bind fun t454 => (if t454 = true then ((laws_markDesk.f k x439000 x439001 x439002 1).bind fun bt455 => (if bt455.1 < 0 then (laws_FnExactDeskDo.j1 k x7 true x416000 x416001 x416002 x417000 x417001 x433000 x433001 x433002 x448000 x448001 x448002) else ((laws_eqDesk.f k x448000 x448001 x448002 x433000 x433001 x433002).bind fun t457 => (if t457 = true then (laws_FnExactDeskDo.j1 k x7 (x10 != x7) x416000 x416001 x416002 x417000 x417001 x433000 x433001 x433002 x448000 x448001 x448002) else (laws_FnExactDeskDo.j1 k x7 true x416000 x416001 x416002 x417000 x417001 x433000 x433001 x433002 x448000 x448001 x448002))))) else (some false))))
def laws_FnExactDeskDo.j1 : Nat → Bool → Bool → Int → Int → List (S23) → Int → ByteArray → Int → Int → List (S31) → Int → Int → List (S31) → Option (Bool)
 | 0, _, _, _, _, _, _, _, _, _, _, _, _, _ => none
 | k + 1, x7, x72, x416000, x416001, x416002, x417000, x417001, x433000, x433001, x433002, x448000, x448001, x448002 => if x72 = true then (some false) else ((laws_markDesk.f k x448000 x448001 x448002 1).bind fun bt458 => ((laws_heldDesk.f k x448000 x448001 bt458.2 1).bind fun t460 => (if t460 < 0 then (some false) else (if t460 = bt458.1 then ((laws_toDesk.f k x416000 x416001 x416002).bind fun bt461 => ((laws_toDeed.f x417000 x417001).bind fun bt466 => ((impl_DeskDo.f k bt461.1 bt461.2.1 bt461.2.2 bt466.1 bt466.2).bind fun bt468 => ((laws_eqDesk.f k bt468.1 bt468.2.1 bt468.2.2.1 x433000 x433001 x433002).bind fun t475 => (if t475 = true then (laws_FnExactDeskDo.j2 k bt458.1 (bt468.2.2.2 != x7) x448000 x448001 bt458.2) else (laws_FnExactDeskDo.j2 k bt458.1 true x448000 x448001 bt458.2)))))) else (some false)))))
def laws_FnExactDeskDo.j2 : Nat → Int → Bool → Int → Int → List (S31) → Option (Bool)
 | 0, _, _, _, _, _ => none
 | k + 1, x12, x100, x448000, x448001, x448002 => if x100 = true then (some false) else ((laws_heldDesk.f k x448000 x448001 x448002 1).bind fun t476 => (if t476 < 0 then (some false) else (if t476 = x12 then (some true) else (some false))))
end
def laws_FnExactDeskDo.f (k : Nat) (a0_0 : Int) (a0_1 : Int) (l0_2 : List (S23)) (a1_0 : Int) (a1_1 : ByteArray) : Option (Bool) := (laws_szDesk.f a0_0 a0_1 l0_2 1048576).bind fun t417 => (if t417 < 0 then (some true) else ((laws_szDeed.f a1_0 a1_1 t417).bind fun t418 => (if t418 < 0 then (some true) else ((laws_toDesk.f k a0_0 a0_1 l0_2).bind fun bt419 => ((laws_toDeed.f a1_0 a1_1).bind fun bt424 => ((spec_DeskDo.f k bt419.1 bt419.2.1 bt419.2.2 bt424.1 bt424.2).bind fun bt426 => ((laws_toDesk.f k a0_0 a0_1 l0_2).bind fun bt433 => ((laws_toDeed.f a1_0 a1_1).bind fun bt439 => ((impl_DeskDo.f k bt433.1 bt433.2.1 bt433.2.2 bt439.1 bt439.2).bind fun bt441 => ((laws_eqDesk.f k bt441.1 bt441.2.1 bt441.2.2.1 bt426.1 bt426.2.1 bt426.2.2.1).bind fun t448 => (if t448 = true then (laws_FnExactDeskDo.j0 k bt426.2.2.2 bt441.2.2.2 (bt441.2.2.2 != bt426.2.2.2) a0_0 a0_1 l0_2 a1_0 a1_1 bt426.1 bt426.2.1 bt426.2.2.1 bt433.1 bt433.2.1 bt433.2.2 bt441.1 bt441.2.1 bt441.2.2.1) else (laws_FnExactDeskDo.j0 k bt426.2.2.2 bt441.2.2.2 true a0_0 a0_1 l0_2 a1_0 a1_1 bt426.1 bt426.2.1 bt426.2.2.1 bt433.1 bt433.2.1 bt433.2.2 bt441.1 bt441.2.1 bt441.2.2.1))))))))))))
theorem laws_FnExactDeskDo.mono_l : ∀ k, (∀ y0 y1 y2 y3 y4 y5 y6 y7 y8 y9 y10 y11 y12 y13 y14 y15 y16, LeO (laws_FnExactDeskDo.j0 k y0 y1 y2 y3 y4 y5 y6 y7 y8 y9 y10 y11 y12 y13 y14 y15 y16) (laws_FnExactDeskDo.j0 (k + 1) y0 y1 y2 y3 y4 y5 y6 y7 y8 y9 y10 y11 y12 y13 y14 y15 y16)) ∧ (∀ y0 y1 y2 y3 y4 y5 y6 y7 y8 y9 y10 y11 y12, LeO (laws_FnExactDeskDo.j1 k y0 y1 y2 y3 y4 y5 y6 y7 y8 y9 y10 y11 y12) (laws_FnExactDeskDo.j1 (k + 1) y0 y1 y2 y3 y4 y5 y6 y7 y8 y9 y10 y11 y12)) ∧ (∀ y0 y1 y2 y3 y4, LeO (laws_FnExactDeskDo.j2 k y0 y1 y2 y3 y4) (laws_FnExactDeskDo.j2 (k + 1) y0 y1 y2 y3 y4))
 | 0 => ⟨fun _ _ _ _ _ _ _ _ _ _ _ _ _ _ _ _ _ r h => by simp [laws_FnExactDeskDo.j0] at h, fun _ _ _ _ _ _ _ _ _ _ _ _ _ r h => by simp [laws_FnExactDeskDo.j1] at h, fun _ _ _ _ _ r h => by simp [laws_FnExactDeskDo.j2] at h⟩
 | k + 1 => by
  obtain ⟨ih0, ih1, ih2⟩ := laws_FnExactDeskDo.mono_l k
  refine ⟨?_, ?_, ?_⟩
  ·intro y0 y1 y2 y3 y4 y5 y6 y7 y8 y9 y10 y11 y12 y13 y14 y15 y16
   unfold laws_FnExactDeskDo.j0
   repeat' first
   | (with_reducible exact ih0 _ _ _ _ _ _ _ _ _ _ _ _ _ _ _ _ _)
   | (with_reducible exact ih1 _ _ _ _ _ _ _ _ _ _ _ _ _)
   | (with_reducible exact ih2 _ _ _ _ _)
   | (with_reducible exact impl_DeskDo.mono _ _ _ _ _ _)
   | (with_reducible exact laws_eqDesk.mono _ _ _ _ _ _ _)
   | (with_reducible exact laws_heldDesk.mono _ _ _ _ _)
   | (with_reducible exact laws_markDesk.mono _ _ _ _ _)
   | (with_reducible exact laws_toDesk.mono _ _ _ _)
   | (with_reducible exact spec_DeskDo.mono _ _ _ _ _ _)
   | (with_reducible exact LeO.refl _)
   | (with_reducible exact LeO.none _)
   | (with_reducible refine LeO.ite ?_ ?_)
   | (with_reducible refine LeO.bind ?_ (fun _ => ?_))
  ·intro y0 y1 y2 y3 y4 y5 y6 y7 y8 y9 y10 y11 y12
   unfold laws_FnExactDeskDo.j1
   repeat' first
   | (with_reducible exact ih0 _ _ _ _ _ _ _ _ _ _ _ _ _ _ _ _ _)
   | (with_reducible exact ih1 _ _ _ _ _ _ _ _ _ _ _ _ _)
   | (with_reducible exact ih2 _ _ _ _ _)
   | (with_reducible exact impl_DeskDo.mono _ _ _ _ _ _)
   | (with_reducible exact laws_eqDesk.mono _ _ _ _ _ _ _)
   | (with_reducible exact laws_heldDesk.mono _ _ _ _ _)
   | (with_reducible exact laws_markDesk.mono _ _ _ _ _)
   | (with_reducible exact laws_toDesk.mono _ _ _ _)
   | (with_reducible exact spec_DeskDo.mono _ _ _ _ _ _)
   | (with_reducible exact LeO.refl _)
   | (with_reducible exact LeO.none _)
   | (with_reducible refine LeO.ite ?_ ?_)
   | (with_reducible refine LeO.bind ?_ (fun _ => ?_))
  ·intro y0 y1 y2 y3 y4
   unfold laws_FnExactDeskDo.j2
   repeat' first
   | (with_reducible exact ih0 _ _ _ _ _ _ _ _ _ _ _ _ _ _ _ _ _)
   | (with_reducible exact ih1 _ _ _ _ _ _ _ _ _ _ _ _ _)
   | (with_reducible exact ih2 _ _ _ _ _)
   | (with_reducible exact impl_DeskDo.mono _ _ _ _ _ _)
   | (with_reducible exact laws_eqDesk.mono _ _ _ _ _ _ _)
   | (with_reducible exact laws_heldDesk.mono _ _ _ _ _)
   | (with_reducible exact laws_markDesk.mono _ _ _ _ _)
   | (with_reducible exact laws_toDesk.mono _ _ _ _)
   | (with_reducible exact spec_DeskDo.mono _ _ _ _ _ _)
   | (with_reducible exact LeO.refl _)
   | (with_reducible exact LeO.none _)
   | (with_reducible refine LeO.ite ?_ ?_)
   | (with_reducible refine LeO.bind ?_ (fun _ => ?_))
theorem laws_FnExactDeskDo.mono : ∀ a0 a1 a2 a3 a4 k, LeO (laws_FnExactDeskDo.f k a0 a1 a2 a3 a4) (laws_FnExactDeskDo.f (k + 1) a0 a1 a2 a3 a4) := by
 intro a0 a1 a2 a3 a4 k
 obtain ⟨ih0, ih1, ih2⟩ := laws_FnExactDeskDo.mono_l k
 unfold laws_FnExactDeskDo.f
 repeat' first
   | (with_reducible exact ih0 _ _ _ _ _ _ _ _ _ _ _ _ _ _ _ _ _)
   | (with_reducible exact ih1 _ _ _ _ _ _ _ _ _ _ _ _ _)
   | (with_reducible exact ih2 _ _ _ _ _)
   | (with_reducible exact impl_DeskDo.mono _ _ _ _ _ _)
   | (with_reducible exact laws_eqDesk.mono _ _ _ _ _ _ _)
   | (with_reducible exact laws_heldDesk.mono _ _ _ _ _)
   | (with_reducible exact laws_markDesk.mono _ _ _ _ _)
   | (with_reducible exact laws_toDesk.mono _ _ _ _)
   | (with_reducible exact spec_DeskDo.mono _ _ _ _ _ _)
   | (with_reducible exact LeO.refl _)
   | (with_reducible exact LeO.none _)
   | (with_reducible refine LeO.ite ?_ ?_)
   | (with_reducible refine LeO.bind ?_ (fun _ => ?_))
def laws_FnExactDeskDo.T8 : Bool × List (List Nat × List Nat) := (true, [([], []), ([0], [0]), ([], []), ([2, 1], [2]), ([1, 3, 3], [1, 3]), ([4], [4]), ([5], [5]), ([5], [5]), ([], []), ([8, 6, 4, 0, 1, 2, 3, 4, 5, 6, 8], [6, 8]), ([7, 9, 0, 1, 2, 3, 4, 5, 6, 7, 8, 9], [7])])
def laws_FnExactDeskDo.B8 : List Nat := [0, 1, 0, 7, 15, 31, 63, 63, 0, 383, 1023]
theorem laws_FnExactDeskDo.tab8 : rtab .any (opsOf Tryz.f3 8) = laws_FnExactDeskDo.T8 := by kernel_rfl
theorem laws_FnExactDeskDo.bits8 : waitsOk laws_FnExactDeskDo.T8.2 laws_FnExactDeskDo.B8 = true := by kernel_rfl
def laws_FnExactDeskDo.T10 : Bool × List (List Nat × List Nat) := (true, [([], []), ([], []), ([1], [1]), ([0, 2, 2], [0, 2]), ([3], [3]), ([4], [4]), ([4], [4]), ([], []), ([7, 5, 3, 0, 1, 2, 3, 4, 5, 7], [5, 7]), ([6, 8, 0, 1, 2, 3, 4, 5, 6, 7, 8], [6])])
def laws_FnExactDeskDo.B10 : List Nat := [0, 0, 2, 7, 15, 31, 31, 0, 191, 511]
theorem laws_FnExactDeskDo.tab10 : rtab .any (opsOf Tryz.f3 10) = laws_FnExactDeskDo.T10 := by kernel_rfl
theorem laws_FnExactDeskDo.bits10 : waitsOk laws_FnExactDeskDo.T10.2 laws_FnExactDeskDo.B10 = true := by kernel_rfl
def laws_FnExactDeskDo.T27 : Bool × List (List Nat × List Nat) := (true, [([], []), ([0], [0]), ([], []), ([2, 1], [2]), ([1, 3, 3], [1, 3]), ([4], [4]), ([5], [5]), ([5], [5]), ([], []), ([8, 6, 4, 0, 1, 2, 3, 4, 5, 6, 8], [6, 8]), ([7, 9, 0, 1, 2, 3, 4, 5, 6, 7, 8, 9], [7])])
def laws_FnExactDeskDo.B27 : List Nat := [0, 1, 0, 7, 15, 31, 63, 63, 0, 383, 1023]
theorem laws_FnExactDeskDo.tab27 : rtab .any (opsOf Tryz.f3 27) = laws_FnExactDeskDo.T27 := by kernel_rfl
theorem laws_FnExactDeskDo.bits27 : waitsOk laws_FnExactDeskDo.T27.2 laws_FnExactDeskDo.B27 = true := by kernel_rfl
set_option maxHeartbeats 8000000 in
set_option maxRecDepth 100000 in
theorem laws_FnExactDeskDo.calls (k : Nat) (a0_0 : Int) (a0_1 : Int) (A0_2 : Option Addr) (c0_2 : Nat) (l0_2 : List (S23)) (a1_0 : Int) (a1_1 : ByteArray) (r : Bool) (w : World) (hG : Glob w) (hr0_2 : Kd.C k23 w A0_2 l0_2.length l0_2) (hc0_2 : l0_2.length ≤ c0_2) (hT : Aside0 (r = true)) (h : laws_FnExactDeskDo.f k a0_0 a0_1 l0_2 a1_0 a1_1 = some r) :
  Calls Tryz.prog 3 #[.agg #[.int .i64 a0_0, .int .i64 a0_1, .slice A0_2 l0_2.length c0_2], .agg #[.int .i64 a1_0, .string a1_1]] w fun e w' => e = .returned (.bool r) ∧ Below w.heap.size w w' := by
 have hu26 := Tryz.underlying26
 have hu28 := Tryz.underlying28
 have hu34 := Tryz.underlying34
 have HR0_2 := Aside0.mk hr0_2
 have HC0_2 := Aside0.mk hc0_2
 clear hr0_2 hc0_2
 have HB := Aside0.mk (Below.refl w.heap.size w)
 have H : ((laws_szDesk.f a0_0 a0_1 l0_2 1048576).bind fun t417 => (if t417 < 0 then (some true) else ((laws_szDeed.f a1_0 a1_1 t417).bind fun t418 => (if t418 < 0 then (some true) else ((laws_toDesk.f k a0_0 a0_1 l0_2).bind fun bt419 => ((laws_toDeed.f a1_0 a1_1).bind fun bt424 => ((spec_DeskDo.f k bt419.1 bt419.2.1 bt419.2.2 bt424.1 bt424.2).bind fun bt426 => ((laws_toDesk.f k a0_0 a0_1 l0_2).bind fun bt433 => ((laws_toDeed.f a1_0 a1_1).bind fun bt439 => ((impl_DeskDo.f k bt433.1 bt433.2.1 bt433.2.2 bt439.1 bt439.2).bind fun bt441 => ((laws_eqDesk.f k bt441.1 bt441.2.1 bt441.2.2.1 bt426.1 bt426.2.1 bt426.2.2.1).bind fun t448 => (if t448 = true then (laws_FnExactDeskDo.j0 k bt426.2.2.2 bt441.2.2.2 (bt441.2.2.2 != bt426.2.2.2) a0_0 a0_1 l0_2 a1_0 a1_1 bt426.1 bt426.2.1 bt426.2.2.1 bt433.1 bt433.2.1 bt433.2.2 bt441.1 bt441.2.1 bt441.2.2.1) else (laws_FnExactDeskDo.j0 k bt426.2.2.2 bt441.2.2.2 true a0_0 a0_1 l0_2 a1_0 a1_1 bt426.1 bt426.2.1 bt426.2.2.1 bt433.1 bt433.2.1 bt433.2.2 bt441.1 bt441.2.1 bt441.2.2.1))))))))))))) = some r := h
 clear h
 obtain ⟨t417, A3, H⟩ := sqD H
 by_cases c4 : t417 < 0
 ·rw [if_pos c4] at H
  have c4b0 : decide (t417 < 0) = true := decide_eq_true c4
  clear c4
  obtain rfl := Option.some.inj H
  go_enter Tryz.func3, Tryz.ntmps3
  go_wp2_with (first | ((with_reducible refine gate_dst (N := 2) rfl ?_); refine sqBox (N := 2) (cs := #[.int .i64 a0_0, .int .i64 a0_1, .slice A0_2 l0_2.length c0_2]) (t := 26) ?_; intro gb415 hg w5 BK415 hb; have GW415 := Aside0.mk ((sqG hg (sqB HB))); have GE415 := GW415; replace HB := sqS (sqB HB) hb; clear hb hg) | ((with_reducible refine gate_dst (N := 3) rfl ?_); refine sqBox (N := 3) (cs := #[.int .i64 a1_0, .string a1_1]) (t := 28) ?_; intro gb416 hg w6 BK416 hb; have GW416 := Aside0.mk ((sqG hg (sqB1 HB GE415))); have GE416 := GW416; replace HB := sqS (sqB1 HB GE415) hb; obtain ⟨NB415_416, NB416_415⟩ := sqM hg BK415; replace BK415 := sqT BK415 hb; clear hb hg; have hnb7 := NB415_416.out; have hnc7 := NB416_415.out; obtain ⟨hcz8_0, hcz8_1, hcz8_2, hfz8_0, hfz8_1, hfz8_2⟩ := sqY3 BK415) | ((with_reducible refine gate_callee (f := 12) rfl ?_); refine goesL_ (some 18) rfl rfl Tryz.func12 (by kernel_rfl) rfl #[.agg #[.int .i64 a0_0, .int .i64 a0_1, .slice A0_2 l0_2.length c0_2], .int .i64 1048576] rfl sqA ?_; (with_reducible refine (laws_szDesk.calls a0_0 a0_1 _ _ l0_2 1048576 t417 _ ?side1 ?side2 A3.out).mono ?_); (case side1 => exact Z5); (case side2 => exact Z6); rintro e w9 ⟨rfl, hb⟩; refine ⟨_, rfl, ?_⟩; replace BK415 := sqT BK415 hb; replace BK416 := sqT BK416 hb; replace HB := sqS (sqB2 HB GE415 GE416) hb; (try clear hb)))
  go_ret
  exact ⟨Z3, sqB2 HB GE415 GE416⟩
 ·rw [if_neg c4] at H
  have c4b0 : decide (t417 < 0) = false := decide_eq_false c4
  clear c4
  obtain ⟨t418, A10, H⟩ := sqD H
  by_cases c11 : t418 < 0
  ·rw [if_pos c11] at H
   have c11b0 : decide (t418 < 0) = true := decide_eq_true c11
   clear c11
   obtain rfl := Option.some.inj H
   go_enter Tryz.func3, Tryz.ntmps3
   go_wp2_with (first | ((with_reducible refine gate_dst (N := 2) rfl ?_); refine sqBox (N := 2) (cs := #[.int .i64 a0_0, .int .i64 a0_1, .slice A0_2 l0_2.length c0_2]) (t := 26) ?_; intro gb415 hg w12 BK415 hb; have GW415 := Aside0.mk ((sqG hg (sqB HB))); have GE415 := GW415; replace HB := sqS (sqB HB) hb; clear hb hg) | ((with_reducible refine gate_dst (N := 3) rfl ?_); refine sqBox (N := 3) (cs := #[.int .i64 a1_0, .string a1_1]) (t := 28) ?_; intro gb416 hg w13 BK416 hb; have GW416 := Aside0.mk ((sqG hg (sqB1 HB GE415))); have GE416 := GW416; replace HB := sqS (sqB1 HB GE415) hb; obtain ⟨NB415_416, NB416_415⟩ := sqM hg BK415; replace BK415 := sqT BK415 hb; clear hb hg; have hnb14 := NB415_416.out; have hnc14 := NB416_415.out; obtain ⟨hcz15_0, hcz15_1, hcz15_2, hfz15_0, hfz15_1, hfz15_2⟩ := sqY3 BK415) | ((with_reducible refine gate_callee (f := 12) rfl ?_); refine goesL_ (some 18) rfl rfl Tryz.func12 (by kernel_rfl) rfl #[.agg #[.int .i64 a0_0, .int .i64 a0_1, .slice A0_2 l0_2.length c0_2], .int .i64 1048576] rfl sqA ?_; (with_reducible refine (laws_szDesk.calls a0_0 a0_1 _ _ l0_2 1048576 t417 _ ?side1 ?side2 A3.out).mono ?_); (case side1 => exact Z5); (case side2 => exact Z6); rintro e w16 ⟨rfl, hb⟩; refine ⟨_, rfl, ?_⟩; replace BK415 := sqT BK415 hb; replace BK416 := sqT BK416 hb; replace HB := sqS (sqB2 HB GE415 GE416) hb; (try clear hb); obtain ⟨hcz17_0, hcz17_1, hfz17_0, hfz17_1⟩ := sqY2 BK416) | ((with_reducible refine gate_callee (f := 13) rfl ?_); refine goesL_ (some 23) rfl rfl Tryz.func13 (by kernel_rfl) rfl #[.agg #[.int .i64 a1_0, .string a1_1], .int .i64 t417] rfl sqA ?_; (with_reducible refine (laws_szDeed.calls a1_0 a1_1 t417 t418 _ A10.out).mono ?_); rintro e w18 ⟨rfl, hb⟩; refine ⟨_, rfl, ?_⟩; replace BK415 := sqT BK415 hb; replace BK416 := sqT BK416 hb; replace HB := sqS (sqB2 HB GE415 GE416) hb; (try clear hb)))
   go_ret
   exact ⟨Z3, sqB2 HB GE415 GE416⟩
  ·rw [if_neg c11] at H
   have c11b0 : decide (t418 < 0) = false := decide_eq_false c11
   clear c11
   replace H := Option.bind_eq_some_iff.mp H
   obtain ⟨⟨t419, t420, t421⟩, A190, H⟩ := H
   replace H : ((laws_toDeed.f a1_0 a1_1).bind fun bt424 => ((spec_DeskDo.f k t419 t420 t421 bt424.1 bt424.2).bind fun bt426 => ((laws_toDesk.f k a0_0 a0_1 l0_2).bind fun bt433 => ((laws_toDeed.f a1_0 a1_1).bind fun bt439 => ((impl_DeskDo.f k bt433.1 bt433.2.1 bt433.2.2 bt439.1 bt439.2).bind fun bt441 => ((laws_eqDesk.f k bt441.1 bt441.2.1 bt441.2.2.1 bt426.1 bt426.2.1 bt426.2.2.1).bind fun t448 => (if t448 = true then (laws_FnExactDeskDo.j0 k bt426.2.2.2 bt441.2.2.2 (bt441.2.2.2 != bt426.2.2.2) a0_0 a0_1 l0_2 a1_0 a1_1 bt426.1 bt426.2.1 bt426.2.2.1 bt433.1 bt433.2.1 bt433.2.2 bt441.1 bt441.2.1 bt441.2.2.1) else (laws_FnExactDeskDo.j0 k bt426.2.2.2 bt441.2.2.2 true a0_0 a0_1 l0_2 a1_0 a1_1 bt426.1 bt426.2.1 bt426.2.2.1 bt433.1 bt433.2.1 bt433.2.2 bt441.1 bt441.2.1 bt441.2.2.1)))))))) = some r := H
   have A19 := Aside0.mk A190
   clear A190
   replace H := Option.bind_eq_some_iff.mp H
   obtain ⟨⟨t424, t425⟩, A200, H⟩ := H
   replace H : ((spec_DeskDo.f k t419 t420 t421 t424 t425).bind fun bt426 => ((laws_toDesk.f k a0_0 a0_1 l0_2).bind fun bt433 => ((laws_toDeed.f a1_0 a1_1).bind fun bt439 => ((impl_DeskDo.f k bt433.1 bt433.2.1 bt433.2.2 bt439.1 bt439.2).bind fun bt441 => ((laws_eqDesk.f k bt441.1 bt441.2.1 bt441.2.2.1 bt426.1 bt426.2.1 bt426.2.2.1).bind fun t448 => (if t448 = true then (laws_FnExactDeskDo.j0 k bt426.2.2.2 bt441.2.2.2 (bt441.2.2.2 != bt426.2.2.2) a0_0 a0_1 l0_2 a1_0 a1_1 bt426.1 bt426.2.1 bt426.2.2.1 bt433.1 bt433.2.1 bt433.2.2 bt441.1 bt441.2.1 bt441.2.2.1) else (laws_FnExactDeskDo.j0 k bt426.2.2.2 bt441.2.2.2 true a0_0 a0_1 l0_2 a1_0 a1_1 bt426.1 bt426.2.1 bt426.2.2.1 bt433.1 bt433.2.1 bt433.2.2 bt441.1 bt441.2.1 bt441.2.2.1))))))) = some r := H
   have A20 := Aside0.mk A200
   clear A200
   replace H := Option.bind_eq_some_iff.mp H
   obtain ⟨⟨t426, t427, t428, t431⟩, A210, H⟩ := H
   replace H : ((laws_toDesk.f k a0_0 a0_1 l0_2).bind fun bt433 => ((laws_toDeed.f a1_0 a1_1).bind fun bt439 => ((impl_DeskDo.f k bt433.1 bt433.2.1 bt433.2.2 bt439.1 bt439.2).bind fun bt441 => ((laws_eqDesk.f k bt441.1 bt441.2.1 bt441.2.2.1 t426 t427 t428).bind fun t448 => (if t448 = true then (laws_FnExactDeskDo.j0 k t431 bt441.2.2.2 (bt441.2.2.2 != t431) a0_0 a0_1 l0_2 a1_0 a1_1 t426 t427 t428 bt433.1 bt433.2.1 bt433.2.2 bt441.1 bt441.2.1 bt441.2.2.1) else (laws_FnExactDeskDo.j0 k t431 bt441.2.2.2 true a0_0 a0_1 l0_2 a1_0 a1_1 t426 t427 t428 bt433.1 bt433.2.1 bt433.2.2 bt441.1 bt441.2.1 bt441.2.2.1)))))) = some r := H
   have A21 := Aside0.mk A210
   clear A210
   replace H := Option.bind_eq_some_iff.mp H
   obtain ⟨⟨t433, t434, t435⟩, A220, H⟩ := H
   replace H : ((laws_toDeed.f a1_0 a1_1).bind fun bt439 => ((impl_DeskDo.f k t433 t434 t435 bt439.1 bt439.2).bind fun bt441 => ((laws_eqDesk.f k bt441.1 bt441.2.1 bt441.2.2.1 t426 t427 t428).bind fun t448 => (if t448 = true then (laws_FnExactDeskDo.j0 k t431 bt441.2.2.2 (bt441.2.2.2 != t431) a0_0 a0_1 l0_2 a1_0 a1_1 t426 t427 t428 t433 t434 t435 bt441.1 bt441.2.1 bt441.2.2.1) else (laws_FnExactDeskDo.j0 k t431 bt441.2.2.2 true a0_0 a0_1 l0_2 a1_0 a1_1 t426 t427 t428 t433 t434 t435 bt441.1 bt441.2.1 bt441.2.2.1))))) = some r := H
   have A22 := Aside0.mk A220
   clear A220
   replace H := Option.bind_eq_some_iff.mp H
   obtain ⟨⟨t439, t440⟩, A230, H⟩ := H
   replace H : ((impl_DeskDo.f k t433 t434 t435 t439 t440).bind fun bt441 => ((laws_eqDesk.f k bt441.1 bt441.2.1 bt441.2.2.1 t426 t427 t428).bind fun t448 => (if t448 = true then (laws_FnExactDeskDo.j0 k t431 bt441.2.2.2 (bt441.2.2.2 != t431) a0_0 a0_1 l0_2 a1_0 a1_1 t426 t427 t428 t433 t434 t435 bt441.1 bt441.2.1 bt441.2.2.1) else (laws_FnExactDeskDo.j0 k t431 bt441.2.2.2 true a0_0 a0_1 l0_2 a1_0 a1_1 t426 t427 t428 t433 t434 t435 bt441.1 bt441.2.1 bt441.2.2.1)))) = some r := H
   have A23 := Aside0.mk A230
   clear A230
   replace H := Option.bind_eq_some_iff.mp H
   obtain ⟨⟨t441, t442, t443, t446⟩, A240, H⟩ := H
   replace H : ((laws_eqDesk.f k t441 t442 t443 t426 t427 t428).bind fun t448 => (if t448 = true then (laws_FnExactDeskDo.j0 k t431 t446 (t446 != t431) a0_0 a0_1 l0_2 a1_0 a1_1 t426 t427 t428 t433 t434 t435 t441 t442 t443) else (laws_FnExactDeskDo.j0 k t431 t446 true a0_0 a0_1 l0_2 a1_0 a1_1 t426 t427 t428 t433 t434 t435 t441 t442 t443))) = some r := H
   have A24 := Aside0.mk A240
   clear A240
   have HC25 := Aside0.mk H
   clear H
   go_enter Tryz.func3, Tryz.ntmps3
   try go_wp2_with (first | ((with_reducible refine gate_dst (N := 2) rfl ?_); refine sqBox (N := 2) (cs := #[.int .i64 a0_0, .int .i64 a0_1, .slice A0_2 l0_2.length c0_2]) (t := 26) ?_; intro gb415 hg w26 BK415 hb; have GW415 := Aside0.mk ((sqG hg (sqB HB))); have GE415 := GW415; replace HB := sqS (sqB HB) hb; clear hb hg) | ((with_reducible refine gate_dst (N := 3) rfl ?_); refine sqBox (N := 3) (cs := #[.int .i64 a1_0, .string a1_1]) (t := 28) ?_; intro gb416 hg w27 BK416 hb; have GW416 := Aside0.mk ((sqG hg (sqB1 HB GE415))); have GE416 := GW416; replace HB := sqS (sqB1 HB GE415) hb; obtain ⟨NB415_416, NB416_415⟩ := sqM hg BK415; replace BK415 := sqT BK415 hb; clear hb hg; have hnb28 := NB415_416.out; have hnc28 := NB416_415.out; obtain ⟨hcz29_0, hcz29_1, hcz29_2, hfz29_0, hfz29_1, hfz29_2⟩ := sqY3 BK415) | ((with_reducible refine gate_callee (f := 12) rfl ?_); refine goesL_ (some 18) rfl rfl Tryz.func12 (by kernel_rfl) rfl #[.agg #[.int .i64 a0_0, .int .i64 a0_1, .slice A0_2 l0_2.length c0_2], .int .i64 1048576] rfl sqA ?_; (with_reducible refine (laws_szDesk.calls a0_0 a0_1 _ _ l0_2 1048576 t417 _ ?side1 ?side2 A3.out).mono ?_); (case side1 => exact Z5); (case side2 => exact Z6); rintro e w30 ⟨rfl, hb⟩; refine ⟨_, rfl, ?_⟩; replace BK415 := sqT BK415 hb; replace BK416 := sqT BK416 hb; replace HB := sqS (sqB2 HB GE415 GE416) hb; (try clear hb); obtain ⟨hcz31_0, hcz31_1, hfz31_0, hfz31_1⟩ := sqY2 BK416) | ((with_reducible refine gate_callee (f := 13) rfl ?_); refine goesL_ (some 23) rfl rfl Tryz.func13 (by kernel_rfl) rfl #[.agg #[.int .i64 a1_0, .string a1_1], .int .i64 t417] rfl sqA ?_; (with_reducible refine (laws_szDeed.calls a1_0 a1_1 t417 t418 _ A10.out).mono ?_); rintro e w32 ⟨rfl, hb⟩; refine ⟨_, rfl, ?_⟩; replace BK415 := sqT BK415 hb; replace BK416 := sqT BK416 hb; replace HB := sqS (sqB2 HB GE415 GE416) hb; (try clear hb)))
   replace BK415 := Aside0.mk (blk_drew BK415.out)
   replace BK416 := Aside0.mk (blk_drew BK416.out)
   replace HB := Aside0.mk (below_drew1 HB.out)
   refine start_ (n := 11) (S := fun w' => w'.cell? ⟨gb415, 0, none⟩ = some (.int .i64 a0_0) ∧ w'.cell? ⟨gb415, 1, none⟩ = some (.int .i64 a0_1) ∧ w'.cell? ⟨gb415, 2, none⟩ = some (.slice A0_2 l0_2.length c0_2) ∧ w'.cell? ⟨gb416, 0, none⟩ = some (.int .i64 a1_0) ∧ w'.cell? ⟨gb416, 1, none⟩ = some (.string a1_1)) (ds := []) #[false, false, false, false, false, false, false, false, false, false, false] (by kernel_rfl) rfl rfl ⟨(blk_cell BK415.out 0).trans rfl, (blk_cell BK415.out 1).trans rfl, (blk_cell BK415.out 2).trans rfl, (blk_cell BK416.out 0).trans rfl, (blk_cell BK416.out 1).trans rfl⟩ (fun hHeld => ?_); refine with_tabW laws_FnExactDeskDo.tab8 laws_FnExactDeskDo.bits8 (fun HT_ HW_ => ?_)
   generalize w32.drew = w33 at BK415 BK416 HB hHeld ⊢
   refine take_ (i := 0) (N := some 27) (v := ?_) (a' := ?_) #[true, false, false, false, false, false, false, false, false, false, false] rfl rfl (take_ofW HT_.out HW_.out (by kernel_rfl)) (fun _ _ _ h => h) (Or.inl ⟨by rfl, ?_⟩) hHeld ?_ ?_
   rotate_left
   ·rintro w' ⟨s0, s1, s2, s3, s4⟩
    go_simp
    with_reducible rfl
   rotate_left
   ·simp only [Act.put, List.setIfInBounds_toArray, List.set_cons_zero, List.set_cons_succ, i64_w, i32_w]
    rfl
   refine take_ (i := 2) (N := some 29) (v := ?_) (a' := ?_) #[true, false, true, false, false, false, false, false, false, false, false] rfl rfl (take_ofW HT_.out HW_.out (by kernel_rfl)) (fun _ _ _ h => h) (Or.inl ⟨by rfl, ?_⟩) hHeld ?_ ?_
   rotate_left
   ·rintro w' ⟨s0, s1, s2, s3, s4⟩
    go_simp
    with_reducible rfl
   rotate_left
   ·simp only [Act.put, List.setIfInBounds_toArray, List.set_cons_zero, List.set_cons_succ, i64_w, i32_w]
    rfl
   refine join_ (σ := Value × Value × Nat) 2 #[true, true, true, true, true, true, true, true, true, false, false] (fun s_ => [(28, .agg #[.int .i64 t419, .int .i64 t420, s_.1]), (30, .agg #[.int .i64 t424, .string t425]), (31, .tuple #[.agg #[.int .i64 t426, .int .i64 t427, s_.2.1], .bool t431]), (6, .pointer (some ⟨s_.2.2, 0, none⟩)), (26, .tuple #[.agg #[.int .i64 t426, .int .i64 t427, s_.2.1], .bool t431]), (32, .agg #[.int .i64 t426, .int .i64 t427, s_.2.1]), (33, .bool t431)]) (fun s_ w' => (w'.cell? ⟨gb415, 0, none⟩ = some (.int .i64 a0_0) ∧ w'.cell? ⟨gb415, 1, none⟩ = some (.int .i64 a0_1) ∧ w'.cell? ⟨gb415, 2, none⟩ = some (.slice A0_2 l0_2.length c0_2) ∧ w'.cell? ⟨gb416, 0, none⟩ = some (.int .i64 a1_0) ∧ w'.cell? ⟨gb416, 1, none⟩ = some (.string a1_1)) ∧ (Kd.R k31 31 w' w.heap.size (fun k_ => some k_ ≠ (s_.2.1 : Value).ownBlock) s_.1 t421) ∧ (Kd.Q k31 31 w' w.heap.size (fun k_ => some k_ ≠ (s_.1 : Value).ownBlock) s_.2.1 t428) ∧ (w'.heap[gb415]? = some (.cells #[.int .i64 a0_0, .int .i64 a0_1, .slice A0_2 l0_2.length c0_2] 26 (0, 0))) ∧ (w'.heap[gb416]? = some (.cells #[.int .i64 a1_0, .string a1_1] 28 (0, 0))) ∧ (w'.heap[s_.2.2]? = some (.cells #[.int .i64 0, .int .i64 0, .slice none 0 0] 34 (0, 0))) ∧ (w.heap.size ≤ s_.2.2) ∧ (w.heap.size ≤ s_.2.2) ∧ (gb415 ≠ s_.2.2) ∧ (s_.2.2 ≠ gb415) ∧ (gb416 ≠ s_.2.2) ∧ (s_.2.2 ≠ gb416) ∧ (Below w.heap.size w w')) ?_ ?_
   rotate_left
   ·intro hCont
    refine two_ (i := 1) (j := 8) (Ni := some 28) (Nj := some 6) #[true, true, true, false, false, false, false, false, false, false, false] #[true, false, true, false, false, false, false, false, true, false, false] rfl rfl rfl rfl (two_of HT_.out (by kernel_rfl)) (by decide) (by decide) (fun K hK => ?_) (fun K hK => ?_)
    ·skip
     refine goes_ Tryz.func15 (by kernel_rfl) rfl #[.agg #[.int .i64 a0_0, .int .i64 a0_1, .slice A0_2 l0_2.length c0_2]] (by rfl) rfl rfl sqA ?_
     with_reducible refine (laws_toDesk.calls k a0_0 a0_1 _ _ l0_2 t419 t420 t421 _ ?side1 ?side2 A19.out).mono ?_
     (case side1 => exact Z5)
     (case side2 => exact Z6)
     rintro e w34 ⟨v422, rfl, ho0, hb⟩
     refine ⟨_, rfl, ?_⟩
     have HO423 := sqL ho0 (sqB2 HB GE415 GE416)
     replace BK415 := sqT BK415 hb
     replace BK416 := sqT BK416 hb
     replace HB := sqS (sqB2 HB GE415 GE416) hb
     (try clear hb)
     (try clear hb2)
     (try clear hk)
     (try clear hi)
     (try clear ho0)
     refine hK.out _ _ ⟨(blk_cell BK415.out 0).trans rfl, (blk_cell BK415.out 1).trans rfl, (blk_cell BK415.out 2).trans rfl, (blk_cell BK416.out 0).trans rfl, (blk_cell BK416.out 1).trans rfl⟩ (fun hHeld => ?_)
     clear hK K
     refine sqN (some 28) ?_
     refine two_ (i := 3) (j := 8) (Ni := some 30) (Nj := some 6) #[true, true, true, true, false, false, false, false, false, false, false] #[true, true, true, false, false, false, false, false, true, false, false] rfl rfl rfl rfl (two_of HT_.out (by kernel_rfl)) (by decide) (by decide) (fun K hK => ?_) (fun K hK => ?_)
     ·skip
      refine goes_ Tryz.func16 (by kernel_rfl) rfl #[.agg #[.int .i64 a1_0, .string a1_1]] (by rfl) rfl rfl sqA ?_
      with_reducible refine (laws_toDeed.calls a1_0 a1_1 t424 t425 _ A20.out).mono ?_
      rintro e w35 ⟨rfl, hb⟩
      refine ⟨_, rfl, ?_⟩
      replace HO423 := sqU HO423 hb
      replace BK415 := sqT BK415 hb
      replace BK416 := sqT BK416 hb
      replace HB := sqS (sqB2 HB GE415 GE416) hb
      (try clear hb)
      (try clear hb2)
      (try clear hk)
      (try clear hi)
      obtain ⟨Ao36, co36, eo36⟩ := Kd.R_slice HO423.out
      (first | subst eo36 | (injection eo36 with f1_ f2_ f3_; have f4_ := f1_.symm; have f5_ := f3_.symm; clear f1_ f2_ f3_; subst f4_; subst f5_))
      refine hK.out _ _ ⟨(blk_cell BK415.out 0).trans rfl, (blk_cell BK415.out 1).trans rfl, (blk_cell BK415.out 2).trans rfl, (blk_cell BK416.out 0).trans rfl, (blk_cell BK416.out 1).trans rfl⟩ (fun hHeld => ?_)
      clear hK K
      refine sqN (some 30) ?_
      refine two_ (i := 4) (j := 8) (Ni := some 31) (Nj := some 6) #[true, true, true, true, true, false, false, false, false, false, false] #[true, true, true, true, false, false, false, false, true, false, false] rfl rfl rfl rfl (two_of HT_.out (by kernel_rfl)) (by decide) (by decide) (fun K hK => ?_) (fun K hK => ?_)
      ·skip
       refine goes_ Tryz.func14 (by kernel_rfl) rfl #[.agg #[.int .i64 t419, .int .i64 t420, .slice Ao36 t421.length co36], .agg #[.int .i64 t424, .string t425]] (by rfl) rfl rfl sqA ?_
       with_reducible refine (spec_DeskDo.calls k t419 t420 _ _ t421 t424 t425 t426 t427 t428 t431 _ ?side1 ?side2 A21.out).mono ?_
       (case side1 => exact Z28 HO423)
       (case side2 => exact Z29 HO423)
       rintro e w37 ⟨v429, rfl, ho0, hb⟩
       refine ⟨_, rfl, ?_⟩
       have HO430 := Aside0.mk (Kd.Q_lower (Kd.Q_new' ho0 (Kd.R_lt (sqR HO423))) (below_size (sqB2 HB GE415 GE416)))
       replace HO423 := Aside0.mk (Kd.R_elder' (sqR HO423) (Kd.Q_base ho0) hb)
       replace BK415 := sqT BK415 hb
       replace BK416 := sqT BK416 hb
       replace HB := sqS (sqB2 HB GE415 GE416) hb
       (try clear hb)
       (try clear hb2)
       (try clear hk)
       (try clear hi)
       (try clear ho0)
       refine hK.out _ _ ⟨(blk_cell BK415.out 0).trans rfl, (blk_cell BK415.out 1).trans rfl, (blk_cell BK415.out 2).trans rfl, (blk_cell BK416.out 0).trans rfl, (blk_cell BK416.out 1).trans rfl⟩ (fun hHeld => ?_)
       clear hK K
       refine sqN (some 31) ?_
       refine sqP (i := 5) (N := some 26) (h := ?_)
       refine sqP (i := 6) (N := some 32) (h := ?_)
       refine sqP (i := 7) (N := some 33) (h := ?_)
       refine one_ (i := 8) (N := some 6) #[true, true, true, true, true, true, true, true, true, false, false] rfl rfl (one_of HT_.out (by kernel_rfl)) (by decide) (fun K hK => ?_)
       refine box_step ?hg (N := 6) ?hd (cs := #[.int .i64 0, .int .i64 0, .slice none 0 0]) (t := 34) ?hr ?_; (case hd => rfl); (case hg => rfl); (case hr => exact Z7)
       intro gb432 hg w38 hbox hb
       replace HO423 := sqU HO423 hb
       replace HO430 := Aside0.mk (Kd.Q_below (Z27 HO430) hb)
       have BK432 := Aside0.mk (hbox)
       have GW432 := Aside0.mk ((sqG hg (sqB2 HB GE415 GE416)))
       have GE432 := Aside0.mk ((sqG hg (sqB2 HB GE415 GE416)))
       replace HB := sqS (sqB2 HB GE415 GE416) hb
       have NB415_432 := Aside0.mk ((Z40 BK415 : gb415 ≠ gb432))
       have NB432_415 := Aside0.mk ((Z41 BK415 : gb432 ≠ gb415))
       replace BK415 := sqT BK415 hb
       have NB416_432 := Aside0.mk ((Z40 BK416 : gb416 ≠ gb432))
       have NB432_416 := Aside0.mk ((Z41 BK416 : gb432 ≠ gb416))
       replace BK416 := sqT BK416 hb
       clear hb hbox hg
       refine hK.out _ _ ⟨(blk_cell BK415.out 0).trans rfl, (blk_cell BK415.out 1).trans rfl, (blk_cell BK415.out 2).trans rfl, (blk_cell BK416.out 0).trans rfl, (blk_cell BK416.out 1).trans rfl⟩ (fun hHeld => ?_)
       clear hK K
       refine sqN (some 6) ?_
       exact norm_ Z42 (hCont (.slice Ao36 t421.length co36, v429, gb432) _ ⟨hHeld, (Z57 HO423), (Z58 HO430), (sqK BK415), (sqK BK416), (sqK BK432), GW432.out, GE432.out, NB415_432.out, NB432_415.out, NB416_432.out, NB432_416.out, (sqB3 HB GE415 GE416 GE432)⟩)
      ·skip
       refine box_step ?hg (N := 6) ?hd (cs := #[.int .i64 0, .int .i64 0, .slice none 0 0]) (t := 34) ?hr ?_; (case hd => rfl); (case hg => rfl); (case hr => exact Z7)
       intro gb432 hg w36 hbox hb
       replace HO423 := sqU HO423 hb
       have BK432 := Aside0.mk (hbox)
       have GW432 := Aside0.mk ((sqG hg (sqB2 HB GE415 GE416)))
       have GE432 := Aside0.mk ((sqG hg (sqB2 HB GE415 GE416)))
       replace HB := sqS (sqB2 HB GE415 GE416) hb
       have NB415_432 := Aside0.mk ((Z40 BK415 : gb415 ≠ gb432))
       have NB432_415 := Aside0.mk ((Z41 BK415 : gb432 ≠ gb415))
       replace BK415 := sqT BK415 hb
       have NB416_432 := Aside0.mk ((Z40 BK416 : gb416 ≠ gb432))
       have NB432_416 := Aside0.mk ((Z41 BK416 : gb432 ≠ gb416))
       replace BK416 := sqT BK416 hb
       clear hb hbox hg
       obtain ⟨Ao37, co37, eo37⟩ := Kd.R_slice HO423.out
       (first | subst eo37 | (injection eo37 with f1_ f2_ f3_; have f4_ := f1_.symm; have f5_ := f3_.symm; clear f1_ f2_ f3_; subst f4_; subst f5_))
       refine hK.out _ _ ⟨(blk_cell BK415.out 0).trans rfl, (blk_cell BK415.out 1).trans rfl, (blk_cell BK415.out 2).trans rfl, (blk_cell BK416.out 0).trans rfl, (blk_cell BK416.out 1).trans rfl⟩ (fun hHeld => ?_)
       clear hK K
       refine sqN (some 6) ?_
       refine one_ (i := 4) (N := some 31) #[true, true, true, true, true, false, false, false, true, false, false] rfl rfl (one_of HT_.out (by kernel_rfl)) (by decide) (fun K hK => ?_)
       refine goes_ Tryz.func14 (by kernel_rfl) rfl #[.agg #[.int .i64 t419, .int .i64 t420, .slice Ao37 t421.length co37], .agg #[.int .i64 t424, .string t425]] (by rfl) rfl rfl sqA ?_
       with_reducible refine (spec_DeskDo.calls k t419 t420 _ _ t421 t424 t425 t426 t427 t428 t431 _ ?side1 ?side2 A21.out).mono ?_
       (case side1 => exact Z28 HO423)
       (case side2 => exact Z29 HO423)
       rintro e w38 ⟨v429, rfl, ho0, hb⟩
       refine ⟨_, rfl, ?_⟩
       have HO430 := Aside0.mk (Kd.Q_lower (Kd.Q_new' ho0 (Kd.R_lt (sqR HO423))) (below_size (sqB3 HB GE415 GE416 GE432)))
       replace HO423 := Aside0.mk (Kd.R_elder' (sqR HO423) (Kd.Q_base ho0) hb)
       replace BK415 := sqT BK415 hb
       replace BK416 := sqT BK416 hb
       replace BK432 := sqT BK432 hb
       replace HB := sqS (sqB3 HB GE415 GE416 GE432) hb
       (try clear hb)
       (try clear hb2)
       (try clear hk)
       (try clear hi)
       (try clear ho0)
       refine hK.out _ _ ⟨(blk_cell BK415.out 0).trans rfl, (blk_cell BK415.out 1).trans rfl, (blk_cell BK415.out 2).trans rfl, (blk_cell BK416.out 0).trans rfl, (blk_cell BK416.out 1).trans rfl⟩ (fun hHeld => ?_)
       clear hK K
       refine sqN (some 31) ?_
       refine sqP (i := 5) (N := some 26) (h := ?_)
       refine sqP (i := 6) (N := some 32) (h := ?_)
       refine sqP (i := 7) (N := some 33) (h := ?_)
       exact norm_ Z42 (hCont (.slice Ao37 t421.length co37, v429, gb432) _ ⟨hHeld, (Z57 HO423), (Z58 HO430), (sqK BK415), (sqK BK416), (sqK BK432), GW432.out, GE432.out, NB415_432.out, NB432_415.out, NB416_432.out, NB432_416.out, (sqB3 HB GE415 GE416 GE432)⟩)
     ·skip
      refine box_step ?hg (N := 6) ?hd (cs := #[.int .i64 0, .int .i64 0, .slice none 0 0]) (t := 34) ?hr ?_; (case hd => rfl); (case hg => rfl); (case hr => exact Z7)
      intro gb432 hg w35 hbox hb
      replace HO423 := sqU HO423 hb
      have BK432 := Aside0.mk (hbox)
      have GW432 := Aside0.mk ((sqG hg (sqB2 HB GE415 GE416)))
      have GE432 := Aside0.mk ((sqG hg (sqB2 HB GE415 GE416)))
      replace HB := sqS (sqB2 HB GE415 GE416) hb
      have NB415_432 := Aside0.mk ((Z40 BK415 : gb415 ≠ gb432))
      have NB432_415 := Aside0.mk ((Z41 BK415 : gb432 ≠ gb415))
      replace BK415 := sqT BK415 hb
      have NB416_432 := Aside0.mk ((Z40 BK416 : gb416 ≠ gb432))
      have NB432_416 := Aside0.mk ((Z41 BK416 : gb432 ≠ gb416))
      replace BK416 := sqT BK416 hb
      clear hb hbox hg
      refine hK.out _ _ ⟨(blk_cell BK415.out 0).trans rfl, (blk_cell BK415.out 1).trans rfl, (blk_cell BK415.out 2).trans rfl, (blk_cell BK416.out 0).trans rfl, (blk_cell BK416.out 1).trans rfl⟩ (fun hHeld => ?_)
      clear hK K
      refine sqN (some 6) ?_
      refine one_ (i := 3) (N := some 30) #[true, true, true, true, false, false, false, false, true, false, false] rfl rfl (one_of HT_.out (by kernel_rfl)) (by decide) (fun K hK => ?_)
      refine goes_ Tryz.func16 (by kernel_rfl) rfl #[.agg #[.int .i64 a1_0, .string a1_1]] (by rfl) rfl rfl sqA ?_
      with_reducible refine (laws_toDeed.calls a1_0 a1_1 t424 t425 _ A20.out).mono ?_
      rintro e w36 ⟨rfl, hb⟩
      refine ⟨_, rfl, ?_⟩
      replace HO423 := sqU HO423 hb
      replace BK415 := sqT BK415 hb
      replace BK416 := sqT BK416 hb
      replace BK432 := sqT BK432 hb
      replace HB := sqS (sqB3 HB GE415 GE416 GE432) hb
      (try clear hb)
      (try clear hb2)
      (try clear hk)
      (try clear hi)
      obtain ⟨Ao37, co37, eo37⟩ := Kd.R_slice HO423.out
      (first | subst eo37 | (injection eo37 with f1_ f2_ f3_; have f4_ := f1_.symm; have f5_ := f3_.symm; clear f1_ f2_ f3_; subst f4_; subst f5_))
      refine hK.out _ _ ⟨(blk_cell BK415.out 0).trans rfl, (blk_cell BK415.out 1).trans rfl, (blk_cell BK415.out 2).trans rfl, (blk_cell BK416.out 0).trans rfl, (blk_cell BK416.out 1).trans rfl⟩ (fun hHeld => ?_)
      clear hK K
      refine sqN (some 30) ?_
      refine one_ (i := 4) (N := some 31) #[true, true, true, true, true, false, false, false, true, false, false] rfl rfl (one_of HT_.out (by kernel_rfl)) (by decide) (fun K hK => ?_)
      refine goes_ Tryz.func14 (by kernel_rfl) rfl #[.agg #[.int .i64 t419, .int .i64 t420, .slice Ao37 t421.length co37], .agg #[.int .i64 t424, .string t425]] (by rfl) rfl rfl sqA ?_
      with_reducible refine (spec_DeskDo.calls k t419 t420 _ _ t421 t424 t425 t426 t427 t428 t431 _ ?side1 ?side2 A21.out).mono ?_
      (case side1 => exact Z28 HO423)
      (case side2 => exact Z29 HO423)
      rintro e w38 ⟨v429, rfl, ho0, hb⟩
      refine ⟨_, rfl, ?_⟩
      have HO430 := Aside0.mk (Kd.Q_lower (Kd.Q_new' ho0 (Kd.R_lt (sqR HO423))) (below_size (sqB3 HB GE415 GE416 GE432)))
      replace HO423 := Aside0.mk (Kd.R_elder' (sqR HO423) (Kd.Q_base ho0) hb)
      replace BK415 := sqT BK415 hb
      replace BK416 := sqT BK416 hb
      replace BK432 := sqT BK432 hb
      replace HB := sqS (sqB3 HB GE415 GE416 GE432) hb
      (try clear hb)
      (try clear hb2)
      (try clear hk)
      (try clear hi)
      (try clear ho0)
      refine hK.out _ _ ⟨(blk_cell BK415.out 0).trans rfl, (blk_cell BK415.out 1).trans rfl, (blk_cell BK415.out 2).trans rfl, (blk_cell BK416.out 0).trans rfl, (blk_cell BK416.out 1).trans rfl⟩ (fun hHeld => ?_)
      clear hK K
      refine sqN (some 31) ?_
      refine sqP (i := 5) (N := some 26) (h := ?_)
      refine sqP (i := 6) (N := some 32) (h := ?_)
      refine sqP (i := 7) (N := some 33) (h := ?_)
      exact norm_ Z42 (hCont (.slice Ao37 t421.length co37, v429, gb432) _ ⟨hHeld, (Z57 HO423), (Z58 HO430), (sqK BK415), (sqK BK416), (sqK BK432), GW432.out, GE432.out, NB415_432.out, NB432_415.out, NB416_432.out, NB432_416.out, (sqB3 HB GE415 GE416 GE432)⟩)
    ·skip
     refine box_step ?hg (N := 6) ?hd (cs := #[.int .i64 0, .int .i64 0, .slice none 0 0]) (t := 34) ?hr ?_; (case hd => rfl); (case hg => rfl); (case hr => exact Z7)
     intro gb432 hg w34 hbox hb
     have BK432 := Aside0.mk (hbox)
     have GW432 := Aside0.mk ((sqG hg (sqB2 HB GE415 GE416)))
     have GE432 := Aside0.mk ((sqG hg (sqB2 HB GE415 GE416)))
     replace HB := sqS (sqB2 HB GE415 GE416) hb
     have NB415_432 := Aside0.mk ((Z40 BK415 : gb415 ≠ gb432))
     have NB432_415 := Aside0.mk ((Z41 BK415 : gb432 ≠ gb415))
     replace BK415 := sqT BK415 hb
     have NB416_432 := Aside0.mk ((Z40 BK416 : gb416 ≠ gb432))
     have NB432_416 := Aside0.mk ((Z41 BK416 : gb432 ≠ gb416))
     replace BK416 := sqT BK416 hb
     clear hb hbox hg
     refine hK.out _ _ ⟨(blk_cell BK415.out 0).trans rfl, (blk_cell BK415.out 1).trans rfl, (blk_cell BK415.out 2).trans rfl, (blk_cell BK416.out 0).trans rfl, (blk_cell BK416.out 1).trans rfl⟩ (fun hHeld => ?_)
     clear hK K
     refine sqN (some 6) ?_
     refine one_ (i := 1) (N := some 28) #[true, true, true, false, false, false, false, false, true, false, false] rfl rfl (one_of HT_.out (by kernel_rfl)) (by decide) (fun K hK => ?_)
     refine goes_ Tryz.func15 (by kernel_rfl) rfl #[.agg #[.int .i64 a0_0, .int .i64 a0_1, .slice A0_2 l0_2.length c0_2]] (by rfl) rfl rfl sqA ?_
     with_reducible refine (laws_toDesk.calls k a0_0 a0_1 _ _ l0_2 t419 t420 t421 _ ?side1 ?side2 A19.out).mono ?_
     (case side1 => exact Z5)
     (case side2 => exact Z6)
     rintro e w35 ⟨v422, rfl, ho0, hb⟩
     refine ⟨_, rfl, ?_⟩
     have HO423 := sqL ho0 (sqB3 HB GE415 GE416 GE432)
     replace BK415 := sqT BK415 hb
     replace BK416 := sqT BK416 hb
     replace BK432 := sqT BK432 hb
     replace HB := sqS (sqB3 HB GE415 GE416 GE432) hb
     (try clear hb)
     (try clear hb2)
     (try clear hk)
     (try clear hi)
     (try clear ho0)
     refine hK.out _ _ ⟨(blk_cell BK415.out 0).trans rfl, (blk_cell BK415.out 1).trans rfl, (blk_cell BK415.out 2).trans rfl, (blk_cell BK416.out 0).trans rfl, (blk_cell BK416.out 1).trans rfl⟩ (fun hHeld => ?_)
     clear hK K
     refine sqN (some 28) ?_
     refine one_ (i := 3) (N := some 30) #[true, true, true, true, false, false, false, false, true, false, false] rfl rfl (one_of HT_.out (by kernel_rfl)) (by decide) (fun K hK => ?_)
     refine goes_ Tryz.func16 (by kernel_rfl) rfl #[.agg #[.int .i64 a1_0, .string a1_1]] (by rfl) rfl rfl sqA ?_
     with_reducible refine (laws_toDeed.calls a1_0 a1_1 t424 t425 _ A20.out).mono ?_
     rintro e w36 ⟨rfl, hb⟩
     refine ⟨_, rfl, ?_⟩
     replace HO423 := sqU HO423 hb
     replace BK415 := sqT BK415 hb
     replace BK416 := sqT BK416 hb
     replace BK432 := sqT BK432 hb
     replace HB := sqS (sqB3 HB GE415 GE416 GE432) hb
     (try clear hb)
     (try clear hb2)
     (try clear hk)
     (try clear hi)
     obtain ⟨Ao37, co37, eo37⟩ := Kd.R_slice HO423.out
     (first | subst eo37 | (injection eo37 with f1_ f2_ f3_; have f4_ := f1_.symm; have f5_ := f3_.symm; clear f1_ f2_ f3_; subst f4_; subst f5_))
     refine hK.out _ _ ⟨(blk_cell BK415.out 0).trans rfl, (blk_cell BK415.out 1).trans rfl, (blk_cell BK415.out 2).trans rfl, (blk_cell BK416.out 0).trans rfl, (blk_cell BK416.out 1).trans rfl⟩ (fun hHeld => ?_)
     clear hK K
     refine sqN (some 30) ?_
     refine one_ (i := 4) (N := some 31) #[true, true, true, true, true, false, false, false, true, false, false] rfl rfl (one_of HT_.out (by kernel_rfl)) (by decide) (fun K hK => ?_)
     refine goes_ Tryz.func14 (by kernel_rfl) rfl #[.agg #[.int .i64 t419, .int .i64 t420, .slice Ao37 t421.length co37], .agg #[.int .i64 t424, .string t425]] (by rfl) rfl rfl sqA ?_
     with_reducible refine (spec_DeskDo.calls k t419 t420 _ _ t421 t424 t425 t426 t427 t428 t431 _ ?side1 ?side2 A21.out).mono ?_
     (case side1 => exact Z28 HO423)
     (case side2 => exact Z29 HO423)
     rintro e w38 ⟨v429, rfl, ho0, hb⟩
     refine ⟨_, rfl, ?_⟩
     have HO430 := Aside0.mk (Kd.Q_lower (Kd.Q_new' ho0 (Kd.R_lt (sqR HO423))) (below_size (sqB3 HB GE415 GE416 GE432)))
     replace HO423 := Aside0.mk (Kd.R_elder' (sqR HO423) (Kd.Q_base ho0) hb)
     replace BK415 := sqT BK415 hb
     replace BK416 := sqT BK416 hb
     replace BK432 := sqT BK432 hb
     replace HB := sqS (sqB3 HB GE415 GE416 GE432) hb
     (try clear hb)
     (try clear hb2)
     (try clear hk)
     (try clear hi)
     (try clear ho0)
     refine hK.out _ _ ⟨(blk_cell BK415.out 0).trans rfl, (blk_cell BK415.out 1).trans rfl, (blk_cell BK415.out 2).trans rfl, (blk_cell BK416.out 0).trans rfl, (blk_cell BK416.out 1).trans rfl⟩ (fun hHeld => ?_)
     clear hK K
     refine sqN (some 31) ?_
     refine sqP (i := 5) (N := some 26) (h := ?_)
     refine sqP (i := 6) (N := some 32) (h := ?_)
     refine sqP (i := 7) (N := some 33) (h := ?_)
     exact norm_ Z42 (hCont (.slice Ao37 t421.length co37, v429, gb432) _ ⟨hHeld, (Z57 HO423), (Z58 HO430), (sqK BK415), (sqK BK416), (sqK BK432), GW432.out, GE432.out, NB415_432.out, NB432_415.out, NB416_432.out, NB432_416.out, (sqB3 HB GE415 GE416 GE432)⟩)
   rintro ⟨v422, v429, gb432⟩ w39 ⟨hS_, h0_, h1_, h2_, h3_, h4_, h5_, h6_, h7_, h8_, h9_, h10_, h11_⟩
   have n0_ : Aside0 (Kd.R k31 31 w39 w.heap.size (fun k_ => some k_ ≠ (v429 : Value).ownBlock) v422 t421) := ⟨h0_⟩
   have n1_ : Aside0 (Kd.Q k31 31 w39 w.heap.size (fun k_ => some k_ ≠ (v422 : Value).ownBlock) v429 t428) := ⟨h1_⟩
   have n2_ : Aside0 (w39.heap[gb415]? = some (.cells #[.int .i64 a0_0, .int .i64 a0_1, .slice A0_2 l0_2.length c0_2] 26 (0, 0))) := ⟨h2_⟩
   have n3_ : Aside0 (w39.heap[gb416]? = some (.cells #[.int .i64 a1_0, .string a1_1] 28 (0, 0))) := ⟨h3_⟩
   have n4_ : Aside0 (w39.heap[gb432]? = some (.cells #[.int .i64 0, .int .i64 0, .slice none 0 0] 34 (0, 0))) := ⟨h4_⟩
   have n5_ : Aside0 (w.heap.size ≤ gb432) := ⟨h5_⟩
   have n6_ : Aside0 (w.heap.size ≤ gb432) := ⟨h6_⟩
   have n7_ : Aside0 (gb415 ≠ gb432) := ⟨h7_⟩
   have n8_ : Aside0 (gb432 ≠ gb415) := ⟨h8_⟩
   have n9_ : Aside0 (gb416 ≠ gb432) := ⟨h9_⟩
   have n10_ : Aside0 (gb432 ≠ gb416) := ⟨h10_⟩
   have n11_ : Aside0 (Below w.heap.size w w39) := ⟨h11_⟩
   clear BK415
   clear BK416
   clear HB
   clear h0_ h1_ h2_ h3_ h4_ h5_ h6_ h7_ h8_ h9_ h10_ h11_
   have HO423 := n0_
   have HO430 := n1_
   have BK415 := n2_
   have BK416 := n3_
   have BK432 := n4_
   have GW432 := n5_
   have GE432 := n6_
   have NB415_432 := n7_
   have NB432_415 := n8_
   have NB416_432 := n9_
   have NB432_416 := n10_
   have HB := n11_
   clear n0_ n1_ n2_ n3_ n4_ n5_ n6_ n7_ n8_ n9_ n10_ n11_
   have hHeld : w39.cell? ⟨gb415, 0, none⟩ = some (.int .i64 a0_0) ∧ w39.cell? ⟨gb415, 1, none⟩ = some (.int .i64 a0_1) ∧ w39.cell? ⟨gb415, 2, none⟩ = some (.slice A0_2 l0_2.length c0_2) ∧ w39.cell? ⟨gb416, 0, none⟩ = some (.int .i64 a1_0) ∧ w39.cell? ⟨gb416, 1, none⟩ = some (.string a1_1) := hS_
   obtain ⟨Ao42, co42, eo42, _⟩ := Kd.Q_slice HO430.out
   (first | subst eo42 | (injection eo42 with f1_ f2_ f3_; have f4_ := f1_.symm; have f5_ := f3_.symm; clear f1_ f2_ f3_; subst f4_; subst f5_))
   refine norm_ (a' := ?_) ?_ ?_
   rotate_left
   ·simp only [putAll, Act.put, List.setIfInBounds_toArray, List.set_cons_zero, List.set_cons_succ]
    rfl
   refine one_ (i := 9) (N := none) #[true, true, true, true, true, true, true, true, true, true, false] rfl rfl (one_of HT_.out (by kernel_rfl)) (by decide) (fun K hK => ?_)
   have hs40 : w39.cell? ⟨gb432, 0, none⟩ = some (.int .i64 0) := (blk_cell BK432.out 0).trans rfl
   have hfs40 := blk_frozen BK432.out 0
   have hns40_0 := NB415_432.out
   have hns40_1 := NB416_432.out
   have hms40_0 := NB432_415.out
   have hms40_1 := NB432_416.out
   have hs41 : w39.cell? ⟨gb432, 1, none⟩ = some (.int .i64 0) := (blk_cell BK432.out 1).trans rfl
   have hfs41 := blk_frozen BK432.out 1
   have hns41_0 := NB415_432.out
   have hns41_1 := NB416_432.out
   have hms41_0 := NB432_415.out
   have hms41_1 := NB432_416.out
   have hs43 : w39.cell? ⟨gb432, 2, none⟩ = some (.slice none 0 0) := (blk_cell BK432.out 2).trans rfl
   have hfs43 := blk_frozen BK432.out 2
   have hns43_0 := NB415_432.out
   have hns43_1 := NB416_432.out
   have hms43_0 := NB432_415.out
   have hms43_1 := NB432_416.out
   refine skip_ (w1 := ?_) (by rfl) rfl ?_ ?_
   rotate_left
   ·go_simp
    rfl
   refine hK.out _ _ ⟨((cell_far (p := ⟨gb432, _, none⟩) NB415_432.out _).trans (((cell_far (p := ⟨gb432, _, none⟩) NB415_432.out _).trans (((cell_far (p := ⟨gb432, _, none⟩) NB415_432.out _).trans (hHeld.1)))))), ((cell_far (p := ⟨gb432, _, none⟩) NB415_432.out _).trans (((cell_far (p := ⟨gb432, _, none⟩) NB415_432.out _).trans (((cell_far (p := ⟨gb432, _, none⟩) NB415_432.out _).trans (hHeld.2.1)))))), ((cell_far (p := ⟨gb432, _, none⟩) NB415_432.out _).trans (((cell_far (p := ⟨gb432, _, none⟩) NB415_432.out _).trans (((cell_far (p := ⟨gb432, _, none⟩) NB415_432.out _).trans (hHeld.2.2.1)))))), ((cell_far (p := ⟨gb432, _, none⟩) NB416_432.out _).trans (((cell_far (p := ⟨gb432, _, none⟩) NB416_432.out _).trans (((cell_far (p := ⟨gb432, _, none⟩) NB416_432.out _).trans (hHeld.2.2.2.1)))))), ((cell_far (p := ⟨gb432, _, none⟩) NB416_432.out _).trans (((cell_far (p := ⟨gb432, _, none⟩) NB416_432.out _).trans (((cell_far (p := ⟨gb432, _, none⟩) NB416_432.out _).trans (hHeld.2.2.2.2))))))⟩ (fun hHeld => ?_)
   clear hK K
   refine sqP (i := 10) (N := some 7) (h := ?_)
   refine done_ (done_of HT_.out (by kernel_rfl)) ?_
   have hnb44 := NB415_432.out
   have hnc44 := NB432_415.out
   obtain ⟨hcz45_0, hcz45_1, hcz45_2, hfz45_0, hfz45_1, hfz45_2⟩ := sqY3 BK415
   try go_wp2_with (first | ((with_reducible refine gate_callee (f := 15) rfl ?_); refine goesL_ (some 35) rfl rfl Tryz.func15 (by kernel_rfl) rfl #[.agg #[.int .i64 a0_0, .int .i64 a0_1, .slice A0_2 l0_2.length c0_2]] rfl sqA ?_; (with_reducible refine (laws_toDesk.calls k a0_0 a0_1 _ _ l0_2 t433 t434 t435 _ ?side1 ?side2 A22.out).mono ?_); (case side1 => exact Kd.C_below HR0_2.out (sqB3 HB GE415 GE416 GE432)); (case side2 => exact Z6); rintro e w46 ⟨v436, rfl, ho0, hb⟩; refine ⟨_, rfl, ?_⟩; have HO437 := Aside0.mk (Kd.R_lower (Kd.R_new' (Kd.R_new' ho0 (Kd.R_lt (Z59 HO423 BK432))) (Kd.Q_lt (Z60 HO430 BK432))) (below_size (sqB3 HB GE415 GE416 GE432))); replace HO423 := Aside0.mk (Kd.R_elder' (Z59 HO423 BK432) (Kd.R_base ho0) hb); replace HO430 := Aside0.mk (Kd.Q_elder' (Z60 HO430 BK432) (Kd.R_base ho0) hb); replace BK415 := Aside0.mk (blk_below (g := gb415) (o := .cells #[.int .i64 a0_0, .int .i64 a0_1, .slice A0_2 l0_2.length c0_2] 26 (0, 0)) (Z19 NB415_432 BK415) hb); replace BK416 := Aside0.mk (blk_below (g := gb416) (o := .cells #[.int .i64 a1_0, .string a1_1] 28 (0, 0)) (Z19 NB416_432 BK416) hb); replace BK432 := Aside0.mk (blk_below (g := gb432) (o := .cells #[.int .i64 t426, .int .i64 t427, .slice Ao42 t428.length co42] 34 (0, 0)) (by refine sqPut (cs := #[.int .i64 t426, .int .i64 t427, .slice none 0 0]) ?_ 2; refine sqPut (cs := #[.int .i64 t426, .int .i64 0, .slice none 0 0]) ?_ 1; refine sqPut (cs := #[.int .i64 0, .int .i64 0, .slice none 0 0]) ?_ 0; exact sqK BK432) hb); replace HB := sqS (sqB3 HB GE415 GE416 GE432) hb; (try clear hb); (try clear ho0)) | ((with_reducible refine gate_dst (N := 8) rfl ?_); refine sqBox (N := 8) (cs := #[.int .i64 0, .int .i64 0, .slice none 0 0]) (t := 34) ?_; intro gb438 hg w47 BK438 hb; replace HO423 := sqU HO423 hb; replace HO430 := Aside0.mk (Kd.Q_below (Z27 HO430) hb); replace HO437 := sqU HO437 hb; have GW438 := Aside0.mk ((sqG hg (sqB3 HB GE415 GE416 GE432))); have GE438 := GW438; replace HB := sqS (sqB3 HB GE415 GE416 GE432) hb; obtain ⟨NB415_438, NB438_415⟩ := sqM hg BK415; replace BK415 := sqT BK415 hb; obtain ⟨NB416_438, NB438_416⟩ := sqM hg BK416; replace BK416 := sqT BK416 hb; obtain ⟨NB432_438, NB438_432⟩ := sqM hg BK432; replace BK432 := sqT BK432 hb; clear hb hg; have hnb48 := NB438_415.out; have hnc48 := NB415_438.out; have hnb49 := NB438_416.out; have hnc49 := NB416_438.out; have hnb50 := NB438_432.out; have hnc50 := NB432_438.out; obtain ⟨hcz51_0, hcz51_1, hcz51_2, hfz51_0, hfz51_1, hfz51_2⟩ := sqY3 BK438; obtain ⟨Ao52, co52, eo52⟩ := Kd.R_slice HO437.out; subst eo52))
   have n0_ : Aside0 (Kd.R k31 31 (((w47.setCell ⟨gb438, 0, none⟩ (.int .i64 t433)).setCell ⟨gb438, 1, none⟩ (.int .i64 t434)).setCell ⟨gb438, 2, none⟩ (.slice Ao52 t435.length co52)) w.heap.size (fun k_ => some k_ ≠ (.slice Ao42 t428.length co42 : Value).ownBlock ∧ some k_ ≠ (.slice Ao52 t435.length co52 : Value).ownBlock) v422 t421) := ⟨by (with_reducible repeat (first | apply Kd.R_alloc | apply Kd.R_drewN | apply Kd.R_drew)); exact Kd.R_mono (Kd.R_far (p := ⟨gb438, 2, none⟩) (Kd.R_far (p := ⟨gb438, 1, none⟩) (Kd.R_far (p := ⟨gb438, 0, none⟩) (Kd.R_types HO423.out BK438.out (by decide)) (fun _ hk => hk.2) (.int .i64 t433)) (fun _ hk => hk.2) (.int .i64 t434)) (fun _ hk => hk.2) (.slice Ao52 t435.length co52)) (fun _ hk => ⟨hk.1.1, hk.1.2⟩)⟩
   have n1_ : Aside0 (Kd.Q k31 31 (((w47.setCell ⟨gb438, 0, none⟩ (.int .i64 t433)).setCell ⟨gb438, 1, none⟩ (.int .i64 t434)).setCell ⟨gb438, 2, none⟩ (.slice Ao52 t435.length co52)) w.heap.size (fun k_ => some k_ ≠ (v422 : Value).ownBlock ∧ some k_ ≠ (.slice Ao52 t435.length co52 : Value).ownBlock) (.slice Ao42 t428.length co42) t428) := ⟨by (with_reducible repeat (first | apply Kd.Q_alloc | apply Kd.Q_drewN | apply Kd.Q_drew)); exact Kd.Q_mono (Kd.Q_far (p := ⟨gb438, 2, none⟩) (Kd.Q_far (p := ⟨gb438, 1, none⟩) (Kd.Q_far (p := ⟨gb438, 0, none⟩) (Kd.Q_types HO430.out BK438.out (by decide)) (fun _ hk => hk.2) (.int .i64 t433)) (fun _ hk => hk.2) (.int .i64 t434)) (fun _ hk => hk.2) (.slice Ao52 t435.length co52)) (fun _ hk => ⟨hk.1.1, hk.1.2⟩)⟩
   have n2_ : Aside0 (Kd.R k31 31 (((w47.setCell ⟨gb438, 0, none⟩ (.int .i64 t433)).setCell ⟨gb438, 1, none⟩ (.int .i64 t434)).setCell ⟨gb438, 2, none⟩ (.slice Ao52 t435.length co52)) w.heap.size (fun k_ => some k_ ≠ (v422 : Value).ownBlock ∧ some k_ ≠ (.slice Ao42 t428.length co42 : Value).ownBlock) (.slice Ao52 t435.length co52) t435) := ⟨by (with_reducible repeat (first | apply Kd.R_alloc | apply Kd.R_drewN | apply Kd.R_drew)); exact Kd.R_mono (Kd.R_far (p := ⟨gb438, 2, none⟩) (Kd.R_far (p := ⟨gb438, 1, none⟩) (Kd.R_far (p := ⟨gb438, 0, none⟩) (Kd.R_types HO437.out BK438.out (by decide)) (fun _ hk => hk.2) (.int .i64 t433)) (fun _ hk => hk.2) (.int .i64 t434)) (fun _ hk => hk.2) (.slice Ao52 t435.length co52)) (fun _ hk => ⟨hk.1.1.2, hk.1.2⟩)⟩
   have n3_ : Aside0 ((((w47.setCell ⟨gb438, 0, none⟩ (.int .i64 t433)).setCell ⟨gb438, 1, none⟩ (.int .i64 t434)).setCell ⟨gb438, 2, none⟩ (.slice Ao52 t435.length co52)).heap[gb415]? = some (.cells #[.int .i64 a0_0, .int .i64 a0_1, .slice A0_2 l0_2.length c0_2] 26 (0, 0))) := ⟨Z19 NB415_438 BK415⟩
   have n4_ : Aside0 ((((w47.setCell ⟨gb438, 0, none⟩ (.int .i64 t433)).setCell ⟨gb438, 1, none⟩ (.int .i64 t434)).setCell ⟨gb438, 2, none⟩ (.slice Ao52 t435.length co52)).heap[gb416]? = some (.cells #[.int .i64 a1_0, .string a1_1] 28 (0, 0))) := ⟨Z19 NB416_438 BK416⟩
   have n5_ : Aside0 ((((w47.setCell ⟨gb438, 0, none⟩ (.int .i64 t433)).setCell ⟨gb438, 1, none⟩ (.int .i64 t434)).setCell ⟨gb438, 2, none⟩ (.slice Ao52 t435.length co52)).heap[gb432]? = some (.cells #[.int .i64 t426, .int .i64 t427, .slice Ao42 t428.length co42] 34 (0, 0))) := ⟨Z19 NB432_438 BK432⟩
   have n6_ : Aside0 ((((w47.setCell ⟨gb438, 0, none⟩ (.int .i64 t433)).setCell ⟨gb438, 1, none⟩ (.int .i64 t434)).setCell ⟨gb438, 2, none⟩ (.slice Ao52 t435.length co52)).heap[gb438]? = some (.cells #[.int .i64 t433, .int .i64 t434, .slice Ao52 t435.length co52] 34 (0, 0))) := ⟨by refine sqPut (cs := #[.int .i64 t433, .int .i64 t434, .slice none 0 0]) ?_ 2; refine sqPut (cs := #[.int .i64 t433, .int .i64 0, .slice none 0 0]) ?_ 1; refine sqPut (cs := #[.int .i64 0, .int .i64 0, .slice none 0 0]) ?_ 0; exact sqK BK438⟩
   have n7_ : Aside0 (Below w.heap.size w (((w47.setCell ⟨gb438, 0, none⟩ (.int .i64 t433)).setCell ⟨gb438, 1, none⟩ (.int .i64 t434)).setCell ⟨gb438, 2, none⟩ (.slice Ao52 t435.length co52))) := ⟨sqB4 HB GE415 GE416 GE432 GE438⟩
   (try clear HO423)
   (try clear HO430)
   (try clear HO437)
   (try clear BK415)
   (try clear BK416)
   (try clear BK432)
   (try clear BK438)
   (try clear HB)
   generalize (((w47.setCell ⟨gb438, 0, none⟩ (.int .i64 t433)).setCell ⟨gb438, 1, none⟩ (.int .i64 t434)).setCell ⟨gb438, 2, none⟩ (.slice Ao52 t435.length co52)) = w53 at n0_ n1_ n2_ n3_ n4_ n5_ n6_ n7_ ⊢
   have HO423 := n0_
   have HO430 := n1_
   have HO437 := n2_
   have BK415 := n3_
   have BK416 := n4_
   have BK432 := n5_
   have BK438 := n6_
   have HB := n7_
   clear n0_ n1_ n2_ n3_ n4_ n5_ n6_ n7_
   replace HO423 := Aside0.mk (Kd.R_drew HO423.out)
   replace HO430 := Aside0.mk (Kd.Q_drew HO430.out)
   replace HO437 := Aside0.mk (Kd.R_drew HO437.out)
   replace BK415 := Aside0.mk (blk_drew BK415.out)
   replace BK416 := Aside0.mk (blk_drew BK416.out)
   replace BK432 := Aside0.mk (blk_drew BK432.out)
   replace BK438 := Aside0.mk (blk_drew BK438.out)
   replace HB := Aside0.mk (below_drew1 HB.out)
   refine start_ (n := 10) (S := fun w' => w'.cell? ⟨gb438, 0, none⟩ = some (.int .i64 t433) ∧ w'.cell? ⟨gb438, 1, none⟩ = some (.int .i64 t434) ∧ w'.cell? ⟨gb438, 2, none⟩ = some (.slice Ao52 t435.length co52) ∧ w'.cell? ⟨gb416, 0, none⟩ = some (.int .i64 a1_0) ∧ w'.cell? ⟨gb416, 1, none⟩ = some (.string a1_1)) (ds := []) #[false, false, false, false, false, false, false, false, false, false] (by kernel_rfl) rfl rfl ⟨(blk_cell BK438.out 0).trans rfl, (blk_cell BK438.out 1).trans rfl, (blk_cell BK438.out 2).trans rfl, (blk_cell BK416.out 0).trans rfl, (blk_cell BK416.out 1).trans rfl⟩ (fun hHeld => ?_); refine with_tabW laws_FnExactDeskDo.tab10 laws_FnExactDeskDo.bits10 (fun HT_ HW_ => ?_)
   generalize w53.drew = w54 at HO423 HO430 HO437 BK415 BK416 BK432 BK438 HB hHeld ⊢
   refine take_ (i := 0) (N := some 37) (v := ?_) (a' := ?_) #[true, false, false, false, false, false, false, false, false, false] rfl rfl (take_ofW HT_.out HW_.out (by kernel_rfl)) (fun _ _ _ h => h) (Or.inl ⟨by rfl, ?_⟩) hHeld ?_ ?_
   rotate_left
   ·rintro w' ⟨s0, s1, s2, s3, s4⟩
    go_simp
    with_reducible rfl
   rotate_left
   ·simp only [Act.put, List.setIfInBounds_toArray, List.set_cons_zero, List.set_cons_succ, i64_w, i32_w]
    rfl
   refine take_ (i := 1) (N := some 38) (v := ?_) (a' := ?_) #[true, true, false, false, false, false, false, false, false, false] rfl rfl (take_ofW HT_.out HW_.out (by kernel_rfl)) (fun _ _ _ h => h) (Or.inl ⟨by rfl, ?_⟩) hHeld ?_ ?_
   rotate_left
   ·rintro w' ⟨s0, s1, s2, s3, s4⟩
    go_simp
    with_reducible rfl
   rotate_left
   ·simp only [Act.put, List.setIfInBounds_toArray, List.set_cons_zero, List.set_cons_succ, i64_w, i32_w]
    rfl
   refine join_ (σ := Value × Nat) 2 #[true, true, true, true, true, true, true, true, false, false] (fun s_ => [(39, .agg #[.int .i64 t439, .string t440]), (40, .tuple #[.agg #[.int .i64 t441, .int .i64 t442, s_.1], .bool t446]), (9, .pointer (some ⟨s_.2, 0, none⟩)), (36, .tuple #[.agg #[.int .i64 t441, .int .i64 t442, s_.1], .bool t446]), (41, .agg #[.int .i64 t441, .int .i64 t442, s_.1]), (42, .bool t446)]) (fun s_ w' => (w'.cell? ⟨gb438, 0, none⟩ = some (.int .i64 t433) ∧ w'.cell? ⟨gb438, 1, none⟩ = some (.int .i64 t434) ∧ w'.cell? ⟨gb438, 2, none⟩ = some (.slice Ao52 t435.length co52) ∧ w'.cell? ⟨gb416, 0, none⟩ = some (.int .i64 a1_0) ∧ w'.cell? ⟨gb416, 1, none⟩ = some (.string a1_1)) ∧ (Kd.R k31 31 w' w.heap.size (fun k_ => some k_ ≠ (.slice Ao42 t428.length co42 : Value).ownBlock ∧ some k_ ≠ (.slice Ao52 t435.length co52 : Value).ownBlock ∧ some k_ ≠ (s_.1 : Value).ownBlock) v422 t421) ∧ (Kd.Q k31 31 w' w.heap.size (fun k_ => some k_ ≠ (v422 : Value).ownBlock ∧ some k_ ≠ (.slice Ao52 t435.length co52 : Value).ownBlock ∧ some k_ ≠ (s_.1 : Value).ownBlock) (.slice Ao42 t428.length co42) t428) ∧ (Kd.R k31 31 w' w.heap.size (fun k_ => some k_ ≠ (v422 : Value).ownBlock ∧ some k_ ≠ (.slice Ao42 t428.length co42 : Value).ownBlock ∧ some k_ ≠ (s_.1 : Value).ownBlock) (.slice Ao52 t435.length co52) t435) ∧ (Kd.R k31 31 w' w.heap.size (fun k_ => some k_ ≠ (v422 : Value).ownBlock ∧ some k_ ≠ (.slice Ao42 t428.length co42 : Value).ownBlock ∧ some k_ ≠ (.slice Ao52 t435.length co52 : Value).ownBlock) s_.1 t443) ∧ (w'.heap[gb415]? = some (.cells #[.int .i64 a0_0, .int .i64 a0_1, .slice A0_2 l0_2.length c0_2] 26 (0, 0))) ∧ (w'.heap[gb416]? = some (.cells #[.int .i64 a1_0, .string a1_1] 28 (0, 0))) ∧ (w'.heap[gb432]? = some (.cells #[.int .i64 t426, .int .i64 t427, .slice Ao42 t428.length co42] 34 (0, 0))) ∧ (w'.heap[gb438]? = some (.cells #[.int .i64 t433, .int .i64 t434, .slice Ao52 t435.length co52] 34 (0, 0))) ∧ (w'.heap[s_.2]? = some (.cells #[.int .i64 0, .int .i64 0, .slice none 0 0] 34 (0, 0))) ∧ (w.heap.size ≤ s_.2) ∧ (w.heap.size ≤ s_.2) ∧ (gb415 ≠ s_.2) ∧ (s_.2 ≠ gb415) ∧ (gb416 ≠ s_.2) ∧ (s_.2 ≠ gb416) ∧ (gb432 ≠ s_.2) ∧ (s_.2 ≠ gb432) ∧ (gb438 ≠ s_.2) ∧ (s_.2 ≠ gb438) ∧ (Below w.heap.size w w')) ?_ ?_
   rotate_left
   ·intro hCont
    refine two_ (i := 2) (j := 7) (Ni := some 39) (Nj := some 9) #[true, true, true, false, false, false, false, false, false, false] #[true, true, false, false, false, false, false, true, false, false] rfl rfl rfl rfl (two_of HT_.out (by kernel_rfl)) (by decide) (by decide) (fun K hK => ?_) (fun K hK => ?_)
    ·skip
     refine goes_ Tryz.func16 (by kernel_rfl) rfl #[.agg #[.int .i64 a1_0, .string a1_1]] (by rfl) rfl rfl sqA ?_
     with_reducible refine (laws_toDeed.calls a1_0 a1_1 t439 t440 _ A23.out).mono ?_
     rintro e w55 ⟨rfl, hb⟩
     refine ⟨_, rfl, ?_⟩
     replace HO423 := sqU HO423 hb
     replace HO430 := Aside0.mk (Kd.Q_below (Z27 HO430) hb)
     replace HO437 := sqU HO437 hb
     replace BK415 := sqT BK415 hb
     replace BK416 := sqT BK416 hb
     replace BK432 := sqT BK432 hb
     replace BK438 := sqT BK438 hb
     replace HB := sqS (sqB4 HB GE415 GE416 GE432 GE438) hb
     (try clear hb)
     (try clear hb2)
     (try clear hk)
     (try clear hi)
     refine hK.out _ _ ⟨(blk_cell BK438.out 0).trans rfl, (blk_cell BK438.out 1).trans rfl, (blk_cell BK438.out 2).trans rfl, (blk_cell BK416.out 0).trans rfl, (blk_cell BK416.out 1).trans rfl⟩ (fun hHeld => ?_)
     clear hK K
     refine sqN (some 39) ?_
     refine two_ (i := 3) (j := 7) (Ni := some 40) (Nj := some 9) #[true, true, true, true, false, false, false, false, false, false] #[true, true, true, false, false, false, false, true, false, false] rfl rfl rfl rfl (two_of HT_.out (by kernel_rfl)) (by decide) (by decide) (fun K hK => ?_) (fun K hK => ?_)
     ·skip
      refine goes_ Tryz.func17 (by kernel_rfl) rfl #[.agg #[.int .i64 t433, .int .i64 t434, .slice Ao52 t435.length co52], .agg #[.int .i64 t439, .string t440]] (by rfl) rfl rfl sqA ?_
      with_reducible refine (impl_DeskDo.calls k t433 t434 _ _ t435 t439 t440 t441 t442 t443 t446 _ ?sideG ?side1 ?side2 A24.out).mono ?_
      (case sideG => exact Glob.below hG (sqB4 HB GE415 GE416 GE432 GE438))
      (case side1 => exact Z28 HO437)
      (case side2 => exact Z29 HO437)
      rintro e w56 ⟨v444, rfl, ho0, hb⟩
      refine ⟨_, rfl, ?_⟩
      have HO445 := Aside0.mk (Kd.R_lower (Kd.R_new' (Kd.R_new' (Kd.R_new' ho0 (Kd.R_lt (sqR HO423))) (Kd.Q_lt (Z27 HO430))) (Kd.R_lt (sqR HO437))) (below_size (sqB4 HB GE415 GE416 GE432 GE438)))
      replace HO423 := Aside0.mk (Kd.R_elder' (sqR HO423) (Kd.R_base ho0) hb)
      replace HO430 := Aside0.mk (Kd.Q_elder' (Z27 HO430) (Kd.R_base ho0) hb)
      replace HO437 := Aside0.mk (Kd.R_elder' (sqR HO437) (Kd.R_base ho0) hb)
      replace BK415 := sqT BK415 hb
      replace BK416 := sqT BK416 hb
      replace BK432 := sqT BK432 hb
      replace BK438 := sqT BK438 hb
      replace HB := sqS (sqB4 HB GE415 GE416 GE432 GE438) hb
      (try clear hb)
      (try clear hb2)
      (try clear hk)
      (try clear hi)
      (try clear ho0)
      refine hK.out _ _ ⟨(blk_cell BK438.out 0).trans rfl, (blk_cell BK438.out 1).trans rfl, (blk_cell BK438.out 2).trans rfl, (blk_cell BK416.out 0).trans rfl, (blk_cell BK416.out 1).trans rfl⟩ (fun hHeld => ?_)
      clear hK K
      refine sqN (some 40) ?_
      refine sqP (i := 4) (N := some 36) (h := ?_)
      refine sqP (i := 5) (N := some 41) (h := ?_)
      refine sqP (i := 6) (N := some 42) (h := ?_)
      refine one_ (i := 7) (N := some 9) #[true, true, true, true, true, true, true, true, false, false] rfl rfl (one_of HT_.out (by kernel_rfl)) (by decide) (fun K hK => ?_)
      refine box_step ?hg (N := 9) ?hd (cs := #[.int .i64 0, .int .i64 0, .slice none 0 0]) (t := 34) ?hr ?_; (case hd => rfl); (case hg => rfl); (case hr => exact Z7)
      intro gb447 hg w57 hbox hb
      replace HO423 := sqU HO423 hb
      replace HO430 := Aside0.mk (Kd.Q_below (Z27 HO430) hb)
      replace HO437 := sqU HO437 hb
      replace HO445 := sqU HO445 hb
      have BK447 := Aside0.mk (hbox)
      have GW447 := Aside0.mk ((sqG hg (sqB4 HB GE415 GE416 GE432 GE438)))
      have GE447 := Aside0.mk ((sqG hg (sqB4 HB GE415 GE416 GE432 GE438)))
      replace HB := sqS (sqB4 HB GE415 GE416 GE432 GE438) hb
      have NB415_447 := Aside0.mk ((Z40 BK415 : gb415 ≠ gb447))
      have NB447_415 := Aside0.mk ((Z41 BK415 : gb447 ≠ gb415))
      replace BK415 := sqT BK415 hb
      have NB416_447 := Aside0.mk ((Z40 BK416 : gb416 ≠ gb447))
      have NB447_416 := Aside0.mk ((Z41 BK416 : gb447 ≠ gb416))
      replace BK416 := sqT BK416 hb
      have NB432_447 := Aside0.mk ((Z40 BK432 : gb432 ≠ gb447))
      have NB447_432 := Aside0.mk ((Z41 BK432 : gb447 ≠ gb432))
      replace BK432 := sqT BK432 hb
      have NB438_447 := Aside0.mk ((Z40 BK438 : gb438 ≠ gb447))
      have NB447_438 := Aside0.mk ((Z41 BK438 : gb447 ≠ gb438))
      replace BK438 := sqT BK438 hb
      clear hb hbox hg
      refine hK.out _ _ ⟨(blk_cell BK438.out 0).trans rfl, (blk_cell BK438.out 1).trans rfl, (blk_cell BK438.out 2).trans rfl, (blk_cell BK416.out 0).trans rfl, (blk_cell BK416.out 1).trans rfl⟩ (fun hHeld => ?_)
      clear hK K
      refine sqN (some 9) ?_
      exact norm_ Z42 (hCont (v444, gb447) _ ⟨hHeld, (Z61 HO423), (Z62 HO430), (Z61 HO437), (Z63 HO445), (sqK BK415), (sqK BK416), (sqK BK432), (sqK BK438), (sqK BK447), GW447.out, GE447.out, NB415_447.out, NB447_415.out, NB416_447.out, NB447_416.out, NB432_447.out, NB447_432.out, NB438_447.out, NB447_438.out, (Z25 GE415 GE416 GE432 GE438 GE447)⟩)
     ·skip
      refine box_step ?hg (N := 9) ?hd (cs := #[.int .i64 0, .int .i64 0, .slice none 0 0]) (t := 34) ?hr ?_; (case hd => rfl); (case hg => rfl); (case hr => exact Z7)
      intro gb447 hg w56 hbox hb
      replace HO423 := sqU HO423 hb
      replace HO430 := Aside0.mk (Kd.Q_below (Z27 HO430) hb)
      replace HO437 := sqU HO437 hb
      have BK447 := Aside0.mk (hbox)
      have GW447 := Aside0.mk ((sqG hg (sqB4 HB GE415 GE416 GE432 GE438)))
      have GE447 := Aside0.mk ((sqG hg (sqB4 HB GE415 GE416 GE432 GE438)))
      replace HB := sqS (sqB4 HB GE415 GE416 GE432 GE438) hb
      have NB415_447 := Aside0.mk ((Z40 BK415 : gb415 ≠ gb447))
      have NB447_415 := Aside0.mk ((Z41 BK415 : gb447 ≠ gb415))
      replace BK415 := sqT BK415 hb
      have NB416_447 := Aside0.mk ((Z40 BK416 : gb416 ≠ gb447))
      have NB447_416 := Aside0.mk ((Z41 BK416 : gb447 ≠ gb416))
      replace BK416 := sqT BK416 hb
      have NB432_447 := Aside0.mk ((Z40 BK432 : gb432 ≠ gb447))
      have NB447_432 := Aside0.mk ((Z41 BK432 : gb447 ≠ gb432))
      replace BK432 := sqT BK432 hb
      have NB438_447 := Aside0.mk ((Z40 BK438 : gb438 ≠ gb447))
      have NB447_438 := Aside0.mk ((Z41 BK438 : gb447 ≠ gb438))
      replace BK438 := sqT BK438 hb
      clear hb hbox hg
      refine hK.out _ _ ⟨(blk_cell BK438.out 0).trans rfl, (blk_cell BK438.out 1).trans rfl, (blk_cell BK438.out 2).trans rfl, (blk_cell BK416.out 0).trans rfl, (blk_cell BK416.out 1).trans rfl⟩ (fun hHeld => ?_)
      clear hK K
      refine sqN (some 9) ?_
      refine one_ (i := 3) (N := some 40) #[true, true, true, true, false, false, false, true, false, false] rfl rfl (one_of HT_.out (by kernel_rfl)) (by decide) (fun K hK => ?_)
      refine goes_ Tryz.func17 (by kernel_rfl) rfl #[.agg #[.int .i64 t433, .int .i64 t434, .slice Ao52 t435.length co52], .agg #[.int .i64 t439, .string t440]] (by rfl) rfl rfl sqA ?_
      with_reducible refine (impl_DeskDo.calls k t433 t434 _ _ t435 t439 t440 t441 t442 t443 t446 _ ?sideG ?side1 ?side2 A24.out).mono ?_
      (case sideG => exact Glob.below hG (Z25 GE415 GE416 GE432 GE438 GE447))
      (case side1 => exact Z28 HO437)
      (case side2 => exact Z29 HO437)
      rintro e w57 ⟨v444, rfl, ho0, hb⟩
      refine ⟨_, rfl, ?_⟩
      have HO445 := Aside0.mk (Kd.R_lower (Kd.R_new' (Kd.R_new' (Kd.R_new' ho0 (Kd.R_lt (sqR HO423))) (Kd.Q_lt (Z27 HO430))) (Kd.R_lt (sqR HO437))) (below_size (Z25 GE415 GE416 GE432 GE438 GE447)))
      replace HO423 := Aside0.mk (Kd.R_elder' (sqR HO423) (Kd.R_base ho0) hb)
      replace HO430 := Aside0.mk (Kd.Q_elder' (Z27 HO430) (Kd.R_base ho0) hb)
      replace HO437 := Aside0.mk (Kd.R_elder' (sqR HO437) (Kd.R_base ho0) hb)
      replace BK415 := sqT BK415 hb
      replace BK416 := sqT BK416 hb
      replace BK432 := sqT BK432 hb
      replace BK438 := sqT BK438 hb
      replace BK447 := sqT BK447 hb
      replace HB := Aside0.mk (below_step (Z25 GE415 GE416 GE432 GE438 GE447) hb)
      (try clear hb)
      (try clear hb2)
      (try clear hk)
      (try clear hi)
      (try clear ho0)
      refine hK.out _ _ ⟨(blk_cell BK438.out 0).trans rfl, (blk_cell BK438.out 1).trans rfl, (blk_cell BK438.out 2).trans rfl, (blk_cell BK416.out 0).trans rfl, (blk_cell BK416.out 1).trans rfl⟩ (fun hHeld => ?_)
      clear hK K
      refine sqN (some 40) ?_
      refine sqP (i := 4) (N := some 36) (h := ?_)
      refine sqP (i := 5) (N := some 41) (h := ?_)
      refine sqP (i := 6) (N := some 42) (h := ?_)
      exact norm_ Z42 (hCont (v444, gb447) _ ⟨hHeld, (Z61 HO423), (Z62 HO430), (Z61 HO437), (Z63 HO445), (sqK BK415), (sqK BK416), (sqK BK432), (sqK BK438), (sqK BK447), GW447.out, GE447.out, NB415_447.out, NB447_415.out, NB416_447.out, NB447_416.out, NB432_447.out, NB447_432.out, NB438_447.out, NB447_438.out, (Z25 GE415 GE416 GE432 GE438 GE447)⟩)
    ·skip
     refine box_step ?hg (N := 9) ?hd (cs := #[.int .i64 0, .int .i64 0, .slice none 0 0]) (t := 34) ?hr ?_; (case hd => rfl); (case hg => rfl); (case hr => exact Z7)
     intro gb447 hg w55 hbox hb
     replace HO423 := sqU HO423 hb
     replace HO430 := Aside0.mk (Kd.Q_below (Z27 HO430) hb)
     replace HO437 := sqU HO437 hb
     have BK447 := Aside0.mk (hbox)
     have GW447 := Aside0.mk ((sqG hg (sqB4 HB GE415 GE416 GE432 GE438)))
     have GE447 := Aside0.mk ((sqG hg (sqB4 HB GE415 GE416 GE432 GE438)))
     replace HB := sqS (sqB4 HB GE415 GE416 GE432 GE438) hb
     have NB415_447 := Aside0.mk ((Z40 BK415 : gb415 ≠ gb447))
     have NB447_415 := Aside0.mk ((Z41 BK415 : gb447 ≠ gb415))
     replace BK415 := sqT BK415 hb
     have NB416_447 := Aside0.mk ((Z40 BK416 : gb416 ≠ gb447))
     have NB447_416 := Aside0.mk ((Z41 BK416 : gb447 ≠ gb416))
     replace BK416 := sqT BK416 hb
     have NB432_447 := Aside0.mk ((Z40 BK432 : gb432 ≠ gb447))
     have NB447_432 := Aside0.mk ((Z41 BK432 : gb447 ≠ gb432))
     replace BK432 := sqT BK432 hb
     have NB438_447 := Aside0.mk ((Z40 BK438 : gb438 ≠ gb447))
     have NB447_438 := Aside0.mk ((Z41 BK438 : gb447 ≠ gb438))
     replace BK438 := sqT BK438 hb
     clear hb hbox hg
     refine hK.out _ _ ⟨(blk_cell BK438.out 0).trans rfl, (blk_cell BK438.out 1).trans rfl, (blk_cell BK438.out 2).trans rfl, (blk_cell BK416.out 0).trans rfl, (blk_cell BK416.out 1).trans rfl⟩ (fun hHeld => ?_)
     clear hK K
     refine sqN (some 9) ?_
     refine one_ (i := 2) (N := some 39) #[true, true, true, false, false, false, false, true, false, false] rfl rfl (one_of HT_.out (by kernel_rfl)) (by decide) (fun K hK => ?_)
     refine goes_ Tryz.func16 (by kernel_rfl) rfl #[.agg #[.int .i64 a1_0, .string a1_1]] (by rfl) rfl rfl sqA ?_
     with_reducible refine (laws_toDeed.calls a1_0 a1_1 t439 t440 _ A23.out).mono ?_
     rintro e w56 ⟨rfl, hb⟩
     refine ⟨_, rfl, ?_⟩
     replace HO423 := sqU HO423 hb
     replace HO430 := Aside0.mk (Kd.Q_below (Z27 HO430) hb)
     replace HO437 := sqU HO437 hb
     replace BK415 := sqT BK415 hb
     replace BK416 := sqT BK416 hb
     replace BK432 := sqT BK432 hb
     replace BK438 := sqT BK438 hb
     replace BK447 := sqT BK447 hb
     replace HB := Aside0.mk (below_step (Z25 GE415 GE416 GE432 GE438 GE447) hb)
     (try clear hb)
     (try clear hb2)
     (try clear hk)
     (try clear hi)
     refine hK.out _ _ ⟨(blk_cell BK438.out 0).trans rfl, (blk_cell BK438.out 1).trans rfl, (blk_cell BK438.out 2).trans rfl, (blk_cell BK416.out 0).trans rfl, (blk_cell BK416.out 1).trans rfl⟩ (fun hHeld => ?_)
     clear hK K
     refine sqN (some 39) ?_
     refine one_ (i := 3) (N := some 40) #[true, true, true, true, false, false, false, true, false, false] rfl rfl (one_of HT_.out (by kernel_rfl)) (by decide) (fun K hK => ?_)
     refine goes_ Tryz.func17 (by kernel_rfl) rfl #[.agg #[.int .i64 t433, .int .i64 t434, .slice Ao52 t435.length co52], .agg #[.int .i64 t439, .string t440]] (by rfl) rfl rfl sqA ?_
     with_reducible refine (impl_DeskDo.calls k t433 t434 _ _ t435 t439 t440 t441 t442 t443 t446 _ ?sideG ?side1 ?side2 A24.out).mono ?_
     (case sideG => exact Glob.below hG (Z25 GE415 GE416 GE432 GE438 GE447))
     (case side1 => exact Z28 HO437)
     (case side2 => exact Z29 HO437)
     rintro e w57 ⟨v444, rfl, ho0, hb⟩
     refine ⟨_, rfl, ?_⟩
     have HO445 := Aside0.mk (Kd.R_lower (Kd.R_new' (Kd.R_new' (Kd.R_new' ho0 (Kd.R_lt (sqR HO423))) (Kd.Q_lt (Z27 HO430))) (Kd.R_lt (sqR HO437))) (below_size (Z25 GE415 GE416 GE432 GE438 GE447)))
     replace HO423 := Aside0.mk (Kd.R_elder' (sqR HO423) (Kd.R_base ho0) hb)
     replace HO430 := Aside0.mk (Kd.Q_elder' (Z27 HO430) (Kd.R_base ho0) hb)
     replace HO437 := Aside0.mk (Kd.R_elder' (sqR HO437) (Kd.R_base ho0) hb)
     replace BK415 := sqT BK415 hb
     replace BK416 := sqT BK416 hb
     replace BK432 := sqT BK432 hb
     replace BK438 := sqT BK438 hb
     replace BK447 := sqT BK447 hb
     replace HB := Aside0.mk (below_step (Z25 GE415 GE416 GE432 GE438 GE447) hb)
     (try clear hb)
     (try clear hb2)
     (try clear hk)
     (try clear hi)
     (try clear ho0)
     refine hK.out _ _ ⟨(blk_cell BK438.out 0).trans rfl, (blk_cell BK438.out 1).trans rfl, (blk_cell BK438.out 2).trans rfl, (blk_cell BK416.out 0).trans rfl, (blk_cell BK416.out 1).trans rfl⟩ (fun hHeld => ?_)
     clear hK K
     refine sqN (some 40) ?_
     refine sqP (i := 4) (N := some 36) (h := ?_)
     refine sqP (i := 5) (N := some 41) (h := ?_)
     refine sqP (i := 6) (N := some 42) (h := ?_)
     exact norm_ Z42 (hCont (v444, gb447) _ ⟨hHeld, (Z61 HO423), (Z62 HO430), (Z61 HO437), (Z63 HO445), (sqK BK415), (sqK BK416), (sqK BK432), (sqK BK438), (sqK BK447), GW447.out, GE447.out, NB415_447.out, NB447_415.out, NB416_447.out, NB447_416.out, NB432_447.out, NB447_432.out, NB438_447.out, NB447_438.out, (Z25 GE415 GE416 GE432 GE438 GE447)⟩)
   rintro ⟨v444, gb447⟩ w58 ⟨hS_, h0_, h1_, h2_, h3_, h4_, h5_, h6_, h7_, h8_, h9_, h10_, h11_, h12_, h13_, h14_, h15_, h16_, h17_, h18_, h19_⟩
   have n0_ : Aside0 (Kd.R k31 31 w58 w.heap.size (fun k_ => some k_ ≠ (.slice Ao42 t428.length co42 : Value).ownBlock ∧ some k_ ≠ (.slice Ao52 t435.length co52 : Value).ownBlock ∧ some k_ ≠ (v444 : Value).ownBlock) v422 t421) := ⟨h0_⟩
   have n1_ : Aside0 (Kd.Q k31 31 w58 w.heap.size (fun k_ => some k_ ≠ (v422 : Value).ownBlock ∧ some k_ ≠ (.slice Ao52 t435.length co52 : Value).ownBlock ∧ some k_ ≠ (v444 : Value).ownBlock) (.slice Ao42 t428.length co42) t428) := ⟨h1_⟩
   have n2_ : Aside0 (Kd.R k31 31 w58 w.heap.size (fun k_ => some k_ ≠ (v422 : Value).ownBlock ∧ some k_ ≠ (.slice Ao42 t428.length co42 : Value).ownBlock ∧ some k_ ≠ (v444 : Value).ownBlock) (.slice Ao52 t435.length co52) t435) := ⟨h2_⟩
   have n3_ : Aside0 (Kd.R k31 31 w58 w.heap.size (fun k_ => some k_ ≠ (v422 : Value).ownBlock ∧ some k_ ≠ (.slice Ao42 t428.length co42 : Value).ownBlock ∧ some k_ ≠ (.slice Ao52 t435.length co52 : Value).ownBlock) v444 t443) := ⟨h3_⟩
   have n4_ : Aside0 (w58.heap[gb415]? = some (.cells #[.int .i64 a0_0, .int .i64 a0_1, .slice A0_2 l0_2.length c0_2] 26 (0, 0))) := ⟨h4_⟩
   have n5_ : Aside0 (w58.heap[gb416]? = some (.cells #[.int .i64 a1_0, .string a1_1] 28 (0, 0))) := ⟨h5_⟩
   have n6_ : Aside0 (w58.heap[gb432]? = some (.cells #[.int .i64 t426, .int .i64 t427, .slice Ao42 t428.length co42] 34 (0, 0))) := ⟨h6_⟩
   have n7_ : Aside0 (w58.heap[gb438]? = some (.cells #[.int .i64 t433, .int .i64 t434, .slice Ao52 t435.length co52] 34 (0, 0))) := ⟨h7_⟩
   have n8_ : Aside0 (w58.heap[gb447]? = some (.cells #[.int .i64 0, .int .i64 0, .slice none 0 0] 34 (0, 0))) := ⟨h8_⟩
   have n9_ : Aside0 (w.heap.size ≤ gb447) := ⟨h9_⟩
   have n10_ : Aside0 (w.heap.size ≤ gb447) := ⟨h10_⟩
   have n11_ : Aside0 (gb415 ≠ gb447) := ⟨h11_⟩
   have n12_ : Aside0 (gb447 ≠ gb415) := ⟨h12_⟩
   have n13_ : Aside0 (gb416 ≠ gb447) := ⟨h13_⟩
   have n14_ : Aside0 (gb447 ≠ gb416) := ⟨h14_⟩
   have n15_ : Aside0 (gb432 ≠ gb447) := ⟨h15_⟩
   have n16_ : Aside0 (gb447 ≠ gb432) := ⟨h16_⟩
   have n17_ : Aside0 (gb438 ≠ gb447) := ⟨h17_⟩
   have n18_ : Aside0 (gb447 ≠ gb438) := ⟨h18_⟩
   have n19_ : Aside0 (Below w.heap.size w w58) := ⟨h19_⟩
   clear HO423
   clear HO430
   clear HO437
   clear BK415
   clear BK416
   clear BK432
   clear BK438
   clear HB
   clear h0_ h1_ h2_ h3_ h4_ h5_ h6_ h7_ h8_ h9_ h10_ h11_ h12_ h13_ h14_ h15_ h16_ h17_ h18_ h19_
   have HO423 := n0_
   have HO430 := n1_
   have HO437 := n2_
   have HO445 := n3_
   have BK415 := n4_
   have BK416 := n5_
   have BK432 := n6_
   have BK438 := n7_
   have BK447 := n8_
   have GW447 := n9_
   have GE447 := n10_
   have NB415_447 := n11_
   have NB447_415 := n12_
   have NB416_447 := n13_
   have NB447_416 := n14_
   have NB432_447 := n15_
   have NB447_432 := n16_
   have NB438_447 := n17_
   have NB447_438 := n18_
   have HB := n19_
   clear n0_ n1_ n2_ n3_ n4_ n5_ n6_ n7_ n8_ n9_ n10_ n11_ n12_ n13_ n14_ n15_ n16_ n17_ n18_ n19_
   have hHeld : w58.cell? ⟨gb438, 0, none⟩ = some (.int .i64 t433) ∧ w58.cell? ⟨gb438, 1, none⟩ = some (.int .i64 t434) ∧ w58.cell? ⟨gb438, 2, none⟩ = some (.slice Ao52 t435.length co52) ∧ w58.cell? ⟨gb416, 0, none⟩ = some (.int .i64 a1_0) ∧ w58.cell? ⟨gb416, 1, none⟩ = some (.string a1_1) := hS_
   obtain ⟨Ao61, co61, eo61⟩ := Kd.R_slice HO445.out
   (first | subst eo61 | (injection eo61 with f1_ f2_ f3_; have f4_ := f1_.symm; have f5_ := f3_.symm; clear f1_ f2_ f3_; subst f4_; subst f5_))
   refine norm_ (a' := ?_) ?_ ?_
   rotate_left
   ·simp only [putAll, Act.put, List.setIfInBounds_toArray, List.set_cons_zero, List.set_cons_succ]
    rfl
   refine one_ (i := 8) (N := none) #[true, true, true, true, true, true, true, true, true, false] rfl rfl (one_of HT_.out (by kernel_rfl)) (by decide) (fun K hK => ?_)
   have hs59 : w58.cell? ⟨gb447, 0, none⟩ = some (.int .i64 0) := (blk_cell BK447.out 0).trans rfl
   have hfs59 := blk_frozen BK447.out 0
   have hns59_0 := NB415_447.out
   have hns59_1 := NB416_447.out
   have hns59_2 := NB432_447.out
   have hns59_3 := NB438_447.out
   have hms59_0 := NB447_415.out
   have hms59_1 := NB447_416.out
   have hms59_2 := NB447_432.out
   have hms59_3 := NB447_438.out
   have hs60 : w58.cell? ⟨gb447, 1, none⟩ = some (.int .i64 0) := (blk_cell BK447.out 1).trans rfl
   have hfs60 := blk_frozen BK447.out 1
   have hns60_0 := NB415_447.out
   have hns60_1 := NB416_447.out
   have hns60_2 := NB432_447.out
   have hns60_3 := NB438_447.out
   have hms60_0 := NB447_415.out
   have hms60_1 := NB447_416.out
   have hms60_2 := NB447_432.out
   have hms60_3 := NB447_438.out
   have hs62 : w58.cell? ⟨gb447, 2, none⟩ = some (.slice none 0 0) := (blk_cell BK447.out 2).trans rfl
   have hfs62 := blk_frozen BK447.out 2
   have hns62_0 := NB415_447.out
   have hns62_1 := NB416_447.out
   have hns62_2 := NB432_447.out
   have hns62_3 := NB438_447.out
   have hms62_0 := NB447_415.out
   have hms62_1 := NB447_416.out
   have hms62_2 := NB447_432.out
   have hms62_3 := NB447_438.out
   refine skip_ (w1 := ?_) (by rfl) rfl ?_ ?_
   rotate_left
   ·go_simp
    rfl
   refine hK.out _ _ ⟨((cell_far (p := ⟨gb447, _, none⟩) NB438_447.out _).trans (((cell_far (p := ⟨gb447, _, none⟩) NB438_447.out _).trans (((cell_far (p := ⟨gb447, _, none⟩) NB438_447.out _).trans (hHeld.1)))))), ((cell_far (p := ⟨gb447, _, none⟩) NB438_447.out _).trans (((cell_far (p := ⟨gb447, _, none⟩) NB438_447.out _).trans (((cell_far (p := ⟨gb447, _, none⟩) NB438_447.out _).trans (hHeld.2.1)))))), ((cell_far (p := ⟨gb447, _, none⟩) NB438_447.out _).trans (((cell_far (p := ⟨gb447, _, none⟩) NB438_447.out _).trans (((cell_far (p := ⟨gb447, _, none⟩) NB438_447.out _).trans (hHeld.2.2.1)))))), ((cell_far (p := ⟨gb447, _, none⟩) NB416_447.out _).trans (((cell_far (p := ⟨gb447, _, none⟩) NB416_447.out _).trans (((cell_far (p := ⟨gb447, _, none⟩) NB416_447.out _).trans (hHeld.2.2.2.1)))))), ((cell_far (p := ⟨gb447, _, none⟩) NB416_447.out _).trans (((cell_far (p := ⟨gb447, _, none⟩) NB416_447.out _).trans (((cell_far (p := ⟨gb447, _, none⟩) NB416_447.out _).trans (hHeld.2.2.2.2))))))⟩ (fun hHeld => ?_)
   clear hK K
   refine sqP (i := 9) (N := some 10) (h := ?_)
   refine done_ (done_of HT_.out (by kernel_rfl)) ?_
   go_upto_region 11 with (fail)
   go_cut [51] (fun v51 wc => ∃ (kq : Nat) (x51_24 : Bool), v51 = .bool x51_24 ∧ Aside0 (laws_FnExactDeskDo.j0 kq t431 t446 x51_24 a0_0 a0_1 l0_2 a1_0 a1_1 t426 t427 t428 t433 t434 t435 t441 t442 t443 = some r) ∧ Aside0 (kq ≤ k) ∧ Aside0 (Kd.Q k31 31 wc w.heap.size (fun k_ => some k_ ≠ ((.slice Ao52 t435.length co52) : Value).ownBlock ∧ some k_ ≠ ((.slice Ao61 t443.length co61) : Value).ownBlock) (.slice Ao42 t428.length co42) t428) ∧ Aside0 (Kd.R k31 31 wc w.heap.size (fun k_ => some k_ ≠ ((.slice Ao42 t428.length co42) : Value).ownBlock ∧ some k_ ≠ ((.slice Ao61 t443.length co61) : Value).ownBlock) (.slice Ao52 t435.length co52) t435) ∧ Aside0 (Kd.R k31 31 wc w.heap.size (fun k_ => some k_ ≠ ((.slice Ao42 t428.length co42) : Value).ownBlock ∧ some k_ ≠ ((.slice Ao52 t435.length co52) : Value).ownBlock) (.slice Ao61 t443.length co61) t443) ∧ Aside0 (wc.heap[gb415]? = some (.cells #[.int .i64 a0_0, .int .i64 a0_1, (.slice A0_2 l0_2.length c0_2)] 26 (0, 0))) ∧ Aside0 (wc.heap[gb416]? = some (.cells #[.int .i64 a1_0, .string a1_1] 28 (0, 0))) ∧ Aside0 (wc.heap[gb432]? = some (.cells #[.int .i64 t426, .int .i64 t427, (.slice Ao42 t428.length co42)] 34 (0, 0))) ∧ Aside0 (wc.heap[gb438]? = some (.cells #[.int .i64 t433, .int .i64 t434, (.slice Ao52 t435.length co52)] 34 (0, 0))) ∧ Aside0 (wc.heap[gb447]? = some (.cells #[.int .i64 t441, .int .i64 t442, (.slice Ao61 t443.length co61)] 34 (0, 0))) ∧ Aside0 (Below w.heap.size w wc))
   case first =>
    have H := HC25.out
    clear HC25
    obtain ⟨t448, A63, H⟩ := sqD H
    by_cases c64 : t448 = true
    ·subst c64
     have H1 : (laws_FnExactDeskDo.j0 k t431 t446 (t446 != t431) a0_0 a0_1 l0_2 a1_0 a1_1 t426 t427 t428 t433 t434 t435 t441 t442 t443) = some r := by rw [if_pos rfl] at H; exact H
     clear H
     have H := H1
     clear H1
     have H' := Aside0.mk H
     clear H
     have hnb65 := NB447_415.out
     have hnc65 := NB415_447.out
     have hnb66 := NB447_416.out
     have hnc66 := NB416_447.out
     have hnb67 := NB447_432.out
     have hnc67 := NB432_447.out
     have hnb68 := NB447_438.out
     have hnc68 := NB438_447.out
     obtain ⟨hcz69_0, hcz69_1, hcz69_2, hfz69_0, hfz69_1, hfz69_2⟩ := sqY3 BK447
     have hnb70 := NB432_415.out
     have hnc70 := NB415_432.out
     have hnb71 := NB432_416.out
     have hnc71 := NB416_432.out
     have hnb72 := NB432_438.out
     have hnc72 := NB438_432.out
     obtain ⟨hcz73_0, hcz73_1, hcz73_2, hfz73_0, hfz73_1, hfz73_2⟩ := sqY3 BK432
     go_wp2_with (first | ((with_reducible refine gate_callee (f := 18) rfl ?_); refine goesL_ (some 45) rfl rfl Tryz.func18 (by kernel_rfl) rfl #[.agg #[.int .i64 t441, .int .i64 t442, .slice Ao61 t443.length co61], .agg #[.int .i64 t426, .int .i64 t427, .slice Ao42 t428.length co42]] rfl sqA ?_; (with_reducible refine (laws_eqDesk.calls k t441 t442 _ _ t443 t426 t427 _ _ t428 true _ ?side1 ?side2 ?side3 ?side4 A63.out).mono ?_); (case side1 => exact Z84 HO445 BK447); (case side2 => exact Z29 HO445); (case side3 => exact Z85 HO430 BK447); (case side4 => exact (Kd.Q_reads' HO430.out).2.1); rintro e w74 ⟨rfl, hb⟩; refine ⟨_, rfl, ?_⟩; replace HO423 := Aside0.mk (Kd.R_below (Z64 HO423 BK447) hb); replace HO430 := Aside0.mk (Kd.Q_below (Z65 HO430 BK447) hb); replace HO437 := Aside0.mk (Kd.R_below (Z64 HO437 BK447) hb); replace HO445 := Aside0.mk (Kd.R_below (Z64 HO445 BK447) hb); replace BK415 := Aside0.mk (blk_below (g := gb415) (o := .cells #[.int .i64 a0_0, .int .i64 a0_1, .slice A0_2 l0_2.length c0_2] 26 (0, 0)) (Z19 NB415_447 BK415) hb); replace BK416 := Aside0.mk (blk_below (g := gb416) (o := .cells #[.int .i64 a1_0, .string a1_1] 28 (0, 0)) (Z19 NB416_447 BK416) hb); replace BK432 := Aside0.mk (blk_below (g := gb432) (o := .cells #[.int .i64 t426, .int .i64 t427, .slice Ao42 t428.length co42] 34 (0, 0)) (Z19 NB432_447 BK432) hb); replace BK438 := Aside0.mk (blk_below (g := gb438) (o := .cells #[.int .i64 t433, .int .i64 t434, .slice Ao52 t435.length co52] 34 (0, 0)) (Z19 NB438_447 BK438) hb); replace BK447 := Aside0.mk (blk_below (g := gb447) (o := .cells #[.int .i64 t441, .int .i64 t442, .slice Ao61 t443.length co61] 34 (0, 0)) (Z66 BK447) hb); replace HB := Aside0.mk (below_step (Z25 GE415 GE416 GE432 GE438 GE447) hb); (try clear hb)))
     go_meet
     case rel => exact ⟨_, ((t446 != t431)), Z1, H', ⟨Z15⟩, ⟨Z67 HO430⟩, ⟨Z68 HO437⟩, ⟨Z68 HO445⟩, ⟨sqK BK415⟩, ⟨sqK BK416⟩, ⟨sqK BK432⟩, ⟨sqK BK438⟩, ⟨sqK BK447⟩, ⟨Z25 GE415 GE416 GE432 GE438 GE447⟩⟩
    ·replace c64 := Bool.eq_false_iff.mpr c64
     subst c64
     have H1 : (laws_FnExactDeskDo.j0 k t431 t446 true a0_0 a0_1 l0_2 a1_0 a1_1 t426 t427 t428 t433 t434 t435 t441 t442 t443) = some r := by rw [if_neg (show ¬ (false = true) by decide)] at H; exact H
     clear H
     have H := H1
     clear H1
     have H' := Aside0.mk H
     clear H
     have hnb75 := NB447_415.out
     have hnc75 := NB415_447.out
     have hnb76 := NB447_416.out
     have hnc76 := NB416_447.out
     have hnb77 := NB447_432.out
     have hnc77 := NB432_447.out
     have hnb78 := NB447_438.out
     have hnc78 := NB438_447.out
     obtain ⟨hcz79_0, hcz79_1, hcz79_2, hfz79_0, hfz79_1, hfz79_2⟩ := sqY3 BK447
     have hnb80 := NB432_415.out
     have hnc80 := NB415_432.out
     have hnb81 := NB432_416.out
     have hnc81 := NB416_432.out
     have hnb82 := NB432_438.out
     have hnc82 := NB438_432.out
     obtain ⟨hcz83_0, hcz83_1, hcz83_2, hfz83_0, hfz83_1, hfz83_2⟩ := sqY3 BK432
     go_wp2_with (first | ((with_reducible refine gate_callee (f := 18) rfl ?_); refine goesL_ (some 45) rfl rfl Tryz.func18 (by kernel_rfl) rfl #[.agg #[.int .i64 t441, .int .i64 t442, .slice Ao61 t443.length co61], .agg #[.int .i64 t426, .int .i64 t427, .slice Ao42 t428.length co42]] rfl sqA ?_; (with_reducible refine (laws_eqDesk.calls k t441 t442 _ _ t443 t426 t427 _ _ t428 false _ ?side1 ?side2 ?side3 ?side4 A63.out).mono ?_); (case side1 => exact Z84 HO445 BK447); (case side2 => exact Z29 HO445); (case side3 => exact Z85 HO430 BK447); (case side4 => exact (Kd.Q_reads' HO430.out).2.1); rintro e w84 ⟨rfl, hb⟩; refine ⟨_, rfl, ?_⟩; replace HO423 := Aside0.mk (Kd.R_below (Z64 HO423 BK447) hb); replace HO430 := Aside0.mk (Kd.Q_below (Z65 HO430 BK447) hb); replace HO437 := Aside0.mk (Kd.R_below (Z64 HO437 BK447) hb); replace HO445 := Aside0.mk (Kd.R_below (Z64 HO445 BK447) hb); replace BK415 := Aside0.mk (blk_below (g := gb415) (o := .cells #[.int .i64 a0_0, .int .i64 a0_1, .slice A0_2 l0_2.length c0_2] 26 (0, 0)) (Z19 NB415_447 BK415) hb); replace BK416 := Aside0.mk (blk_below (g := gb416) (o := .cells #[.int .i64 a1_0, .string a1_1] 28 (0, 0)) (Z19 NB416_447 BK416) hb); replace BK432 := Aside0.mk (blk_below (g := gb432) (o := .cells #[.int .i64 t426, .int .i64 t427, .slice Ao42 t428.length co42] 34 (0, 0)) (Z19 NB432_447 BK432) hb); replace BK438 := Aside0.mk (blk_below (g := gb438) (o := .cells #[.int .i64 t433, .int .i64 t434, .slice Ao52 t435.length co52] 34 (0, 0)) (Z19 NB438_447 BK438) hb); replace BK447 := Aside0.mk (blk_below (g := gb447) (o := .cells #[.int .i64 t441, .int .i64 t442, .slice Ao61 t443.length co61] 34 (0, 0)) (Z66 BK447) hb); replace HB := Aside0.mk (below_step (Z25 GE415 GE416 GE432 GE438 GE447) hb); (try clear hb)))
     go_meet
     case rel => exact ⟨_, (true), Z1, H', ⟨Z15⟩, ⟨Z67 HO430⟩, ⟨Z68 HO437⟩, ⟨Z68 HO445⟩, ⟨sqK BK415⟩, ⟨sqK BK416⟩, ⟨sqK BK432⟩, ⟨sqK BK438⟩, ⟨sqK BK447⟩, ⟨Z25 GE415 GE416 GE432 GE438 GE447⟩⟩
   case rest =>
    clear HC25
    try clear c1; try clear p2; try clear c6; try clear c7; try clear c8; try clear c16; try clear c17; try clear c18; try clear c64; try clear c65; try clear c66; try clear c67; try clear c68; try clear c70; try clear c71; try clear c72; try clear c75; try clear c76; try clear c77; try clear c78; try clear c80; try clear c81; try clear c82; try clear hcz69_0; try clear hcz69_1; try clear hcz69_2; try clear hcz73_0; try clear hcz73_1; try clear hcz73_2; try clear hcz79_0; try clear hcz79_1; try clear hcz79_2; try clear hcz83_0; try clear hcz83_1; try clear hcz83_2; try clear hfz69_0; try clear hfz69_1; try clear hfz69_2; try clear hfz73_0; try clear hfz73_1; try clear hfz73_2; try clear hfz79_0; try clear hfz79_1; try clear hfz79_2; try clear hfz83_0; try clear hfz83_1; try clear hfz83_2
    obtain ⟨kq, x51_24, rfl, HA, HJ24, HO_433002, HO_439002, HO_448002, BK415, BK416, BK432, BK438, BK447, HB⟩ := hcut
    cases kq with
    | zero => exact absurd HA.out (by simp [laws_FnExactDeskDo.j0])
    | succ kj24 =>
     have H := HA.out
     clear HA
     simp only [laws_FnExactDeskDo.j0] at H
     by_cases c85 : x51_24 = true
     ·subst c85
      have H1 : (some false) = some r := by rw [if_pos rfl] at H; exact H
      clear H
      have H := H1
      clear H1
      obtain rfl := Option.some.inj H
      go_wp2
      go_ret
      exact ⟨Z3, Z25 GE415 GE416 GE432 GE438 GE447⟩
     ·replace c85 := Bool.eq_false_iff.mpr c85
      subst c85
      have H1 : ((laws_toDesk.f kj24 a0_0 a0_1 l0_2).bind fun bt449 => ((laws_eqDesk.f kj24 t433 t434 t435 bt449.1 bt449.2.1 bt449.2.2).bind fun t454 => (if t454 = true then ((laws_markDesk.f kj24 t433 t434 t435 1).bind fun bt455 => (if bt455.1 < 0 then (laws_FnExactDeskDo.j1 kj24 t431 true a0_0 a0_1 l0_2 a1_0 a1_1 t426 t427 t428 t441 t442 t443) else ((laws_eqDesk.f kj24 t441 t442 t443 t426 t427 t428).bind fun t457 => (if t457 = true then (laws_FnExactDeskDo.j1 kj24 t431 (t446 != t431) a0_0 a0_1 l0_2 a1_0 a1_1 t426 t427 t428 t441 t442 t443) else (laws_FnExactDeskDo.j1 kj24 t431 true a0_0 a0_1 l0_2 a1_0 a1_1 t426 t427 t428 t441 t442 t443))))) else (some false)))) = some r := by rw [if_neg (show ¬ (false = true) by decide)] at H; exact H
      clear H
      have H := H1
      clear H1
      replace H := Option.bind_eq_some_iff.mp H
      obtain ⟨⟨t449, t450, t451⟩, A860, H⟩ := H
      replace H : ((laws_eqDesk.f kj24 t433 t434 t435 t449 t450 t451).bind fun t454 => (if t454 = true then ((laws_markDesk.f kj24 t433 t434 t435 1).bind fun bt455 => (if bt455.1 < 0 then (laws_FnExactDeskDo.j1 kj24 t431 true a0_0 a0_1 l0_2 a1_0 a1_1 t426 t427 t428 t441 t442 t443) else ((laws_eqDesk.f kj24 t441 t442 t443 t426 t427 t428).bind fun t457 => (if t457 = true then (laws_FnExactDeskDo.j1 kj24 t431 (t446 != t431) a0_0 a0_1 l0_2 a1_0 a1_1 t426 t427 t428 t441 t442 t443) else (laws_FnExactDeskDo.j1 kj24 t431 true a0_0 a0_1 l0_2 a1_0 a1_1 t426 t427 t428 t441 t442 t443))))) else (some false))) = some r := H
      have A86 := Aside0.mk A860
      clear A860
      obtain ⟨t454, A87, H⟩ := sqD H
      by_cases c88 : t454 = true
      ·subst c88
       have H1 : ((laws_markDesk.f kj24 t433 t434 t435 1).bind fun bt455 => (if bt455.1 < 0 then (laws_FnExactDeskDo.j1 kj24 t431 true a0_0 a0_1 l0_2 a1_0 a1_1 t426 t427 t428 t441 t442 t443) else ((laws_eqDesk.f kj24 t441 t442 t443 t426 t427 t428).bind fun t457 => (if t457 = true then (laws_FnExactDeskDo.j1 kj24 t431 (t446 != t431) a0_0 a0_1 l0_2 a1_0 a1_1 t426 t427 t428 t441 t442 t443) else (laws_FnExactDeskDo.j1 kj24 t431 true a0_0 a0_1 l0_2 a1_0 a1_1 t426 t427 t428 t441 t442 t443))))) = some r := by rw [if_pos rfl] at H; exact H
       clear H
       have H := H1
       clear H1
       replace H := Option.bind_eq_some_iff.mp H
       obtain ⟨⟨t455, t456⟩, A890, H⟩ := H
       replace H : (if t455 < 0 then (laws_FnExactDeskDo.j1 kj24 t431 true a0_0 a0_1 l0_2 a1_0 a1_1 t426 t427 t428 t441 t442 t443) else ((laws_eqDesk.f kj24 t441 t442 t443 t426 t427 t428).bind fun t457 => (if t457 = true then (laws_FnExactDeskDo.j1 kj24 t431 (t446 != t431) a0_0 a0_1 l0_2 a1_0 a1_1 t426 t427 t428 t441 t442 t443) else (laws_FnExactDeskDo.j1 kj24 t431 true a0_0 a0_1 l0_2 a1_0 a1_1 t426 t427 t428 t441 t442 t443)))) = some r := H
       have A89 := Aside0.mk A890
       clear A890
       have HC90 := Aside0.mk H
       clear H
       try go_wp2
       replace HO_433002 := Aside0.mk (Kd.Q_drew HO_433002.out)
       replace HO_439002 := Aside0.mk (Kd.R_drew HO_439002.out)
       replace HO_448002 := Aside0.mk (Kd.R_drew HO_448002.out)
       replace BK415 := Aside0.mk (blk_drew BK415.out)
       replace BK416 := Aside0.mk (blk_drew BK416.out)
       replace BK432 := Aside0.mk (blk_drew BK432.out)
       replace BK438 := Aside0.mk (blk_drew BK438.out)
       replace BK447 := Aside0.mk (blk_drew BK447.out)
       replace HB := Aside0.mk (below_drew1 HB.out)
       refine start_ (n := 5) (S := fun w' => w'.cell? ⟨gb438, 0, none⟩ = some (.int .i64 t433) ∧ w'.cell? ⟨gb438, 1, none⟩ = some (.int .i64 t434) ∧ w'.cell? ⟨gb438, 2, none⟩ = some (.slice Ao52 t435.length co52) ∧ w'.cell? ⟨gb415, 0, none⟩ = some (.int .i64 a0_0) ∧ w'.cell? ⟨gb415, 1, none⟩ = some (.int .i64 a0_1) ∧ w'.cell? ⟨gb415, 2, none⟩ = some (.slice A0_2 l0_2.length c0_2)) (ds := []) #[false, false, false, false, false] (by kernel_rfl) rfl rfl ⟨(blk_cell BK438.out 0).trans rfl, (blk_cell BK438.out 1).trans rfl, (blk_cell BK438.out 2).trans rfl, (blk_cell BK415.out 0).trans rfl, (blk_cell BK415.out 1).trans rfl, (blk_cell BK415.out 2).trans rfl⟩ (fun hHeld => ?_)
       generalize wc.drew = w91 at HO_433002 HO_439002 HO_448002 BK415 BK416 BK432 BK438 BK447 HB hHeld ⊢
       refine take_ (i := 0) (N := some 52) (v := ?_) (a' := ?_) #[true, false, false, false, false] rfl rfl (by kernel_rfl) (fun _ _ _ h => h) (Or.inl ⟨by rfl, ?_⟩) hHeld ?_ ?_
       rotate_left
       ·rintro w' ⟨s0, s1, s2, s3, s4, s5⟩
        go_simp
        with_reducible rfl
       rotate_left
       ·simp only [Act.put, List.setIfInBounds_toArray, List.set_cons_zero, List.set_cons_succ, i64_w, i32_w]
        rfl
       refine take_ (i := 1) (N := some 53) (v := ?_) (a' := ?_) #[true, true, false, false, false] rfl rfl (by kernel_rfl) (fun _ _ _ h => h) (Or.inl ⟨by rfl, ?_⟩) hHeld ?_ ?_
       rotate_left
       ·rintro w' ⟨s0, s1, s2, s3, s4, s5⟩
        go_simp
        with_reducible rfl
       rotate_left
       ·simp only [Act.put, List.setIfInBounds_toArray, List.set_cons_zero, List.set_cons_succ, i64_w, i32_w]
        rfl
       refine one_ (i := 2) (N := some 54) #[true, true, true, false, false] rfl rfl (by kernel_rfl) (by decide) (fun K hK => ?_)
       refine goes_ Tryz.func15 (by kernel_rfl) rfl #[.agg #[.int .i64 a0_0, .int .i64 a0_1, .slice A0_2 l0_2.length c0_2]] (by rfl) rfl rfl sqA ?_
       with_reducible refine (laws_toDesk.calls kj24 a0_0 a0_1 _ _ l0_2 t449 t450 t451 _ ?side1 ?side2 A86.out).mono ?_
       (case side1 => exact Z5)
       (case side2 => exact Z6)
       rintro e w92 ⟨v452, rfl, ho0, hb⟩
       refine ⟨_, rfl, ?_⟩
       have HO453 := Aside0.mk (Kd.R_lower (Kd.R_new' (Kd.R_new' (Kd.R_new' ho0 (Kd.Q_lt (Z27 HO_433002))) (Kd.R_lt (sqR HO_439002))) (Kd.R_lt (sqR HO_448002))) (below_size (Z25 GE415 GE416 GE432 GE438 GE447)))
       replace HO_433002 := Aside0.mk (Kd.Q_elder' (Z27 HO_433002) (Kd.R_base ho0) hb)
       replace HO_439002 := Aside0.mk (Kd.R_elder' (sqR HO_439002) (Kd.R_base ho0) hb)
       replace HO_448002 := Aside0.mk (Kd.R_elder' (sqR HO_448002) (Kd.R_base ho0) hb)
       replace BK415 := sqT BK415 hb
       replace BK416 := sqT BK416 hb
       replace BK432 := sqT BK432 hb
       replace BK438 := sqT BK438 hb
       replace BK447 := sqT BK447 hb
       replace HB := Aside0.mk (below_step (Z25 GE415 GE416 GE432 GE438 GE447) hb)
       (try clear hb)
       (try clear hb2)
       (try clear hk)
       (try clear hi)
       (try clear ho0)
       obtain ⟨Ao93, co93, eo93⟩ := Kd.R_slice HO453.out
       (first | subst eo93 | (injection eo93 with f1_ f2_ f3_; have f4_ := f1_.symm; have f5_ := f3_.symm; clear f1_ f2_ f3_; subst f4_; subst f5_))
       refine hK.out _ _ ⟨(blk_cell BK438.out 0).trans rfl, (blk_cell BK438.out 1).trans rfl, (blk_cell BK438.out 2).trans rfl, (blk_cell BK415.out 0).trans rfl, (blk_cell BK415.out 1).trans rfl, (blk_cell BK415.out 2).trans rfl⟩ (fun hHeld => ?_)
       clear hK K
       refine sqN (some 54) ?_
       refine one_ (i := 3) (N := some 55) #[true, true, true, true, false] rfl rfl (by kernel_rfl) (by decide) (fun K hK => ?_)
       refine goes_ Tryz.func18 (by kernel_rfl) rfl #[.agg #[.int .i64 t433, .int .i64 t434, .slice Ao52 t435.length co52], .agg #[.int .i64 t449, .int .i64 t450, .slice Ao93 t451.length co93]] (by rfl) rfl rfl sqA ?_
       with_reducible refine (laws_eqDesk.calls kj24 t433 t434 _ _ t435 t449 t450 _ _ t451 true _ ?side1 ?side2 ?side3 ?side4 A87.out).mono ?_
       (case side1 => exact Z28 HO_439002)
       (case side2 => exact Z29 HO_439002)
       (case side3 => exact Z28 HO453)
       (case side4 => exact Z29 HO453)
       rintro e w94 ⟨rfl, hb⟩
       refine ⟨_, rfl, ?_⟩
       replace HO_433002 := Aside0.mk (Kd.Q_below (Z27 HO_433002) hb)
       replace HO_439002 := sqU HO_439002 hb
       replace HO_448002 := sqU HO_448002 hb
       replace HO453 := sqU HO453 hb
       replace BK415 := sqT BK415 hb
       replace BK416 := sqT BK416 hb
       replace BK432 := sqT BK432 hb
       replace BK438 := sqT BK438 hb
       replace BK447 := sqT BK447 hb
       replace HB := Aside0.mk (below_step (Z25 GE415 GE416 GE432 GE438 GE447) hb)
       (try clear hb)
       (try clear hb2)
       (try clear hk)
       (try clear hi)
       refine hK.out _ _ ⟨(blk_cell BK438.out 0).trans rfl, (blk_cell BK438.out 1).trans rfl, (blk_cell BK438.out 2).trans rfl, (blk_cell BK415.out 0).trans rfl, (blk_cell BK415.out 1).trans rfl, (blk_cell BK415.out 2).trans rfl⟩ (fun hHeld => ?_)
       clear hK K
       refine sqN (some 55) ?_
       refine pure_ (i := 4) (N := some 56) (v := ?_) (a' := ?_) #[true, true, true, true, true] rfl rfl (by kernel_rfl) (fun _ _ _ h => h) (Or.inl ⟨by rfl, ?_⟩) ?_ ?_
       rotate_left
       ·intro w'
        go_simp
        with_reducible rfl
       rotate_left
       ·simp only [Act.put, List.setIfInBounds_toArray, List.set_cons_zero, List.set_cons_succ, i64_w, i32_w]
        rfl
       refine done_ (by kernel_rfl) ?_
       have hnb95 := NB438_415.out
       have hnc95 := NB415_438.out
       have hnb96 := NB438_416.out
       have hnc96 := NB416_438.out
       have hnb97 := NB438_432.out
       have hnc97 := NB432_438.out
       have hnb98 := NB438_447.out
       have hnc98 := NB447_438.out
       obtain ⟨hcz99_0, hcz99_1, hcz99_2, hfz99_0, hfz99_1, hfz99_2⟩ := sqY3 BK438
       go_upto_region 17 with (first | ((with_reducible refine gate_callee (f := 19) rfl ?_); refine goesL_ (some 59) rfl rfl Tryz.func19 (by kernel_rfl) rfl #[.agg #[.int .i64 t433, .int .i64 t434, .slice Ao52 t435.length co52], .int .i64 1] rfl sqA ?_; (with_reducible refine (laws_markDesk.calls kj24 t433 t434 (fun k_ => some k_ = (.slice Ao52 t435.length co52 : Value).ownBlock) (.slice Ao52 t435.length co52) t435 1 t455 t456 w _ ?side1 ?side2 A89.out).mono ?_); (case side1 => exact Z25 GE415 GE416 GE432 GE438 GE447); (case side2 => exact Kd.R_tight rfl HO_439002.out); rintro e w100 ⟨rfl, hy0, hb, hkp⟩; refine ⟨_, rfl, ?_⟩; replace HO_433002 := Aside0.mk (Kd.Q_mono (ok' := fun k_ => some k_ ≠ (.slice Ao52 t435.length co52 : Value).ownBlock ∧ some k_ ≠ (.slice Ao61 t443.length co61 : Value).ownBlock ∧ some k_ ≠ (.slice Ao93 t451.length co93 : Value).ownBlock) (Kd.Q_keptB (HO_433002.out) hkp (fun k_ hk_ hs_ => (hk_.1.1) hs_)) (fun k_ hk_ => ⟨hk_.1.1.1, hk_.1.1.2, hk_.1.2⟩)); replace HO_448002 := Aside0.mk (Kd.R_mono (ok' := fun k_ => some k_ ≠ (.slice Ao42 t428.length co42 : Value).ownBlock ∧ some k_ ≠ (.slice Ao52 t435.length co52 : Value).ownBlock ∧ some k_ ≠ (.slice Ao93 t451.length co93 : Value).ownBlock) (Kd.R_keptB (HO_448002.out) hkp (fun k_ hk_ hs_ => (hk_.1.2) hs_)) (fun k_ hk_ => ⟨hk_.1.1.1, hk_.1.1.2, hk_.1.2⟩)); replace BK415 := Aside0.mk (blk_kept (sqK BK415) hkp (fun hs_ => (fun e_ => (Kd.R_ne HO_439002.out BK415.out (by decide)) e_) hs_)); replace BK416 := Aside0.mk (blk_kept (sqK BK416) hkp (fun hs_ => (fun e_ => (Kd.R_ne HO_439002.out BK416.out (by decide)) e_) hs_)); replace BK432 := Aside0.mk (blk_kept (sqK BK432) hkp (fun hs_ => (fun e_ => (Kd.R_ne HO_439002.out BK432.out (by decide)) e_) hs_)); replace BK438 := Aside0.mk (blk_kept (sqK BK438) hkp (fun hs_ => (fun e_ => (Kd.R_ne HO_439002.out BK438.out (by decide)) e_) hs_)); replace BK447 := Aside0.mk (blk_kept (sqK BK447) hkp (fun hs_ => (fun e_ => (Kd.R_ne HO_439002.out BK447.out (by decide)) e_) hs_)); replace HO_439002 := Aside0.mk (Kd.R_reok rfl hy0 (fun k_ e_ => HO_439002.out.1 k_ e_)); replace HO453 := Aside0.mk (Kd.R_mono (ok' := fun k_ => some k_ ≠ (.slice Ao42 t428.length co42 : Value).ownBlock ∧ some k_ ≠ (.slice Ao52 t435.length co52 : Value).ownBlock ∧ some k_ ≠ (.slice Ao61 t443.length co61 : Value).ownBlock) (Kd.R_keptB (HO453.out) hkp (fun k_ hk_ hs_ => (hk_.1.2) hs_)) (fun k_ hk_ => ⟨hk_.1.1.1.2, hk_.1.1.2, hk_.1.2⟩)); replace HB := Aside0.mk (hb); (try clear hb); (try clear hkp); (try clear hy0)))
       (try simp only [Act.put, List.setIfInBounds_toArray, List.set_cons_zero, List.set_cons_succ])
       go_cut [72] (fun v72 wc => ∃ (kq : Nat) (x72_89 : Bool), v72 = .bool x72_89 ∧ Aside0 (laws_FnExactDeskDo.j1 kq t431 x72_89 a0_0 a0_1 l0_2 a1_0 a1_1 t426 t427 t428 t441 t442 t443 = some r) ∧ Aside0 (kq ≤ kj24) ∧ Aside0 (Kd.Q k31 31 wc w.heap.size (fun k_ => some k_ ≠ ((.slice Ao52 t435.length co52) : Value).ownBlock ∧ some k_ ≠ ((.slice Ao61 t443.length co61) : Value).ownBlock) (.slice Ao42 t428.length co42) t428) ∧ Aside0 (Kd.R k31 31 wc w.heap.size (fun k_ => some k_ ≠ ((.slice Ao42 t428.length co42) : Value).ownBlock ∧ some k_ ≠ ((.slice Ao61 t443.length co61) : Value).ownBlock) (.slice Ao52 t435.length co52) t456) ∧ Aside0 (Kd.R k31 31 wc w.heap.size (fun k_ => some k_ ≠ ((.slice Ao42 t428.length co42) : Value).ownBlock ∧ some k_ ≠ ((.slice Ao52 t435.length co52) : Value).ownBlock) (.slice Ao61 t443.length co61) t443) ∧ Aside0 (wc.heap[gb415]? = some (.cells #[.int .i64 a0_0, .int .i64 a0_1, (.slice A0_2 l0_2.length c0_2)] 26 (0, 0))) ∧ Aside0 (wc.heap[gb416]? = some (.cells #[.int .i64 a1_0, .string a1_1] 28 (0, 0))) ∧ Aside0 (wc.heap[gb432]? = some (.cells #[.int .i64 t426, .int .i64 t427, (.slice Ao42 t428.length co42)] 34 (0, 0))) ∧ Aside0 (wc.heap[gb438]? = some (.cells #[.int .i64 t433, .int .i64 t434, (.slice Ao52 t435.length co52)] 34 (0, 0))) ∧ Aside0 (wc.heap[gb447]? = some (.cells #[.int .i64 t441, .int .i64 t442, (.slice Ao61 t443.length co61)] 34 (0, 0))) ∧ Aside0 (Below w.heap.size w wc))
       case first =>
        have H := HC90.out
        clear HC90
        by_cases c101 : t455 < 0
        ·rw [if_pos c101] at H
         have c101b0 : decide (t455 < 0) = true := decide_eq_true c101
         clear c101
         (first | rw [c101b0] | (simp only [i64_w, i32_w]; rw [c101b0]) | skip)
         have H' := Aside0.mk H
         clear H
         go_wp2
         go_meet
         case rel => exact ⟨_, (true), Z1, H', ⟨Z69⟩, ⟨Z70 HO_433002⟩, ⟨Z71 HO_439002⟩, ⟨Z72 HO_448002⟩, ⟨sqK BK415⟩, ⟨sqK BK416⟩, ⟨sqK BK432⟩, ⟨sqK BK438⟩, ⟨sqK BK447⟩, ⟨Z25 GE415 GE416 GE432 GE438 GE447⟩⟩
        ·rw [if_neg c101] at H
         have c101b0 : decide (t455 < 0) = false := decide_eq_false c101
         clear c101
         (first | rw [c101b0] | (simp only [i64_w, i32_w]; rw [c101b0]) | skip)
         obtain ⟨t457, A102, H⟩ := sqD H
         by_cases c103 : t457 = true
         ·subst c103
          have H1 : (laws_FnExactDeskDo.j1 kj24 t431 (t446 != t431) a0_0 a0_1 l0_2 a1_0 a1_1 t426 t427 t428 t441 t442 t443) = some r := by rw [if_pos rfl] at H; exact H
          clear H
          have H := H1
          clear H1
          have H' := Aside0.mk H
          clear H
          have hnb104 := NB447_415.out
          have hnc104 := NB415_447.out
          have hnb105 := NB447_416.out
          have hnc105 := NB416_447.out
          have hnb106 := NB447_432.out
          have hnc106 := NB432_447.out
          have hnb107 := NB447_438.out
          have hnc107 := NB438_447.out
          obtain ⟨hcz108_0, hcz108_1, hcz108_2, hfz108_0, hfz108_1, hfz108_2⟩ := sqY3 BK447
          have hnb109 := NB432_415.out
          have hnc109 := NB415_432.out
          have hnb110 := NB432_416.out
          have hnc110 := NB416_432.out
          have hnb111 := NB432_438.out
          have hnc111 := NB438_432.out
          obtain ⟨hcz112_0, hcz112_1, hcz112_2, hfz112_0, hfz112_1, hfz112_2⟩ := sqY3 BK432
          go_wp2_with (first | (go_at_call 18; (with_reducible refine (laws_eqDesk.calls kj24 t441 t442 _ _ t443 t426 t427 _ _ t428 true _ ?side1 ?side2 ?side3 ?side4 A102.out).mono ?_); (case side1 => exact Z28 HO_448002); (case side2 => exact Z29 HO_448002); (case side3 => exact Z26 HO_433002); (case side4 => exact (Kd.Q_reads' HO_433002.out).2.1); rintro e w113 ⟨rfl, hb⟩; replace HO_433002 := Aside0.mk (Kd.Q_below (Z27 HO_433002) hb); replace HO_439002 := sqU HO_439002 hb; replace HO_448002 := sqU HO_448002 hb; replace HO453 := sqU HO453 hb; replace BK415 := sqT BK415 hb; replace BK416 := sqT BK416 hb; replace BK432 := sqT BK432 hb; replace BK438 := sqT BK438 hb; replace BK447 := sqT BK447 hb; replace HB := Aside0.mk (below_step (Z25 GE415 GE416 GE432 GE438 GE447) hb); (try clear hb)))
          go_meet
          case rel => exact ⟨_, ((t446 != t431)), Z1, H', ⟨Z69⟩, ⟨Z70 HO_433002⟩, ⟨Z71 HO_439002⟩, ⟨Z72 HO_448002⟩, ⟨sqK BK415⟩, ⟨sqK BK416⟩, ⟨sqK BK432⟩, ⟨sqK BK438⟩, ⟨sqK BK447⟩, ⟨Z25 GE415 GE416 GE432 GE438 GE447⟩⟩
         ·replace c103 := Bool.eq_false_iff.mpr c103
          subst c103
          have H1 : (laws_FnExactDeskDo.j1 kj24 t431 true a0_0 a0_1 l0_2 a1_0 a1_1 t426 t427 t428 t441 t442 t443) = some r := by rw [if_neg (show ¬ (false = true) by decide)] at H; exact H
          clear H
          have H := H1
          clear H1
          have H' := Aside0.mk H
          clear H
          have hnb114 := NB447_415.out
          have hnc114 := NB415_447.out
          have hnb115 := NB447_416.out
          have hnc115 := NB416_447.out
          have hnb116 := NB447_432.out
          have hnc116 := NB432_447.out
          have hnb117 := NB447_438.out
          have hnc117 := NB438_447.out
          obtain ⟨hcz118_0, hcz118_1, hcz118_2, hfz118_0, hfz118_1, hfz118_2⟩ := sqY3 BK447
          have hnb119 := NB432_415.out
          have hnc119 := NB415_432.out
          have hnb120 := NB432_416.out
          have hnc120 := NB416_432.out
          have hnb121 := NB432_438.out
          have hnc121 := NB438_432.out
          obtain ⟨hcz122_0, hcz122_1, hcz122_2, hfz122_0, hfz122_1, hfz122_2⟩ := sqY3 BK432
          go_wp2_with (first | (go_at_call 18; (with_reducible refine (laws_eqDesk.calls kj24 t441 t442 _ _ t443 t426 t427 _ _ t428 false _ ?side1 ?side2 ?side3 ?side4 A102.out).mono ?_); (case side1 => exact Z28 HO_448002); (case side2 => exact Z29 HO_448002); (case side3 => exact Z26 HO_433002); (case side4 => exact (Kd.Q_reads' HO_433002.out).2.1); rintro e w123 ⟨rfl, hb⟩; replace HO_433002 := Aside0.mk (Kd.Q_below (Z27 HO_433002) hb); replace HO_439002 := sqU HO_439002 hb; replace HO_448002 := sqU HO_448002 hb; replace HO453 := sqU HO453 hb; replace BK415 := sqT BK415 hb; replace BK416 := sqT BK416 hb; replace BK432 := sqT BK432 hb; replace BK438 := sqT BK438 hb; replace BK447 := sqT BK447 hb; replace HB := Aside0.mk (below_step (Z25 GE415 GE416 GE432 GE438 GE447) hb); (try clear hb)))
          go_meet
          case rel => exact ⟨_, (true), Z1, H', ⟨Z69⟩, ⟨Z70 HO_433002⟩, ⟨Z71 HO_439002⟩, ⟨Z72 HO_448002⟩, ⟨sqK BK415⟩, ⟨sqK BK416⟩, ⟨sqK BK432⟩, ⟨sqK BK438⟩, ⟨sqK BK447⟩, ⟨Z25 GE415 GE416 GE432 GE438 GE447⟩⟩
       case rest =>
        clear HC90
        try clear c1; try clear p2; try clear c6; try clear c7; try clear c8; try clear c9; try clear c10; try clear c11; try clear c12; try clear c15; try clear c16; try clear c17; try clear c18; try clear c19; try clear c64; try clear c65; try clear c66; try clear c67; try clear c68; try clear c70; try clear c71; try clear c72; try clear c75; try clear c76; try clear c77; try clear c78; try clear c80; try clear c81; try clear c82; try clear c85; try clear c88; try clear c95; try clear c96; try clear c97; try clear c98; try clear c101; try clear c101b0; try clear c103; try clear c104; try clear c105; try clear c106; try clear c107; try clear c109; try clear c110; try clear c111; try clear c114; try clear c115; try clear c116; try clear c117; try clear c119; try clear c120; try clear c121; try clear hcz108_0; try clear hcz108_1; try clear hcz108_2; try clear hcz112_0; try clear hcz112_1; try clear hcz112_2; try clear hcz118_0; try clear hcz118_1; try clear hcz118_2; try clear hcz122_0; try clear hcz122_1; try clear hcz122_2; try clear hcz69_0; try clear hcz69_1; try clear hcz69_2; try clear hcz73_0; try clear hcz73_1; try clear hcz73_2; try clear hcz79_0; try clear hcz79_1; try clear hcz79_2; try clear hcz83_0; try clear hcz83_1; try clear hcz83_2; try clear hcz99_0; try clear hcz99_1; try clear hcz99_2; try clear hfz108_0; try clear hfz108_1; try clear hfz108_2; try clear hfz112_0; try clear hfz112_1; try clear hfz112_2; try clear hfz118_0; try clear hfz118_1; try clear hfz118_2; try clear hfz122_0; try clear hfz122_1; try clear hfz122_2; try clear hfz69_0; try clear hfz69_1; try clear hfz69_2; try clear hfz73_0; try clear hfz73_1; try clear hfz73_2; try clear hfz79_0; try clear hfz79_1; try clear hfz79_2; try clear hfz83_0; try clear hfz83_1; try clear hfz83_2; try clear hfz99_0; try clear hfz99_1; try clear hfz99_2; try clear p2
        obtain ⟨kq, x72_89, rfl, HA, HJ89, HO_433002, HO_439002, HO_448002, BK415, BK416, BK432, BK438, BK447, HB⟩ := hcut
        have hl439002_89 := (Kd.R_reads' HO_439002.out).1
        rw [hl439002_89] at HO_439002
        (try simp only [hl439002_89])
        (try simp only [hl439002_89] at BK415)
        (try simp only [hl439002_89] at BK416)
        (try simp only [hl439002_89] at BK432)
        (try simp only [hl439002_89] at BK438)
        (try simp only [hl439002_89] at BK447)
        (try simp only [hl439002_89] at HO_433002)
        (try simp only [hl439002_89] at HO_448002)
        cases kq with
        | zero => exact absurd HA.out (by simp [laws_FnExactDeskDo.j1])
        | succ kj89 =>
         have H := HA.out
         clear HA
         simp only [laws_FnExactDeskDo.j1] at H
         by_cases c124 : x72_89 = true
         ·subst c124
          have H1 : (some false) = some r := by rw [if_pos rfl] at H; exact H
          clear H
          have H := H1
          clear H1
          obtain rfl := Option.some.inj H
          go_wp2
          go_ret
          exact ⟨Z3, Z25 GE415 GE416 GE432 GE438 GE447⟩
         ·replace c124 := Bool.eq_false_iff.mpr c124
          subst c124
          have H1 : ((laws_markDesk.f kj89 t441 t442 t443 1).bind fun bt458 => ((laws_heldDesk.f kj89 t441 t442 bt458.2 1).bind fun t460 => (if t460 < 0 then (some false) else (if t460 = bt458.1 then ((laws_toDesk.f kj89 a0_0 a0_1 l0_2).bind fun bt461 => ((laws_toDeed.f a1_0 a1_1).bind fun bt466 => ((impl_DeskDo.f kj89 bt461.1 bt461.2.1 bt461.2.2 bt466.1 bt466.2).bind fun bt468 => ((laws_eqDesk.f kj89 bt468.1 bt468.2.1 bt468.2.2.1 t426 t427 t428).bind fun t475 => (if t475 = true then (laws_FnExactDeskDo.j2 kj89 bt458.1 (bt468.2.2.2 != t431) t441 t442 bt458.2) else (laws_FnExactDeskDo.j2 kj89 bt458.1 true t441 t442 bt458.2)))))) else (some false))))) = some r := by rw [if_neg (show ¬ (false = true) by decide)] at H; exact H
          clear H
          have H := H1
          clear H1
          replace H := Option.bind_eq_some_iff.mp H
          obtain ⟨⟨t458, t459⟩, A1250, H⟩ := H
          replace H : ((laws_heldDesk.f kj89 t441 t442 t459 1).bind fun t460 => (if t460 < 0 then (some false) else (if t460 = t458 then ((laws_toDesk.f kj89 a0_0 a0_1 l0_2).bind fun bt461 => ((laws_toDeed.f a1_0 a1_1).bind fun bt466 => ((impl_DeskDo.f kj89 bt461.1 bt461.2.1 bt461.2.2 bt466.1 bt466.2).bind fun bt468 => ((laws_eqDesk.f kj89 bt468.1 bt468.2.1 bt468.2.2.1 t426 t427 t428).bind fun t475 => (if t475 = true then (laws_FnExactDeskDo.j2 kj89 t458 (bt468.2.2.2 != t431) t441 t442 t459) else (laws_FnExactDeskDo.j2 kj89 t458 true t441 t442 t459)))))) else (some false)))) = some r := H
          have A125 := Aside0.mk A1250
          clear A1250
          obtain ⟨t460, A126, H⟩ := sqD H
          by_cases c127 : t460 < 0
          ·rw [if_pos c127] at H
           exact absurd (Option.some.inj H) (by rw [hT.out]; decide)
          ·rw [if_neg c127] at H
           have c127b0 : decide (t460 < 0) = false := decide_eq_false c127
           clear c127
           by_cases c136 : t460 = t458
           ·rw [if_pos c136] at H
            have c136b0 : (t460 == t458) = true := beq_iff_eq.mpr c136
            have c136b1 : (t460 != t458) = false := bne_eq_false_iff_eq.mpr c136
            clear c136
            replace H := Option.bind_eq_some_iff.mp H
            obtain ⟨⟨t461, t462, t463⟩, A1370, H⟩ := H
            replace H : ((laws_toDeed.f a1_0 a1_1).bind fun bt466 => ((impl_DeskDo.f kj89 t461 t462 t463 bt466.1 bt466.2).bind fun bt468 => ((laws_eqDesk.f kj89 bt468.1 bt468.2.1 bt468.2.2.1 t426 t427 t428).bind fun t475 => (if t475 = true then (laws_FnExactDeskDo.j2 kj89 t458 (bt468.2.2.2 != t431) t441 t442 t459) else (laws_FnExactDeskDo.j2 kj89 t458 true t441 t442 t459))))) = some r := H
            have A137 := Aside0.mk A1370
            clear A1370
            replace H := Option.bind_eq_some_iff.mp H
            obtain ⟨⟨t466, t467⟩, A1380, H⟩ := H
            replace H : ((impl_DeskDo.f kj89 t461 t462 t463 t466 t467).bind fun bt468 => ((laws_eqDesk.f kj89 bt468.1 bt468.2.1 bt468.2.2.1 t426 t427 t428).bind fun t475 => (if t475 = true then (laws_FnExactDeskDo.j2 kj89 t458 (bt468.2.2.2 != t431) t441 t442 t459) else (laws_FnExactDeskDo.j2 kj89 t458 true t441 t442 t459)))) = some r := H
            have A138 := Aside0.mk A1380
            clear A1380
            replace H := Option.bind_eq_some_iff.mp H
            obtain ⟨⟨t468, t469, t470, t473⟩, A1390, H⟩ := H
            replace H : ((laws_eqDesk.f kj89 t468 t469 t470 t426 t427 t428).bind fun t475 => (if t475 = true then (laws_FnExactDeskDo.j2 kj89 t458 (t473 != t431) t441 t442 t459) else (laws_FnExactDeskDo.j2 kj89 t458 true t441 t442 t459))) = some r := H
            have A139 := Aside0.mk A1390
            clear A1390
            have HC140 := Aside0.mk H
            clear H
            have hnb141 := NB447_415.out
            have hnc141 := NB415_447.out
            have hnb142 := NB447_416.out
            have hnc142 := NB416_447.out
            have hnb143 := NB447_432.out
            have hnc143 := NB432_447.out
            have hnb144 := NB447_438.out
            have hnc144 := NB438_447.out
            obtain ⟨hcz145_0, hcz145_1, hcz145_2, hfz145_0, hfz145_1, hfz145_2⟩ := sqY3 BK447
            try go_wp2_with (first | ((with_reducible refine gate_callee (f := 19) rfl ?_); refine goesL_ (some 75) rfl rfl Tryz.func19 (by kernel_rfl) rfl #[.agg #[.int .i64 t441, .int .i64 t442, .slice Ao61 t443.length co61], .int .i64 1] rfl sqA ?_; (with_reducible refine (laws_markDesk.calls kj89 t441 t442 (fun k_ => some k_ = (.slice Ao61 t443.length co61 : Value).ownBlock) (.slice Ao61 t443.length co61) t443 1 t458 t459 w _ ?side1 ?side2 A125.out).mono ?_); (case side1 => exact Z25 GE415 GE416 GE432 GE438 GE447); (case side2 => exact Kd.R_tight rfl HO_448002.out); rintro e w146 ⟨rfl, hy0, hb, hkp⟩; refine ⟨_, rfl, ?_⟩; replace HO_433002 := Aside0.mk (Kd.Q_mono (ok' := fun k_ => some k_ ≠ (.slice Ao52 t456.length co52 : Value).ownBlock ∧ some k_ ≠ (.slice Ao61 t443.length co61 : Value).ownBlock) (Kd.Q_keptB (HO_433002.out) hkp (fun k_ hk_ hs_ => (hk_.2) hs_)) (fun k_ hk_ => ⟨hk_.1.1, hk_.1.2⟩)); replace HO_439002 := Aside0.mk (Kd.R_mono (ok' := fun k_ => some k_ ≠ (.slice Ao42 t428.length co42 : Value).ownBlock ∧ some k_ ≠ (.slice Ao61 t443.length co61 : Value).ownBlock) (Kd.R_keptB (HO_439002.out) hkp (fun k_ hk_ hs_ => (hk_.2) hs_)) (fun k_ hk_ => ⟨hk_.1.1, hk_.1.2⟩)); replace BK415 := Aside0.mk (blk_kept (sqK BK415) hkp (fun hs_ => (fun e_ => (Kd.R_ne HO_448002.out BK415.out (by decide)) e_) hs_)); replace BK416 := Aside0.mk (blk_kept (sqK BK416) hkp (fun hs_ => (fun e_ => (Kd.R_ne HO_448002.out BK416.out (by decide)) e_) hs_)); replace BK432 := Aside0.mk (blk_kept (sqK BK432) hkp (fun hs_ => (fun e_ => (Kd.R_ne HO_448002.out BK432.out (by decide)) e_) hs_)); replace BK438 := Aside0.mk (blk_kept (sqK BK438) hkp (fun hs_ => (fun e_ => (Kd.R_ne HO_448002.out BK438.out (by decide)) e_) hs_)); replace BK447 := Aside0.mk (blk_kept (sqK BK447) hkp (fun hs_ => (fun e_ => (Kd.R_ne HO_448002.out BK447.out (by decide)) e_) hs_)); replace HO_448002 := Aside0.mk (Kd.R_reok rfl hy0 (fun k_ e_ => HO_448002.out.1 k_ e_)); replace HB := Aside0.mk (hb); (try clear hb); (try clear hkp); (try clear hy0); obtain ⟨hcz147_0, hcz147_1, hcz147_2, hfz147_0, hfz147_1, hfz147_2⟩ := sqY3 BK447) | ((with_reducible refine gate_callee (f := 20) rfl ?_); refine goesL_ (some 78) rfl rfl Tryz.func20 (by kernel_rfl) rfl #[.agg #[.int .i64 t441, .int .i64 t442, .slice Ao61 t459.length co61], .int .i64 1] rfl (by (try simp only [List.map_toArray, List.map_cons, List.map_nil]); first | done | (rw [show t459.length = t443.length from (Kd.R_reads' HO_448002.out).1.symm] <;> rfl) | rfl | (simp only [List.length_drop, List.length_take]; rfl)) ?_; (with_reducible refine (laws_heldDesk.calls kj89 t441 t442 _ _ t459 1 t460 _ ?side1 ?side2 A126.out).mono ?_); (case side1 => exact Z28 HO_448002); (case side2 => rw [show t459.length = t443.length from (Kd.R_reads' HO_448002.out).1.symm]; exact (Kd.R_reads' HO_448002.out).2.1); rintro e w148 ⟨rfl, hb⟩; refine ⟨_, rfl, ?_⟩; replace HO_433002 := Aside0.mk (Kd.Q_below (Z27 HO_433002) hb); replace HO_439002 := sqU HO_439002 hb; replace HO_448002 := sqU HO_448002 hb; replace BK415 := sqT BK415 hb; replace BK416 := sqT BK416 hb; replace BK432 := sqT BK432 hb; replace BK438 := sqT BK438 hb; replace BK447 := sqT BK447 hb; replace HB := Aside0.mk (below_step (Z25 GE415 GE416 GE432 GE438 GE447) hb); (try clear hb)))
            replace HO_433002 := Aside0.mk (Kd.Q_drew HO_433002.out)
            replace HO_439002 := Aside0.mk (Kd.R_drew HO_439002.out)
            replace HO_448002 := Aside0.mk (Kd.R_drew HO_448002.out)
            replace BK415 := Aside0.mk (blk_drew BK415.out)
            replace BK416 := Aside0.mk (blk_drew BK416.out)
            replace BK432 := Aside0.mk (blk_drew BK432.out)
            replace BK438 := Aside0.mk (blk_drew BK438.out)
            replace BK447 := Aside0.mk (blk_drew BK447.out)
            replace HB := Aside0.mk (below_drew1 HB.out)
            refine start_ (n := 11) (S := fun w' => w'.cell? ⟨gb415, 0, none⟩ = some (.int .i64 a0_0) ∧ w'.cell? ⟨gb415, 1, none⟩ = some (.int .i64 a0_1) ∧ w'.cell? ⟨gb415, 2, none⟩ = some (.slice A0_2 l0_2.length c0_2) ∧ w'.cell? ⟨gb416, 0, none⟩ = some (.int .i64 a1_0) ∧ w'.cell? ⟨gb416, 1, none⟩ = some (.string a1_1)) (ds := []) #[false, false, false, false, false, false, false, false, false, false, false] (by kernel_rfl) rfl rfl ⟨(blk_cell BK415.out 0).trans rfl, (blk_cell BK415.out 1).trans rfl, (blk_cell BK415.out 2).trans rfl, (blk_cell BK416.out 0).trans rfl, (blk_cell BK416.out 1).trans rfl⟩ (fun hHeld => ?_); refine with_tabW laws_FnExactDeskDo.tab27 laws_FnExactDeskDo.bits27 (fun HT_ HW_ => ?_)
            generalize w148.drew = w149 at HO_433002 HO_439002 HO_448002 BK415 BK416 BK432 BK438 BK447 HB hHeld ⊢
            refine take_ (i := 0) (N := some 85) (v := ?_) (a' := ?_) #[true, false, false, false, false, false, false, false, false, false, false] rfl rfl (take_ofW HT_.out HW_.out (by kernel_rfl)) (fun _ _ _ h => h) (Or.inl ⟨by rfl, ?_⟩) hHeld ?_ ?_
            rotate_left
            ·rintro w' ⟨s0, s1, s2, s3, s4⟩
             go_simp
             with_reducible rfl
            rotate_left
            ·simp only [Act.put, List.setIfInBounds_toArray, List.set_cons_zero, List.set_cons_succ, i64_w, i32_w]
             rfl
            refine take_ (i := 2) (N := some 87) (v := ?_) (a' := ?_) #[true, false, true, false, false, false, false, false, false, false, false] rfl rfl (take_ofW HT_.out HW_.out (by kernel_rfl)) (fun _ _ _ h => h) (Or.inl ⟨by rfl, ?_⟩) hHeld ?_ ?_
            rotate_left
            ·rintro w' ⟨s0, s1, s2, s3, s4⟩
             go_simp
             with_reducible rfl
            rotate_left
            ·simp only [Act.put, List.setIfInBounds_toArray, List.set_cons_zero, List.set_cons_succ, i64_w, i32_w]
             rfl
            refine join_ (σ := Value × Value × Nat) 2 #[true, true, true, true, true, true, true, true, true, false, false] (fun s_ => [(86, .agg #[.int .i64 t461, .int .i64 t462, s_.1]), (88, .agg #[.int .i64 t466, .string t467]), (89, .tuple #[.agg #[.int .i64 t468, .int .i64 t469, s_.2.1], .bool t473]), (14, .pointer (some ⟨s_.2.2, 0, none⟩)), (84, .tuple #[.agg #[.int .i64 t468, .int .i64 t469, s_.2.1], .bool t473]), (90, .agg #[.int .i64 t468, .int .i64 t469, s_.2.1]), (91, .bool t473)]) (fun s_ w' => (w'.cell? ⟨gb415, 0, none⟩ = some (.int .i64 a0_0) ∧ w'.cell? ⟨gb415, 1, none⟩ = some (.int .i64 a0_1) ∧ w'.cell? ⟨gb415, 2, none⟩ = some (.slice A0_2 l0_2.length c0_2) ∧ w'.cell? ⟨gb416, 0, none⟩ = some (.int .i64 a1_0) ∧ w'.cell? ⟨gb416, 1, none⟩ = some (.string a1_1)) ∧ (Kd.R k31 31 w' w.heap.size (fun k_ => some k_ ≠ (s_.2.1 : Value).ownBlock ∧ some k_ ≠ (.slice Ao42 t428.length co42 : Value).ownBlock ∧ some k_ ≠ (.slice Ao52 t456.length co52 : Value).ownBlock ∧ some k_ ≠ (.slice Ao61 t443.length co61 : Value).ownBlock) s_.1 t463) ∧ (Kd.R k31 31 w' w.heap.size (fun k_ => some k_ ≠ (s_.1 : Value).ownBlock ∧ some k_ ≠ (.slice Ao42 t428.length co42 : Value).ownBlock ∧ some k_ ≠ (.slice Ao52 t456.length co52 : Value).ownBlock ∧ some k_ ≠ (.slice Ao61 t443.length co61 : Value).ownBlock) s_.2.1 t470) ∧ (Kd.Q k31 31 w' w.heap.size (fun k_ => some k_ ≠ (s_.1 : Value).ownBlock ∧ some k_ ≠ (s_.2.1 : Value).ownBlock ∧ some k_ ≠ (.slice Ao52 t456.length co52 : Value).ownBlock ∧ some k_ ≠ (.slice Ao61 t443.length co61 : Value).ownBlock) (.slice Ao42 t428.length co42) t428) ∧ (Kd.R k31 31 w' w.heap.size (fun k_ => some k_ ≠ (s_.1 : Value).ownBlock ∧ some k_ ≠ (s_.2.1 : Value).ownBlock ∧ some k_ ≠ (.slice Ao42 t428.length co42 : Value).ownBlock ∧ some k_ ≠ (.slice Ao61 t443.length co61 : Value).ownBlock) (.slice Ao52 t456.length co52) t456) ∧ (Kd.R k31 31 w' w.heap.size (fun k_ => some k_ ≠ (s_.1 : Value).ownBlock ∧ some k_ ≠ (s_.2.1 : Value).ownBlock ∧ some k_ ≠ (.slice Ao42 t428.length co42 : Value).ownBlock ∧ some k_ ≠ (.slice Ao52 t456.length co52 : Value).ownBlock) (.slice Ao61 t443.length co61) t459) ∧ (w'.heap[gb415]? = some (.cells #[.int .i64 a0_0, .int .i64 a0_1, .slice A0_2 l0_2.length c0_2] 26 (0, 0))) ∧ (w'.heap[gb416]? = some (.cells #[.int .i64 a1_0, .string a1_1] 28 (0, 0))) ∧ (w'.heap[gb432]? = some (.cells #[.int .i64 t426, .int .i64 t427, .slice Ao42 t428.length co42] 34 (0, 0))) ∧ (w'.heap[gb438]? = some (.cells #[.int .i64 t433, .int .i64 t434, .slice Ao52 t456.length co52] 34 (0, 0))) ∧ (w'.heap[gb447]? = some (.cells #[.int .i64 t441, .int .i64 t442, .slice Ao61 t443.length co61] 34 (0, 0))) ∧ (w'.heap[s_.2.2]? = some (.cells #[.int .i64 0, .int .i64 0, .slice none 0 0] 34 (0, 0))) ∧ (w.heap.size ≤ s_.2.2) ∧ (w.heap.size ≤ s_.2.2) ∧ (gb415 ≠ s_.2.2) ∧ (s_.2.2 ≠ gb415) ∧ (gb416 ≠ s_.2.2) ∧ (s_.2.2 ≠ gb416) ∧ (gb432 ≠ s_.2.2) ∧ (s_.2.2 ≠ gb432) ∧ (gb438 ≠ s_.2.2) ∧ (s_.2.2 ≠ gb438) ∧ (gb447 ≠ s_.2.2) ∧ (s_.2.2 ≠ gb447) ∧ (Below w.heap.size w w')) ?_ ?_
            rotate_left
            ·intro hCont
             refine two_ (i := 1) (j := 8) (Ni := some 86) (Nj := some 14) #[true, true, true, false, false, false, false, false, false, false, false] #[true, false, true, false, false, false, false, false, true, false, false] rfl rfl rfl rfl (two_of HT_.out (by kernel_rfl)) (by decide) (by decide) (fun K hK => ?_) (fun K hK => ?_)
             ·skip
              refine goes_ Tryz.func15 (by kernel_rfl) rfl #[.agg #[.int .i64 a0_0, .int .i64 a0_1, .slice A0_2 l0_2.length c0_2]] (by rfl) rfl rfl sqA ?_
              with_reducible refine (laws_toDesk.calls kj89 a0_0 a0_1 _ _ l0_2 t461 t462 t463 _ ?side1 ?side2 A137.out).mono ?_
              (case side1 => exact Z5)
              (case side2 => exact Z6)
              rintro e w150 ⟨v464, rfl, ho0, hb⟩
              refine ⟨_, rfl, ?_⟩
              have HO465 := Aside0.mk (Kd.R_lower (Kd.R_new' (Kd.R_new' (Kd.R_new' ho0 (Kd.Q_lt (Z27 HO_433002))) (Kd.R_lt (sqR HO_439002))) (Kd.R_lt (sqR HO_448002))) (below_size (Z25 GE415 GE416 GE432 GE438 GE447)))
              replace HO_433002 := Aside0.mk (Kd.Q_elder' (Z27 HO_433002) (Kd.R_base ho0) hb)
              replace HO_439002 := Aside0.mk (Kd.R_elder' (sqR HO_439002) (Kd.R_base ho0) hb)
              replace HO_448002 := Aside0.mk (Kd.R_elder' (sqR HO_448002) (Kd.R_base ho0) hb)
              replace BK415 := sqT BK415 hb
              replace BK416 := sqT BK416 hb
              replace BK432 := sqT BK432 hb
              replace BK438 := sqT BK438 hb
              replace BK447 := sqT BK447 hb
              replace HB := Aside0.mk (below_step (Z25 GE415 GE416 GE432 GE438 GE447) hb)
              (try clear hb)
              (try clear hb2)
              (try clear hk)
              (try clear hi)
              (try clear ho0)
              refine hK.out _ _ ⟨(blk_cell BK415.out 0).trans rfl, (blk_cell BK415.out 1).trans rfl, (blk_cell BK415.out 2).trans rfl, (blk_cell BK416.out 0).trans rfl, (blk_cell BK416.out 1).trans rfl⟩ (fun hHeld => ?_)
              clear hK K
              refine sqN (some 86) ?_
              refine two_ (i := 3) (j := 8) (Ni := some 88) (Nj := some 14) #[true, true, true, true, false, false, false, false, false, false, false] #[true, true, true, false, false, false, false, false, true, false, false] rfl rfl rfl rfl (two_of HT_.out (by kernel_rfl)) (by decide) (by decide) (fun K hK => ?_) (fun K hK => ?_)
              ·skip
               refine goes_ Tryz.func16 (by kernel_rfl) rfl #[.agg #[.int .i64 a1_0, .string a1_1]] (by rfl) rfl rfl sqA ?_
               with_reducible refine (laws_toDeed.calls a1_0 a1_1 t466 t467 _ A138.out).mono ?_
               rintro e w151 ⟨rfl, hb⟩
               refine ⟨_, rfl, ?_⟩
               replace HO_433002 := Aside0.mk (Kd.Q_below (Z27 HO_433002) hb)
               replace HO_439002 := sqU HO_439002 hb
               replace HO_448002 := sqU HO_448002 hb
               replace HO465 := sqU HO465 hb
               replace BK415 := sqT BK415 hb
               replace BK416 := sqT BK416 hb
               replace BK432 := sqT BK432 hb
               replace BK438 := sqT BK438 hb
               replace BK447 := sqT BK447 hb
               replace HB := Aside0.mk (below_step (Z25 GE415 GE416 GE432 GE438 GE447) hb)
               (try clear hb)
               (try clear hb2)
               (try clear hk)
               (try clear hi)
               obtain ⟨Ao152, co152, eo152⟩ := Kd.R_slice HO465.out
               (first | subst eo152 | (injection eo152 with f1_ f2_ f3_; have f4_ := f1_.symm; have f5_ := f3_.symm; clear f1_ f2_ f3_; subst f4_; subst f5_))
               refine hK.out _ _ ⟨(blk_cell BK415.out 0).trans rfl, (blk_cell BK415.out 1).trans rfl, (blk_cell BK415.out 2).trans rfl, (blk_cell BK416.out 0).trans rfl, (blk_cell BK416.out 1).trans rfl⟩ (fun hHeld => ?_)
               clear hK K
               refine sqN (some 88) ?_
               refine two_ (i := 4) (j := 8) (Ni := some 89) (Nj := some 14) #[true, true, true, true, true, false, false, false, false, false, false] #[true, true, true, true, false, false, false, false, true, false, false] rfl rfl rfl rfl (two_of HT_.out (by kernel_rfl)) (by decide) (by decide) (fun K hK => ?_) (fun K hK => ?_)
               ·skip
                refine goes_ Tryz.func17 (by kernel_rfl) rfl #[.agg #[.int .i64 t461, .int .i64 t462, .slice Ao152 t463.length co152], .agg #[.int .i64 t466, .string t467]] (by rfl) rfl rfl sqA ?_
                with_reducible refine (impl_DeskDo.calls kj89 t461 t462 _ _ t463 t466 t467 t468 t469 t470 t473 _ ?sideG ?side1 ?side2 A139.out).mono ?_
                (case sideG => exact Glob.below hG (Z25 GE415 GE416 GE432 GE438 GE447))
                (case side1 => exact Z28 HO465)
                (case side2 => exact Z29 HO465)
                rintro e w153 ⟨v471, rfl, ho0, hb⟩
                refine ⟨_, rfl, ?_⟩
                have HO472 := Aside0.mk (Kd.R_lower (Kd.R_new' (Kd.R_new' (Kd.R_new' (Kd.R_new' ho0 (Kd.Q_lt (Z27 HO_433002))) (Kd.R_lt (sqR HO_439002))) (Kd.R_lt (sqR HO_448002))) (Kd.R_lt (sqR HO465))) (below_size (Z25 GE415 GE416 GE432 GE438 GE447)))
                replace HO_433002 := Aside0.mk (Kd.Q_elder' (Z27 HO_433002) (Kd.R_base ho0) hb)
                replace HO_439002 := Aside0.mk (Kd.R_elder' (sqR HO_439002) (Kd.R_base ho0) hb)
                replace HO_448002 := Aside0.mk (Kd.R_elder' (sqR HO_448002) (Kd.R_base ho0) hb)
                replace HO465 := Aside0.mk (Kd.R_elder' (sqR HO465) (Kd.R_base ho0) hb)
                replace BK415 := sqT BK415 hb
                replace BK416 := sqT BK416 hb
                replace BK432 := sqT BK432 hb
                replace BK438 := sqT BK438 hb
                replace BK447 := sqT BK447 hb
                replace HB := Aside0.mk (below_step (Z25 GE415 GE416 GE432 GE438 GE447) hb)
                (try clear hb)
                (try clear hb2)
                (try clear hk)
                (try clear hi)
                (try clear ho0)
                refine hK.out _ _ ⟨(blk_cell BK415.out 0).trans rfl, (blk_cell BK415.out 1).trans rfl, (blk_cell BK415.out 2).trans rfl, (blk_cell BK416.out 0).trans rfl, (blk_cell BK416.out 1).trans rfl⟩ (fun hHeld => ?_)
                clear hK K
                refine sqN (some 89) ?_
                refine sqP (i := 5) (N := some 84) (h := ?_)
                refine sqP (i := 6) (N := some 90) (h := ?_)
                refine sqP (i := 7) (N := some 91) (h := ?_)
                refine one_ (i := 8) (N := some 14) #[true, true, true, true, true, true, true, true, true, false, false] rfl rfl (one_of HT_.out (by kernel_rfl)) (by decide) (fun K hK => ?_)
                refine box_step ?hg (N := 14) ?hd (cs := #[.int .i64 0, .int .i64 0, .slice none 0 0]) (t := 34) ?hr ?_; (case hd => rfl); (case hg => rfl); (case hr => exact Z7)
                intro gb474 hg w154 hbox hb
                replace HO_433002 := Aside0.mk (Kd.Q_below (Z27 HO_433002) hb)
                replace HO_439002 := sqU HO_439002 hb
                replace HO_448002 := sqU HO_448002 hb
                replace HO465 := sqU HO465 hb
                replace HO472 := sqU HO472 hb
                have BK474 := Aside0.mk (hbox)
                have GW474 := Aside0.mk ((Z86 GE415 GE416 GE432 GE438 GE447 : w.heap.size ≤ gb474))
                have GE474 := Aside0.mk ((Z86 GE415 GE416 GE432 GE438 GE447 : w.heap.size ≤ gb474))
                replace HB := Aside0.mk (below_step (Z25 GE415 GE416 GE432 GE438 GE447) hb)
                have NB415_474 := Aside0.mk ((Z40 BK415 : gb415 ≠ gb474))
                have NB474_415 := Aside0.mk ((Z41 BK415 : gb474 ≠ gb415))
                replace BK415 := sqT BK415 hb
                have NB416_474 := Aside0.mk ((Z40 BK416 : gb416 ≠ gb474))
                have NB474_416 := Aside0.mk ((Z41 BK416 : gb474 ≠ gb416))
                replace BK416 := sqT BK416 hb
                have NB432_474 := Aside0.mk ((Z40 BK432 : gb432 ≠ gb474))
                have NB474_432 := Aside0.mk ((Z41 BK432 : gb474 ≠ gb432))
                replace BK432 := sqT BK432 hb
                have NB438_474 := Aside0.mk ((Z40 BK438 : gb438 ≠ gb474))
                have NB474_438 := Aside0.mk ((Z41 BK438 : gb474 ≠ gb438))
                replace BK438 := sqT BK438 hb
                have NB447_474 := Aside0.mk ((Z40 BK447 : gb447 ≠ gb474))
                have NB474_447 := Aside0.mk ((Z41 BK447 : gb474 ≠ gb447))
                replace BK447 := sqT BK447 hb
                clear hb hbox hg
                refine hK.out _ _ ⟨(blk_cell BK415.out 0).trans rfl, (blk_cell BK415.out 1).trans rfl, (blk_cell BK415.out 2).trans rfl, (blk_cell BK416.out 0).trans rfl, (blk_cell BK416.out 1).trans rfl⟩ (fun hHeld => ?_)
                clear hK K
                refine sqN (some 14) ?_
                exact norm_ Z42 (hCont (.slice Ao152 t463.length co152, v471, gb474) _ ⟨hHeld, (Z73 HO465), (Z73 HO472), (Z74 HO_433002), (Z75 HO_439002), (Z75 HO_448002), (sqK BK415), (sqK BK416), (sqK BK432), (sqK BK438), (sqK BK447), (sqK BK474), GW474.out, GE474.out, NB415_474.out, NB474_415.out, NB416_474.out, NB474_416.out, NB432_474.out, NB474_432.out, NB438_474.out, NB474_438.out, NB447_474.out, NB474_447.out, (Z76 GE415 GE416 GE432 GE438 GE447 GE474)⟩)
               ·skip
                refine box_step ?hg (N := 14) ?hd (cs := #[.int .i64 0, .int .i64 0, .slice none 0 0]) (t := 34) ?hr ?_; (case hd => rfl); (case hg => rfl); (case hr => exact Z7)
                intro gb474 hg w152 hbox hb
                replace HO_433002 := Aside0.mk (Kd.Q_below (Z27 HO_433002) hb)
                replace HO_439002 := sqU HO_439002 hb
                replace HO_448002 := sqU HO_448002 hb
                replace HO465 := sqU HO465 hb
                have BK474 := Aside0.mk (hbox)
                have GW474 := Aside0.mk ((Z86 GE415 GE416 GE432 GE438 GE447 : w.heap.size ≤ gb474))
                have GE474 := Aside0.mk ((Z86 GE415 GE416 GE432 GE438 GE447 : w.heap.size ≤ gb474))
                replace HB := Aside0.mk (below_step (Z25 GE415 GE416 GE432 GE438 GE447) hb)
                have NB415_474 := Aside0.mk ((Z40 BK415 : gb415 ≠ gb474))
                have NB474_415 := Aside0.mk ((Z41 BK415 : gb474 ≠ gb415))
                replace BK415 := sqT BK415 hb
                have NB416_474 := Aside0.mk ((Z40 BK416 : gb416 ≠ gb474))
                have NB474_416 := Aside0.mk ((Z41 BK416 : gb474 ≠ gb416))
                replace BK416 := sqT BK416 hb
                have NB432_474 := Aside0.mk ((Z40 BK432 : gb432 ≠ gb474))
                have NB474_432 := Aside0.mk ((Z41 BK432 : gb474 ≠ gb432))
                replace BK432 := sqT BK432 hb
                have NB438_474 := Aside0.mk ((Z40 BK438 : gb438 ≠ gb474))
                have NB474_438 := Aside0.mk ((Z41 BK438 : gb474 ≠ gb438))
                replace BK438 := sqT BK438 hb
                have NB447_474 := Aside0.mk ((Z40 BK447 : gb447 ≠ gb474))
                have NB474_447 := Aside0.mk ((Z41 BK447 : gb474 ≠ gb447))
                replace BK447 := sqT BK447 hb
                clear hb hbox hg
                obtain ⟨Ao153, co153, eo153⟩ := Kd.R_slice HO465.out
                (first | subst eo153 | (injection eo153 with f1_ f2_ f3_; have f4_ := f1_.symm; have f5_ := f3_.symm; clear f1_ f2_ f3_; subst f4_; subst f5_))
                refine hK.out _ _ ⟨(blk_cell BK415.out 0).trans rfl, (blk_cell BK415.out 1).trans rfl, (blk_cell BK415.out 2).trans rfl, (blk_cell BK416.out 0).trans rfl, (blk_cell BK416.out 1).trans rfl⟩ (fun hHeld => ?_)
                clear hK K
                refine sqN (some 14) ?_
                refine one_ (i := 4) (N := some 89) #[true, true, true, true, true, false, false, false, true, false, false] rfl rfl (one_of HT_.out (by kernel_rfl)) (by decide) (fun K hK => ?_)
                refine goes_ Tryz.func17 (by kernel_rfl) rfl #[.agg #[.int .i64 t461, .int .i64 t462, .slice Ao153 t463.length co153], .agg #[.int .i64 t466, .string t467]] (by rfl) rfl rfl sqA ?_
                with_reducible refine (impl_DeskDo.calls kj89 t461 t462 _ _ t463 t466 t467 t468 t469 t470 t473 _ ?sideG ?side1 ?side2 A139.out).mono ?_
                (case sideG => exact Glob.below hG (Z76 GE415 GE416 GE432 GE438 GE447 GE474))
                (case side1 => exact Z28 HO465)
                (case side2 => exact Z29 HO465)
                rintro e w154 ⟨v471, rfl, ho0, hb⟩
                refine ⟨_, rfl, ?_⟩
                have HO472 := Aside0.mk (Kd.R_lower (Kd.R_new' (Kd.R_new' (Kd.R_new' (Kd.R_new' ho0 (Kd.Q_lt (Z27 HO_433002))) (Kd.R_lt (sqR HO_439002))) (Kd.R_lt (sqR HO_448002))) (Kd.R_lt (sqR HO465))) (below_size (Z76 GE415 GE416 GE432 GE438 GE447 GE474)))
                replace HO_433002 := Aside0.mk (Kd.Q_elder' (Z27 HO_433002) (Kd.R_base ho0) hb)
                replace HO_439002 := Aside0.mk (Kd.R_elder' (sqR HO_439002) (Kd.R_base ho0) hb)
                replace HO_448002 := Aside0.mk (Kd.R_elder' (sqR HO_448002) (Kd.R_base ho0) hb)
                replace HO465 := Aside0.mk (Kd.R_elder' (sqR HO465) (Kd.R_base ho0) hb)
                replace BK415 := sqT BK415 hb
                replace BK416 := sqT BK416 hb
                replace BK432 := sqT BK432 hb
                replace BK438 := sqT BK438 hb
                replace BK447 := sqT BK447 hb
                replace BK474 := sqT BK474 hb
                replace HB := Aside0.mk (below_step (Z76 GE415 GE416 GE432 GE438 GE447 GE474) hb)
                (try clear hb)
                (try clear hb2)
                (try clear hk)
                (try clear hi)
                (try clear ho0)
                refine hK.out _ _ ⟨(blk_cell BK415.out 0).trans rfl, (blk_cell BK415.out 1).trans rfl, (blk_cell BK415.out 2).trans rfl, (blk_cell BK416.out 0).trans rfl, (blk_cell BK416.out 1).trans rfl⟩ (fun hHeld => ?_)
                clear hK K
                refine sqN (some 89) ?_
                refine sqP (i := 5) (N := some 84) (h := ?_)
                refine sqP (i := 6) (N := some 90) (h := ?_)
                refine sqP (i := 7) (N := some 91) (h := ?_)
                exact norm_ Z42 (hCont (.slice Ao153 t463.length co153, v471, gb474) _ ⟨hHeld, (Z73 HO465), (Z73 HO472), (Z74 HO_433002), (Z75 HO_439002), (Z75 HO_448002), (sqK BK415), (sqK BK416), (sqK BK432), (sqK BK438), (sqK BK447), (sqK BK474), GW474.out, GE474.out, NB415_474.out, NB474_415.out, NB416_474.out, NB474_416.out, NB432_474.out, NB474_432.out, NB438_474.out, NB474_438.out, NB447_474.out, NB474_447.out, (Z76 GE415 GE416 GE432 GE438 GE447 GE474)⟩)
              ·skip
               refine box_step ?hg (N := 14) ?hd (cs := #[.int .i64 0, .int .i64 0, .slice none 0 0]) (t := 34) ?hr ?_; (case hd => rfl); (case hg => rfl); (case hr => exact Z7)
               intro gb474 hg w151 hbox hb
               replace HO_433002 := Aside0.mk (Kd.Q_below (Z27 HO_433002) hb)
               replace HO_439002 := sqU HO_439002 hb
               replace HO_448002 := sqU HO_448002 hb
               replace HO465 := sqU HO465 hb
               have BK474 := Aside0.mk (hbox)
               have GW474 := Aside0.mk ((Z86 GE415 GE416 GE432 GE438 GE447 : w.heap.size ≤ gb474))
               have GE474 := Aside0.mk ((Z86 GE415 GE416 GE432 GE438 GE447 : w.heap.size ≤ gb474))
               replace HB := Aside0.mk (below_step (Z25 GE415 GE416 GE432 GE438 GE447) hb)
               have NB415_474 := Aside0.mk ((Z40 BK415 : gb415 ≠ gb474))
               have NB474_415 := Aside0.mk ((Z41 BK415 : gb474 ≠ gb415))
               replace BK415 := sqT BK415 hb
               have NB416_474 := Aside0.mk ((Z40 BK416 : gb416 ≠ gb474))
               have NB474_416 := Aside0.mk ((Z41 BK416 : gb474 ≠ gb416))
               replace BK416 := sqT BK416 hb
               have NB432_474 := Aside0.mk ((Z40 BK432 : gb432 ≠ gb474))
               have NB474_432 := Aside0.mk ((Z41 BK432 : gb474 ≠ gb432))
               replace BK432 := sqT BK432 hb
               have NB438_474 := Aside0.mk ((Z40 BK438 : gb438 ≠ gb474))
               have NB474_438 := Aside0.mk ((Z41 BK438 : gb474 ≠ gb438))
               replace BK438 := sqT BK438 hb
               have NB447_474 := Aside0.mk ((Z40 BK447 : gb447 ≠ gb474))
               have NB474_447 := Aside0.mk ((Z41 BK447 : gb474 ≠ gb447))
               replace BK447 := sqT BK447 hb
               clear hb hbox hg
               refine hK.out _ _ ⟨(blk_cell BK415.out 0).trans rfl, (blk_cell BK415.out 1).trans rfl, (blk_cell BK415.out 2).trans rfl, (blk_cell BK416.out 0).trans rfl, (blk_cell BK416.out 1).trans rfl⟩ (fun hHeld => ?_)
               clear hK K
               refine sqN (some 14) ?_
               refine one_ (i := 3) (N := some 88) #[true, true, true, true, false, false, false, false, true, false, false] rfl rfl (one_of HT_.out (by kernel_rfl)) (by decide) (fun K hK => ?_)
               refine goes_ Tryz.func16 (by kernel_rfl) rfl #[.agg #[.int .i64 a1_0, .string a1_1]] (by rfl) rfl rfl sqA ?_
               with_reducible refine (laws_toDeed.calls a1_0 a1_1 t466 t467 _ A138.out).mono ?_
               rintro e w152 ⟨rfl, hb⟩
               refine ⟨_, rfl, ?_⟩
               replace HO_433002 := Aside0.mk (Kd.Q_below (Z27 HO_433002) hb)
               replace HO_439002 := sqU HO_439002 hb
               replace HO_448002 := sqU HO_448002 hb
               replace HO465 := sqU HO465 hb
               replace BK415 := sqT BK415 hb
               replace BK416 := sqT BK416 hb
               replace BK432 := sqT BK432 hb
               replace BK438 := sqT BK438 hb
               replace BK447 := sqT BK447 hb
               replace BK474 := sqT BK474 hb
               replace HB := Aside0.mk (below_step (Z76 GE415 GE416 GE432 GE438 GE447 GE474) hb)
               (try clear hb)
               (try clear hb2)
               (try clear hk)
               (try clear hi)
               obtain ⟨Ao153, co153, eo153⟩ := Kd.R_slice HO465.out
               (first | subst eo153 | (injection eo153 with f1_ f2_ f3_; have f4_ := f1_.symm; have f5_ := f3_.symm; clear f1_ f2_ f3_; subst f4_; subst f5_))
               refine hK.out _ _ ⟨(blk_cell BK415.out 0).trans rfl, (blk_cell BK415.out 1).trans rfl, (blk_cell BK415.out 2).trans rfl, (blk_cell BK416.out 0).trans rfl, (blk_cell BK416.out 1).trans rfl⟩ (fun hHeld => ?_)
               clear hK K
               refine sqN (some 88) ?_
               refine one_ (i := 4) (N := some 89) #[true, true, true, true, true, false, false, false, true, false, false] rfl rfl (one_of HT_.out (by kernel_rfl)) (by decide) (fun K hK => ?_)
               refine goes_ Tryz.func17 (by kernel_rfl) rfl #[.agg #[.int .i64 t461, .int .i64 t462, .slice Ao153 t463.length co153], .agg #[.int .i64 t466, .string t467]] (by rfl) rfl rfl sqA ?_
               with_reducible refine (impl_DeskDo.calls kj89 t461 t462 _ _ t463 t466 t467 t468 t469 t470 t473 _ ?sideG ?side1 ?side2 A139.out).mono ?_
               (case sideG => exact Glob.below hG (Z76 GE415 GE416 GE432 GE438 GE447 GE474))
               (case side1 => exact Z28 HO465)
               (case side2 => exact Z29 HO465)
               rintro e w154 ⟨v471, rfl, ho0, hb⟩
               refine ⟨_, rfl, ?_⟩
               have HO472 := Aside0.mk (Kd.R_lower (Kd.R_new' (Kd.R_new' (Kd.R_new' (Kd.R_new' ho0 (Kd.Q_lt (Z27 HO_433002))) (Kd.R_lt (sqR HO_439002))) (Kd.R_lt (sqR HO_448002))) (Kd.R_lt (sqR HO465))) (below_size (Z76 GE415 GE416 GE432 GE438 GE447 GE474)))
               replace HO_433002 := Aside0.mk (Kd.Q_elder' (Z27 HO_433002) (Kd.R_base ho0) hb)
               replace HO_439002 := Aside0.mk (Kd.R_elder' (sqR HO_439002) (Kd.R_base ho0) hb)
               replace HO_448002 := Aside0.mk (Kd.R_elder' (sqR HO_448002) (Kd.R_base ho0) hb)
               replace HO465 := Aside0.mk (Kd.R_elder' (sqR HO465) (Kd.R_base ho0) hb)
               replace BK415 := sqT BK415 hb
               replace BK416 := sqT BK416 hb
               replace BK432 := sqT BK432 hb
               replace BK438 := sqT BK438 hb
               replace BK447 := sqT BK447 hb
               replace BK474 := sqT BK474 hb
               replace HB := Aside0.mk (below_step (Z76 GE415 GE416 GE432 GE438 GE447 GE474) hb)
               (try clear hb)
               (try clear hb2)
               (try clear hk)
               (try clear hi)
               (try clear ho0)
               refine hK.out _ _ ⟨(blk_cell BK415.out 0).trans rfl, (blk_cell BK415.out 1).trans rfl, (blk_cell BK415.out 2).trans rfl, (blk_cell BK416.out 0).trans rfl, (blk_cell BK416.out 1).trans rfl⟩ (fun hHeld => ?_)
               clear hK K
               refine sqN (some 89) ?_
               refine sqP (i := 5) (N := some 84) (h := ?_)
               refine sqP (i := 6) (N := some 90) (h := ?_)
               refine sqP (i := 7) (N := some 91) (h := ?_)
               exact norm_ Z42 (hCont (.slice Ao153 t463.length co153, v471, gb474) _ ⟨hHeld, (Z73 HO465), (Z73 HO472), (Z74 HO_433002), (Z75 HO_439002), (Z75 HO_448002), (sqK BK415), (sqK BK416), (sqK BK432), (sqK BK438), (sqK BK447), (sqK BK474), GW474.out, GE474.out, NB415_474.out, NB474_415.out, NB416_474.out, NB474_416.out, NB432_474.out, NB474_432.out, NB438_474.out, NB474_438.out, NB447_474.out, NB474_447.out, (Z76 GE415 GE416 GE432 GE438 GE447 GE474)⟩)
             ·skip
              refine box_step ?hg (N := 14) ?hd (cs := #[.int .i64 0, .int .i64 0, .slice none 0 0]) (t := 34) ?hr ?_; (case hd => rfl); (case hg => rfl); (case hr => exact Z7)
              intro gb474 hg w150 hbox hb
              replace HO_433002 := Aside0.mk (Kd.Q_below (Z27 HO_433002) hb)
              replace HO_439002 := sqU HO_439002 hb
              replace HO_448002 := sqU HO_448002 hb
              have BK474 := Aside0.mk (hbox)
              have GW474 := Aside0.mk ((Z86 GE415 GE416 GE432 GE438 GE447 : w.heap.size ≤ gb474))
              have GE474 := Aside0.mk ((Z86 GE415 GE416 GE432 GE438 GE447 : w.heap.size ≤ gb474))
              replace HB := Aside0.mk (below_step (Z25 GE415 GE416 GE432 GE438 GE447) hb)
              have NB415_474 := Aside0.mk ((Z40 BK415 : gb415 ≠ gb474))
              have NB474_415 := Aside0.mk ((Z41 BK415 : gb474 ≠ gb415))
              replace BK415 := sqT BK415 hb
              have NB416_474 := Aside0.mk ((Z40 BK416 : gb416 ≠ gb474))
              have NB474_416 := Aside0.mk ((Z41 BK416 : gb474 ≠ gb416))
              replace BK416 := sqT BK416 hb
              have NB432_474 := Aside0.mk ((Z40 BK432 : gb432 ≠ gb474))
              have NB474_432 := Aside0.mk ((Z41 BK432 : gb474 ≠ gb432))
              replace BK432 := sqT BK432 hb
              have NB438_474 := Aside0.mk ((Z40 BK438 : gb438 ≠ gb474))
              have NB474_438 := Aside0.mk ((Z41 BK438 : gb474 ≠ gb438))
              replace BK438 := sqT BK438 hb
              have NB447_474 := Aside0.mk ((Z40 BK447 : gb447 ≠ gb474))
              have NB474_447 := Aside0.mk ((Z41 BK447 : gb474 ≠ gb447))
              replace BK447 := sqT BK447 hb
              clear hb hbox hg
              refine hK.out _ _ ⟨(blk_cell BK415.out 0).trans rfl, (blk_cell BK415.out 1).trans rfl, (blk_cell BK415.out 2).trans rfl, (blk_cell BK416.out 0).trans rfl, (blk_cell BK416.out 1).trans rfl⟩ (fun hHeld => ?_)
              clear hK K
              refine sqN (some 14) ?_
              refine one_ (i := 1) (N := some 86) #[true, true, true, false, false, false, false, false, true, false, false] rfl rfl (one_of HT_.out (by kernel_rfl)) (by decide) (fun K hK => ?_)
              refine goes_ Tryz.func15 (by kernel_rfl) rfl #[.agg #[.int .i64 a0_0, .int .i64 a0_1, .slice A0_2 l0_2.length c0_2]] (by rfl) rfl rfl sqA ?_
              with_reducible refine (laws_toDesk.calls kj89 a0_0 a0_1 _ _ l0_2 t461 t462 t463 _ ?side1 ?side2 A137.out).mono ?_
              (case side1 => exact Z5)
              (case side2 => exact Z6)
              rintro e w151 ⟨v464, rfl, ho0, hb⟩
              refine ⟨_, rfl, ?_⟩
              have HO465 := Aside0.mk (Kd.R_lower (Kd.R_new' (Kd.R_new' (Kd.R_new' ho0 (Kd.Q_lt (Z27 HO_433002))) (Kd.R_lt (sqR HO_439002))) (Kd.R_lt (sqR HO_448002))) (below_size (Z76 GE415 GE416 GE432 GE438 GE447 GE474)))
              replace HO_433002 := Aside0.mk (Kd.Q_elder' (Z27 HO_433002) (Kd.R_base ho0) hb)
              replace HO_439002 := Aside0.mk (Kd.R_elder' (sqR HO_439002) (Kd.R_base ho0) hb)
              replace HO_448002 := Aside0.mk (Kd.R_elder' (sqR HO_448002) (Kd.R_base ho0) hb)
              replace BK415 := sqT BK415 hb
              replace BK416 := sqT BK416 hb
              replace BK432 := sqT BK432 hb
              replace BK438 := sqT BK438 hb
              replace BK447 := sqT BK447 hb
              replace BK474 := sqT BK474 hb
              replace HB := Aside0.mk (below_step (Z76 GE415 GE416 GE432 GE438 GE447 GE474) hb)
              (try clear hb)
              (try clear hb2)
              (try clear hk)
              (try clear hi)
              (try clear ho0)
              refine hK.out _ _ ⟨(blk_cell BK415.out 0).trans rfl, (blk_cell BK415.out 1).trans rfl, (blk_cell BK415.out 2).trans rfl, (blk_cell BK416.out 0).trans rfl, (blk_cell BK416.out 1).trans rfl⟩ (fun hHeld => ?_)
              clear hK K
              refine sqN (some 86) ?_
              refine one_ (i := 3) (N := some 88) #[true, true, true, true, false, false, false, false, true, false, false] rfl rfl (one_of HT_.out (by kernel_rfl)) (by decide) (fun K hK => ?_)
              refine goes_ Tryz.func16 (by kernel_rfl) rfl #[.agg #[.int .i64 a1_0, .string a1_1]] (by rfl) rfl rfl sqA ?_
              with_reducible refine (laws_toDeed.calls a1_0 a1_1 t466 t467 _ A138.out).mono ?_
              rintro e w152 ⟨rfl, hb⟩
              refine ⟨_, rfl, ?_⟩
              replace HO_433002 := Aside0.mk (Kd.Q_below (Z27 HO_433002) hb)
              replace HO_439002 := sqU HO_439002 hb
              replace HO_448002 := sqU HO_448002 hb
              replace HO465 := sqU HO465 hb
              replace BK415 := sqT BK415 hb
              replace BK416 := sqT BK416 hb
              replace BK432 := sqT BK432 hb
              replace BK438 := sqT BK438 hb
              replace BK447 := sqT BK447 hb
              replace BK474 := sqT BK474 hb
              replace HB := Aside0.mk (below_step (Z76 GE415 GE416 GE432 GE438 GE447 GE474) hb)
              (try clear hb)
              (try clear hb2)
              (try clear hk)
              (try clear hi)
              obtain ⟨Ao153, co153, eo153⟩ := Kd.R_slice HO465.out
              (first | subst eo153 | (injection eo153 with f1_ f2_ f3_; have f4_ := f1_.symm; have f5_ := f3_.symm; clear f1_ f2_ f3_; subst f4_; subst f5_))
              refine hK.out _ _ ⟨(blk_cell BK415.out 0).trans rfl, (blk_cell BK415.out 1).trans rfl, (blk_cell BK415.out 2).trans rfl, (blk_cell BK416.out 0).trans rfl, (blk_cell BK416.out 1).trans rfl⟩ (fun hHeld => ?_)
              clear hK K
              refine sqN (some 88) ?_
              refine one_ (i := 4) (N := some 89) #[true, true, true, true, true, false, false, false, true, false, false] rfl rfl (one_of HT_.out (by kernel_rfl)) (by decide) (fun K hK => ?_)
              refine goes_ Tryz.func17 (by kernel_rfl) rfl #[.agg #[.int .i64 t461, .int .i64 t462, .slice Ao153 t463.length co153], .agg #[.int .i64 t466, .string t467]] (by rfl) rfl rfl sqA ?_
              with_reducible refine (impl_DeskDo.calls kj89 t461 t462 _ _ t463 t466 t467 t468 t469 t470 t473 _ ?sideG ?side1 ?side2 A139.out).mono ?_
              (case sideG => exact Glob.below hG (Z76 GE415 GE416 GE432 GE438 GE447 GE474))
              (case side1 => exact Z28 HO465)
              (case side2 => exact Z29 HO465)
              rintro e w154 ⟨v471, rfl, ho0, hb⟩
              refine ⟨_, rfl, ?_⟩
              have HO472 := Aside0.mk (Kd.R_lower (Kd.R_new' (Kd.R_new' (Kd.R_new' (Kd.R_new' ho0 (Kd.Q_lt (Z27 HO_433002))) (Kd.R_lt (sqR HO_439002))) (Kd.R_lt (sqR HO_448002))) (Kd.R_lt (sqR HO465))) (below_size (Z76 GE415 GE416 GE432 GE438 GE447 GE474)))
              replace HO_433002 := Aside0.mk (Kd.Q_elder' (Z27 HO_433002) (Kd.R_base ho0) hb)
              replace HO_439002 := Aside0.mk (Kd.R_elder' (sqR HO_439002) (Kd.R_base ho0) hb)
              replace HO_448002 := Aside0.mk (Kd.R_elder' (sqR HO_448002) (Kd.R_base ho0) hb)
              replace HO465 := Aside0.mk (Kd.R_elder' (sqR HO465) (Kd.R_base ho0) hb)
              replace BK415 := sqT BK415 hb
              replace BK416 := sqT BK416 hb
              replace BK432 := sqT BK432 hb
              replace BK438 := sqT BK438 hb
              replace BK447 := sqT BK447 hb
              replace BK474 := sqT BK474 hb
              replace HB := Aside0.mk (below_step (Z76 GE415 GE416 GE432 GE438 GE447 GE474) hb)
              (try clear hb)
              (try clear hb2)
              (try clear hk)
              (try clear hi)
              (try clear ho0)
              refine hK.out _ _ ⟨(blk_cell BK415.out 0).trans rfl, (blk_cell BK415.out 1).trans rfl, (blk_cell BK415.out 2).trans rfl, (blk_cell BK416.out 0).trans rfl, (blk_cell BK416.out 1).trans rfl⟩ (fun hHeld => ?_)
              clear hK K
              refine sqN (some 89) ?_
              refine sqP (i := 5) (N := some 84) (h := ?_)
              refine sqP (i := 6) (N := some 90) (h := ?_)
              refine sqP (i := 7) (N := some 91) (h := ?_)
              exact norm_ Z42 (hCont (.slice Ao153 t463.length co153, v471, gb474) _ ⟨hHeld, (Z73 HO465), (Z73 HO472), (Z74 HO_433002), (Z75 HO_439002), (Z75 HO_448002), (sqK BK415), (sqK BK416), (sqK BK432), (sqK BK438), (sqK BK447), (sqK BK474), GW474.out, GE474.out, NB415_474.out, NB474_415.out, NB416_474.out, NB474_416.out, NB432_474.out, NB474_432.out, NB438_474.out, NB474_438.out, NB447_474.out, NB474_447.out, (Z76 GE415 GE416 GE432 GE438 GE447 GE474)⟩)
            rintro ⟨v464, v471, gb474⟩ w155 ⟨hS_, h0_, h1_, h2_, h3_, h4_, h5_, h6_, h7_, h8_, h9_, h10_, h11_, h12_, h13_, h14_, h15_, h16_, h17_, h18_, h19_, h20_, h21_, h22_, h23_⟩
            have n0_ : Aside0 (Kd.R k31 31 w155 w.heap.size (fun k_ => some k_ ≠ (v471 : Value).ownBlock ∧ some k_ ≠ (.slice Ao42 t428.length co42 : Value).ownBlock ∧ some k_ ≠ (.slice Ao52 t456.length co52 : Value).ownBlock ∧ some k_ ≠ (.slice Ao61 t443.length co61 : Value).ownBlock) v464 t463) := ⟨h0_⟩
            have n1_ : Aside0 (Kd.R k31 31 w155 w.heap.size (fun k_ => some k_ ≠ (v464 : Value).ownBlock ∧ some k_ ≠ (.slice Ao42 t428.length co42 : Value).ownBlock ∧ some k_ ≠ (.slice Ao52 t456.length co52 : Value).ownBlock ∧ some k_ ≠ (.slice Ao61 t443.length co61 : Value).ownBlock) v471 t470) := ⟨h1_⟩
            have n2_ : Aside0 (Kd.Q k31 31 w155 w.heap.size (fun k_ => some k_ ≠ (v464 : Value).ownBlock ∧ some k_ ≠ (v471 : Value).ownBlock ∧ some k_ ≠ (.slice Ao52 t456.length co52 : Value).ownBlock ∧ some k_ ≠ (.slice Ao61 t443.length co61 : Value).ownBlock) (.slice Ao42 t428.length co42) t428) := ⟨h2_⟩
            have n3_ : Aside0 (Kd.R k31 31 w155 w.heap.size (fun k_ => some k_ ≠ (v464 : Value).ownBlock ∧ some k_ ≠ (v471 : Value).ownBlock ∧ some k_ ≠ (.slice Ao42 t428.length co42 : Value).ownBlock ∧ some k_ ≠ (.slice Ao61 t443.length co61 : Value).ownBlock) (.slice Ao52 t456.length co52) t456) := ⟨h3_⟩
            have n4_ : Aside0 (Kd.R k31 31 w155 w.heap.size (fun k_ => some k_ ≠ (v464 : Value).ownBlock ∧ some k_ ≠ (v471 : Value).ownBlock ∧ some k_ ≠ (.slice Ao42 t428.length co42 : Value).ownBlock ∧ some k_ ≠ (.slice Ao52 t456.length co52 : Value).ownBlock) (.slice Ao61 t443.length co61) t459) := ⟨h4_⟩
            have n5_ : Aside0 (w155.heap[gb415]? = some (.cells #[.int .i64 a0_0, .int .i64 a0_1, .slice A0_2 l0_2.length c0_2] 26 (0, 0))) := ⟨h5_⟩
            have n6_ : Aside0 (w155.heap[gb416]? = some (.cells #[.int .i64 a1_0, .string a1_1] 28 (0, 0))) := ⟨h6_⟩
            have n7_ : Aside0 (w155.heap[gb432]? = some (.cells #[.int .i64 t426, .int .i64 t427, .slice Ao42 t428.length co42] 34 (0, 0))) := ⟨h7_⟩
            have n8_ : Aside0 (w155.heap[gb438]? = some (.cells #[.int .i64 t433, .int .i64 t434, .slice Ao52 t456.length co52] 34 (0, 0))) := ⟨h8_⟩
            have n9_ : Aside0 (w155.heap[gb447]? = some (.cells #[.int .i64 t441, .int .i64 t442, .slice Ao61 t443.length co61] 34 (0, 0))) := ⟨h9_⟩
            have n10_ : Aside0 (w155.heap[gb474]? = some (.cells #[.int .i64 0, .int .i64 0, .slice none 0 0] 34 (0, 0))) := ⟨h10_⟩
            have n11_ : Aside0 (w.heap.size ≤ gb474) := ⟨h11_⟩
            have n12_ : Aside0 (w.heap.size ≤ gb474) := ⟨h12_⟩
            have n13_ : Aside0 (gb415 ≠ gb474) := ⟨h13_⟩
            have n14_ : Aside0 (gb474 ≠ gb415) := ⟨h14_⟩
            have n15_ : Aside0 (gb416 ≠ gb474) := ⟨h15_⟩
            have n16_ : Aside0 (gb474 ≠ gb416) := ⟨h16_⟩
            have n17_ : Aside0 (gb432 ≠ gb474) := ⟨h17_⟩
            have n18_ : Aside0 (gb474 ≠ gb432) := ⟨h18_⟩
            have n19_ : Aside0 (gb438 ≠ gb474) := ⟨h19_⟩
            have n20_ : Aside0 (gb474 ≠ gb438) := ⟨h20_⟩
            have n21_ : Aside0 (gb447 ≠ gb474) := ⟨h21_⟩
            have n22_ : Aside0 (gb474 ≠ gb447) := ⟨h22_⟩
            have n23_ : Aside0 (Below w.heap.size w w155) := ⟨h23_⟩
            clear HO_433002
            clear HO_439002
            clear HO_448002
            clear BK415
            clear BK416
            clear BK432
            clear BK438
            clear BK447
            clear HB
            clear h0_ h1_ h2_ h3_ h4_ h5_ h6_ h7_ h8_ h9_ h10_ h11_ h12_ h13_ h14_ h15_ h16_ h17_ h18_ h19_ h20_ h21_ h22_ h23_
            have HO465 := n0_
            have HO472 := n1_
            have HO_433002 := n2_
            have HO_439002 := n3_
            have HO_448002 := n4_
            have BK415 := n5_
            have BK416 := n6_
            have BK432 := n7_
            have BK438 := n8_
            have BK447 := n9_
            have BK474 := n10_
            have GW474 := n11_
            have GE474 := n12_
            have NB415_474 := n13_
            have NB474_415 := n14_
            have NB416_474 := n15_
            have NB474_416 := n16_
            have NB432_474 := n17_
            have NB474_432 := n18_
            have NB438_474 := n19_
            have NB474_438 := n20_
            have NB447_474 := n21_
            have NB474_447 := n22_
            have HB := n23_
            clear n0_ n1_ n2_ n3_ n4_ n5_ n6_ n7_ n8_ n9_ n10_ n11_ n12_ n13_ n14_ n15_ n16_ n17_ n18_ n19_ n20_ n21_ n22_ n23_
            have hHeld : w155.cell? ⟨gb415, 0, none⟩ = some (.int .i64 a0_0) ∧ w155.cell? ⟨gb415, 1, none⟩ = some (.int .i64 a0_1) ∧ w155.cell? ⟨gb415, 2, none⟩ = some (.slice A0_2 l0_2.length c0_2) ∧ w155.cell? ⟨gb416, 0, none⟩ = some (.int .i64 a1_0) ∧ w155.cell? ⟨gb416, 1, none⟩ = some (.string a1_1) := hS_
            obtain ⟨Ao158, co158, eo158⟩ := Kd.R_slice HO472.out
            (first | subst eo158 | (injection eo158 with f1_ f2_ f3_; have f4_ := f1_.symm; have f5_ := f3_.symm; clear f1_ f2_ f3_; subst f4_; subst f5_))
            refine norm_ (a' := ?_) ?_ ?_
            rotate_left
            ·simp only [putAll, Act.put, List.setIfInBounds_toArray, List.set_cons_zero, List.set_cons_succ]
             rfl
            refine one_ (i := 9) (N := none) #[true, true, true, true, true, true, true, true, true, true, false] rfl rfl (one_of HT_.out (by kernel_rfl)) (by decide) (fun K hK => ?_)
            have hs156 : w155.cell? ⟨gb474, 0, none⟩ = some (.int .i64 0) := (blk_cell BK474.out 0).trans rfl
            have hfs156 := blk_frozen BK474.out 0
            have hns156_0 := NB415_474.out
            have hns156_1 := NB416_474.out
            have hns156_2 := NB432_474.out
            have hns156_3 := NB438_474.out
            have hns156_4 := NB447_474.out
            have hms156_0 := NB474_415.out
            have hms156_1 := NB474_416.out
            have hms156_2 := NB474_432.out
            have hms156_3 := NB474_438.out
            have hms156_4 := NB474_447.out
            have hs157 : w155.cell? ⟨gb474, 1, none⟩ = some (.int .i64 0) := (blk_cell BK474.out 1).trans rfl
            have hfs157 := blk_frozen BK474.out 1
            have hns157_0 := NB415_474.out
            have hns157_1 := NB416_474.out
            have hns157_2 := NB432_474.out
            have hns157_3 := NB438_474.out
            have hns157_4 := NB447_474.out
            have hms157_0 := NB474_415.out
            have hms157_1 := NB474_416.out
            have hms157_2 := NB474_432.out
            have hms157_3 := NB474_438.out
            have hms157_4 := NB474_447.out
            have hs159 : w155.cell? ⟨gb474, 2, none⟩ = some (.slice none 0 0) := (blk_cell BK474.out 2).trans rfl
            have hfs159 := blk_frozen BK474.out 2
            have hns159_0 := NB415_474.out
            have hns159_1 := NB416_474.out
            have hns159_2 := NB432_474.out
            have hns159_3 := NB438_474.out
            have hns159_4 := NB447_474.out
            have hms159_0 := NB474_415.out
            have hms159_1 := NB474_416.out
            have hms159_2 := NB474_432.out
            have hms159_3 := NB474_438.out
            have hms159_4 := NB474_447.out
            refine skip_ (w1 := ?_) (by rfl) rfl ?_ ?_
            rotate_left
            ·go_simp
             rfl
            refine hK.out _ _ ⟨((cell_far (p := ⟨gb474, _, none⟩) NB415_474.out _).trans (((cell_far (p := ⟨gb474, _, none⟩) NB415_474.out _).trans (((cell_far (p := ⟨gb474, _, none⟩) NB415_474.out _).trans (hHeld.1)))))), ((cell_far (p := ⟨gb474, _, none⟩) NB415_474.out _).trans (((cell_far (p := ⟨gb474, _, none⟩) NB415_474.out _).trans (((cell_far (p := ⟨gb474, _, none⟩) NB415_474.out _).trans (hHeld.2.1)))))), ((cell_far (p := ⟨gb474, _, none⟩) NB415_474.out _).trans (((cell_far (p := ⟨gb474, _, none⟩) NB415_474.out _).trans (((cell_far (p := ⟨gb474, _, none⟩) NB415_474.out _).trans (hHeld.2.2.1)))))), ((cell_far (p := ⟨gb474, _, none⟩) NB416_474.out _).trans (((cell_far (p := ⟨gb474, _, none⟩) NB416_474.out _).trans (((cell_far (p := ⟨gb474, _, none⟩) NB416_474.out _).trans (hHeld.2.2.2.1)))))), ((cell_far (p := ⟨gb474, _, none⟩) NB416_474.out _).trans (((cell_far (p := ⟨gb474, _, none⟩) NB416_474.out _).trans (((cell_far (p := ⟨gb474, _, none⟩) NB416_474.out _).trans (hHeld.2.2.2.2))))))⟩ (fun hHeld => ?_)
            clear hK K
            refine sqP (i := 10) (N := some 15) (h := ?_)
            refine done_ (done_of HT_.out (by kernel_rfl)) ?_
            go_upto_region 28 with (fail)
            go_cut [100] (fun v100 wc => ∃ (kq : Nat) (x100_139 : Bool), v100 = .bool x100_139 ∧ Aside0 (laws_FnExactDeskDo.j2 kq t458 x100_139 t441 t442 t459 = some r) ∧ Aside0 (kq ≤ kj89) ∧ Aside0 (Kd.Q k31 31 wc w.heap.size (fun k_ => some k_ ≠ ((.slice Ao52 t456.length co52) : Value).ownBlock ∧ some k_ ≠ ((.slice Ao61 t443.length co61) : Value).ownBlock ∧ some k_ ≠ ((.slice Ao158 t470.length co158) : Value).ownBlock) (.slice Ao42 t428.length co42) t428) ∧ Aside0 (Kd.R k31 31 wc w.heap.size (fun k_ => some k_ ≠ ((.slice Ao42 t428.length co42) : Value).ownBlock ∧ some k_ ≠ ((.slice Ao61 t443.length co61) : Value).ownBlock ∧ some k_ ≠ ((.slice Ao158 t470.length co158) : Value).ownBlock) (.slice Ao52 t456.length co52) t456) ∧ Aside0 (Kd.R k31 31 wc w.heap.size (fun k_ => some k_ ≠ ((.slice Ao42 t428.length co42) : Value).ownBlock ∧ some k_ ≠ ((.slice Ao52 t456.length co52) : Value).ownBlock ∧ some k_ ≠ ((.slice Ao158 t470.length co158) : Value).ownBlock) (.slice Ao61 t443.length co61) t459) ∧ Aside0 (Kd.R k31 31 wc w.heap.size (fun k_ => some k_ ≠ ((.slice Ao42 t428.length co42) : Value).ownBlock ∧ some k_ ≠ ((.slice Ao52 t456.length co52) : Value).ownBlock ∧ some k_ ≠ ((.slice Ao61 t443.length co61) : Value).ownBlock) (.slice Ao158 t470.length co158) t470) ∧ Aside0 (wc.heap[gb415]? = some (.cells #[.int .i64 a0_0, .int .i64 a0_1, (.slice A0_2 l0_2.length c0_2)] 26 (0, 0))) ∧ Aside0 (wc.heap[gb416]? = some (.cells #[.int .i64 a1_0, .string a1_1] 28 (0, 0))) ∧ Aside0 (wc.heap[gb432]? = some (.cells #[.int .i64 t426, .int .i64 t427, (.slice Ao42 t428.length co42)] 34 (0, 0))) ∧ Aside0 (wc.heap[gb438]? = some (.cells #[.int .i64 t433, .int .i64 t434, (.slice Ao52 t456.length co52)] 34 (0, 0))) ∧ Aside0 (wc.heap[gb447]? = some (.cells #[.int .i64 t441, .int .i64 t442, (.slice Ao61 t443.length co61)] 34 (0, 0))) ∧ Aside0 (wc.heap[gb474]? = some (.cells #[.int .i64 t468, .int .i64 t469, (.slice Ao158 t470.length co158)] 34 (0, 0))) ∧ Aside0 (Below w.heap.size w wc))
            case first =>
             have H := HC140.out
             clear HC140
             obtain ⟨t475, A160, H⟩ := sqD H
             by_cases c161 : t475 = true
             ·subst c161
              have H1 : (laws_FnExactDeskDo.j2 kj89 t458 (t473 != t431) t441 t442 t459) = some r := by rw [if_pos rfl] at H; exact H
              clear H
              have H := H1
              clear H1
              have H' := Aside0.mk H
              clear H
              have hnb162 := NB474_415.out
              have hnc162 := NB415_474.out
              have hnb163 := NB474_416.out
              have hnc163 := NB416_474.out
              have hnb164 := NB474_432.out
              have hnc164 := NB432_474.out
              have hnb165 := NB474_438.out
              have hnc165 := NB438_474.out
              have hnb166 := NB474_447.out
              have hnc166 := NB447_474.out
              obtain ⟨hcz167_0, hcz167_1, hcz167_2, hfz167_0, hfz167_1, hfz167_2⟩ := sqY3 BK474
              have hnb168 := NB432_415.out
              have hnc168 := NB415_432.out
              have hnb169 := NB432_416.out
              have hnc169 := NB416_432.out
              have hnb170 := NB432_438.out
              have hnc170 := NB438_432.out
              have hnb171 := NB432_447.out
              have hnc171 := NB447_432.out
              obtain ⟨hcz172_0, hcz172_1, hcz172_2, hfz172_0, hfz172_1, hfz172_2⟩ := sqY3 BK432
              go_wp2_with (first | ((with_reducible refine gate_callee (f := 18) rfl ?_); refine goesL_ (some 94) rfl rfl Tryz.func18 (by kernel_rfl) rfl #[.agg #[.int .i64 t468, .int .i64 t469, .slice Ao158 t470.length co158], .agg #[.int .i64 t426, .int .i64 t427, .slice Ao42 t428.length co42]] rfl sqA ?_; (with_reducible refine (laws_eqDesk.calls kj89 t468 t469 _ _ t470 t426 t427 _ _ t428 true _ ?side1 ?side2 ?side3 ?side4 A160.out).mono ?_); (case side1 => exact Z87 HO472 BK474); (case side2 => exact Z29 HO472); (case side3 => exact Z88 HO_433002 BK474); (case side4 => exact (Kd.Q_reads' HO_433002.out).2.1); rintro e w173 ⟨rfl, hb⟩; refine ⟨_, rfl, ?_⟩; replace HO_433002 := Aside0.mk (Kd.Q_below (Z78 HO_433002 BK474) hb); replace HO_439002 := Aside0.mk (Kd.R_below (Z77 HO_439002 BK474) hb); replace HO_448002 := Aside0.mk (Kd.R_below (Z77 HO_448002 BK474) hb); replace HO465 := Aside0.mk (Kd.R_below (Z77 HO465 BK474) hb); replace HO472 := Aside0.mk (Kd.R_below (Z77 HO472 BK474) hb); replace BK415 := Aside0.mk (blk_below (g := gb415) (o := .cells #[.int .i64 a0_0, .int .i64 a0_1, .slice A0_2 l0_2.length c0_2] 26 (0, 0)) (Z19 NB415_474 BK415) hb); replace BK416 := Aside0.mk (blk_below (g := gb416) (o := .cells #[.int .i64 a1_0, .string a1_1] 28 (0, 0)) (Z19 NB416_474 BK416) hb); replace BK432 := Aside0.mk (blk_below (g := gb432) (o := .cells #[.int .i64 t426, .int .i64 t427, .slice Ao42 t428.length co42] 34 (0, 0)) (Z19 NB432_474 BK432) hb); replace BK438 := Aside0.mk (blk_below (g := gb438) (o := .cells #[.int .i64 t433, .int .i64 t434, .slice Ao52 t456.length co52] 34 (0, 0)) (Z19 NB438_474 BK438) hb); replace BK447 := Aside0.mk (blk_below (g := gb447) (o := .cells #[.int .i64 t441, .int .i64 t442, .slice Ao61 t443.length co61] 34 (0, 0)) (Z19 NB447_474 BK447) hb); replace BK474 := Aside0.mk (blk_below (g := gb474) (o := .cells #[.int .i64 t468, .int .i64 t469, .slice Ao158 t470.length co158] 34 (0, 0)) (Z79 BK474) hb); replace HB := Aside0.mk (below_step (Z76 GE415 GE416 GE432 GE438 GE447 GE474) hb); (try clear hb)))
              go_meet
              case rel => exact ⟨_, ((t473 != t431)), Z1, H', ⟨by have := HJ24.out; have := HJ89.out; first | omega | exact Nat.le_refl _⟩, ⟨Z80 HO_433002⟩, ⟨Z81 HO_439002⟩, ⟨Z81 HO_448002⟩, ⟨Z82 HO472⟩, ⟨Z83 BK415⟩, ⟨Z83 BK416⟩, ⟨Z83 BK432⟩, ⟨Z83 BK438⟩, ⟨Z83 BK447⟩, ⟨Z83 BK474⟩, ⟨Z76 GE415 GE416 GE432 GE438 GE447 GE474⟩⟩
             ·replace c161 := Bool.eq_false_iff.mpr c161
              subst c161
              have H1 : (laws_FnExactDeskDo.j2 kj89 t458 true t441 t442 t459) = some r := by rw [if_neg (show ¬ (false = true) by decide)] at H; exact H
              clear H
              have H := H1
              clear H1
              have H' := Aside0.mk H
              clear H
              have hnb174 := NB474_415.out
              have hnc174 := NB415_474.out
              have hnb175 := NB474_416.out
              have hnc175 := NB416_474.out
              have hnb176 := NB474_432.out
              have hnc176 := NB432_474.out
              have hnb177 := NB474_438.out
              have hnc177 := NB438_474.out
              have hnb178 := NB474_447.out
              have hnc178 := NB447_474.out
              obtain ⟨hcz179_0, hcz179_1, hcz179_2, hfz179_0, hfz179_1, hfz179_2⟩ := sqY3 BK474
              have hnb180 := NB432_415.out
              have hnc180 := NB415_432.out
              have hnb181 := NB432_416.out
              have hnc181 := NB416_432.out
              have hnb182 := NB432_438.out
              have hnc182 := NB438_432.out
              have hnb183 := NB432_447.out
              have hnc183 := NB447_432.out
              obtain ⟨hcz184_0, hcz184_1, hcz184_2, hfz184_0, hfz184_1, hfz184_2⟩ := sqY3 BK432
              go_wp2_with (first | ((with_reducible refine gate_callee (f := 18) rfl ?_); refine goesL_ (some 94) rfl rfl Tryz.func18 (by kernel_rfl) rfl #[.agg #[.int .i64 t468, .int .i64 t469, .slice Ao158 t470.length co158], .agg #[.int .i64 t426, .int .i64 t427, .slice Ao42 t428.length co42]] rfl sqA ?_; (with_reducible refine (laws_eqDesk.calls kj89 t468 t469 _ _ t470 t426 t427 _ _ t428 false _ ?side1 ?side2 ?side3 ?side4 A160.out).mono ?_); (case side1 => exact Z87 HO472 BK474); (case side2 => exact Z29 HO472); (case side3 => exact Z88 HO_433002 BK474); (case side4 => exact (Kd.Q_reads' HO_433002.out).2.1); rintro e w185 ⟨rfl, hb⟩; refine ⟨_, rfl, ?_⟩; replace HO_433002 := Aside0.mk (Kd.Q_below (Z78 HO_433002 BK474) hb); replace HO_439002 := Aside0.mk (Kd.R_below (Z77 HO_439002 BK474) hb); replace HO_448002 := Aside0.mk (Kd.R_below (Z77 HO_448002 BK474) hb); replace HO465 := Aside0.mk (Kd.R_below (Z77 HO465 BK474) hb); replace HO472 := Aside0.mk (Kd.R_below (Z77 HO472 BK474) hb); replace BK415 := Aside0.mk (blk_below (g := gb415) (o := .cells #[.int .i64 a0_0, .int .i64 a0_1, .slice A0_2 l0_2.length c0_2] 26 (0, 0)) (Z19 NB415_474 BK415) hb); replace BK416 := Aside0.mk (blk_below (g := gb416) (o := .cells #[.int .i64 a1_0, .string a1_1] 28 (0, 0)) (Z19 NB416_474 BK416) hb); replace BK432 := Aside0.mk (blk_below (g := gb432) (o := .cells #[.int .i64 t426, .int .i64 t427, .slice Ao42 t428.length co42] 34 (0, 0)) (Z19 NB432_474 BK432) hb); replace BK438 := Aside0.mk (blk_below (g := gb438) (o := .cells #[.int .i64 t433, .int .i64 t434, .slice Ao52 t456.length co52] 34 (0, 0)) (Z19 NB438_474 BK438) hb); replace BK447 := Aside0.mk (blk_below (g := gb447) (o := .cells #[.int .i64 t441, .int .i64 t442, .slice Ao61 t443.length co61] 34 (0, 0)) (Z19 NB447_474 BK447) hb); replace BK474 := Aside0.mk (blk_below (g := gb474) (o := .cells #[.int .i64 t468, .int .i64 t469, .slice Ao158 t470.length co158] 34 (0, 0)) (Z79 BK474) hb); replace HB := Aside0.mk (below_step (Z76 GE415 GE416 GE432 GE438 GE447 GE474) hb); (try clear hb)))
              go_meet
              case rel => exact ⟨_, (true), Z1, H', ⟨by have := HJ24.out; have := HJ89.out; first | omega | exact Nat.le_refl _⟩, ⟨Z80 HO_433002⟩, ⟨Z81 HO_439002⟩, ⟨Z81 HO_448002⟩, ⟨Z82 HO472⟩, ⟨Z83 BK415⟩, ⟨Z83 BK416⟩, ⟨Z83 BK432⟩, ⟨Z83 BK438⟩, ⟨Z83 BK447⟩, ⟨Z83 BK474⟩, ⟨Z76 GE415 GE416 GE432 GE438 GE447 GE474⟩⟩
            case rest =>
             clear HC140
             try clear c1; try clear p2; try clear c15; try clear c16; try clear c17; try clear c18; try clear c161; try clear c162; try clear c163; try clear c164; try clear c165; try clear c166; try clear c168; try clear c169; try clear c170; try clear c171; try clear c174; try clear c175; try clear c176; try clear c177; try clear c178; try clear c180; try clear c181; try clear c182; try clear c183; try clear hcz167_0; try clear hcz167_1; try clear hcz167_2; try clear hcz172_0; try clear hcz172_1; try clear hcz172_2; try clear hcz179_0; try clear hcz179_1; try clear hcz179_2; try clear hcz184_0; try clear hcz184_1; try clear hcz184_2; try clear hfz167_0; try clear hfz167_1; try clear hfz167_2; try clear hfz172_0; try clear hfz172_1; try clear hfz172_2; try clear hfz179_0; try clear hfz179_1; try clear hfz179_2; try clear hfz184_0; try clear hfz184_1; try clear hfz184_2
             obtain ⟨kq, x100_139, rfl, HA, HJ139, HO_433002, HO_439002, HO_448002, HO_475002, BK415, BK416, BK432, BK438, BK447, BK474, HB⟩ := hcut
             have hl448002_139 := (Kd.R_reads' HO_448002.out).1
             rw [hl448002_139] at HO_448002
             (try simp only [hl448002_139])
             (try simp only [hl448002_139] at BK415)
             (try simp only [hl448002_139] at BK416)
             (try simp only [hl448002_139] at BK432)
             (try simp only [hl448002_139] at BK438)
             (try simp only [hl448002_139] at BK447)
             (try simp only [hl448002_139] at BK474)
             (try simp only [hl448002_139] at HO_433002)
             (try simp only [hl448002_139] at HO_439002)
             (try simp only [hl448002_139] at HO_475002)
             cases kq with
             | zero => exact absurd HA.out (by simp [laws_FnExactDeskDo.j2])
             | succ kj139 =>
              have H := HA.out
              clear HA
              simp only [laws_FnExactDeskDo.j2] at H
              by_cases c186 : x100_139 = true
              ·subst c186
               have H1 : (some false) = some r := by rw [if_pos rfl] at H; exact H
               clear H
               have H := H1
               clear H1
               obtain rfl := Option.some.inj H
               go_wp2
               go_ret
               exact ⟨Z3, Z76 GE415 GE416 GE432 GE438 GE447 GE474⟩
              ·replace c186 := Bool.eq_false_iff.mpr c186
               subst c186
               have H1 : ((laws_heldDesk.f kj139 t441 t442 t459 1).bind fun t476 => (if t476 < 0 then (some false) else (if t476 = t458 then (some true) else (some false)))) = some r := by rw [if_neg (show ¬ (false = true) by decide)] at H; exact H
               clear H
               have H := H1
               clear H1
               obtain ⟨t476, A187, H⟩ := sqD H
               by_cases c188 : t476 < 0
               ·rw [if_pos c188] at H
                exact absurd (Option.some.inj H) (by rw [hT.out]; decide)
               ·rw [if_neg c188] at H
                have c188b0 : decide (t476 < 0) = false := decide_eq_false c188
                clear c188
                by_cases c196 : t476 = t458
                ·rw [if_pos c196] at H
                 have c196b0 : (t476 == t458) = true := beq_iff_eq.mpr c196
                 have c196b1 : (t476 != t458) = false := bne_eq_false_iff_eq.mpr c196
                 clear c196
                 obtain rfl := Option.some.inj H
                 have hnb197 := NB447_415.out
                 have hnc197 := NB415_447.out
                 have hnb198 := NB447_416.out
                 have hnc198 := NB416_447.out
                 have hnb199 := NB447_432.out
                 have hnc199 := NB432_447.out
                 have hnb200 := NB447_438.out
                 have hnc200 := NB438_447.out
                 have hnb201 := NB447_474.out
                 have hnc201 := NB474_447.out
                 obtain ⟨hcz202_0, hcz202_1, hcz202_2, hfz202_0, hfz202_1, hfz202_2⟩ := sqY3 BK447
                 go_wp2_with (first | ((with_reducible refine gate_callee (f := 20) rfl ?_); refine goesL_ (some 103) rfl rfl Tryz.func20 (by kernel_rfl) rfl #[.agg #[.int .i64 t441, .int .i64 t442, .slice Ao61 t459.length co61], .int .i64 1] rfl sqA ?_; (with_reducible refine (laws_heldDesk.calls kj139 t441 t442 _ _ t459 1 t476 _ ?side1 ?side2 A187.out).mono ?_); (case side1 => exact Z28 HO_448002); (case side2 => exact Z29 HO_448002); rintro e w203 ⟨rfl, hb⟩; refine ⟨_, rfl, ?_⟩; replace HO_433002 := Aside0.mk (Kd.Q_below (Z27 HO_433002) hb); replace HO_439002 := sqU HO_439002 hb; replace HO_448002 := sqU HO_448002 hb; replace HO_475002 := sqU HO_475002 hb; replace BK415 := sqT BK415 hb; replace BK416 := sqT BK416 hb; replace BK432 := sqT BK432 hb; replace BK438 := sqT BK438 hb; replace BK447 := sqT BK447 hb; replace BK474 := sqT BK474 hb; replace HB := Aside0.mk (below_step (Z76 GE415 GE416 GE432 GE438 GE447 GE474) hb); (try clear hb)))
                 go_ret
                 exact ⟨Z3, Z76 GE415 GE416 GE432 GE438 GE447 GE474⟩
                ·rw [if_neg c196] at H
                 exact absurd (Option.some.inj H) (by rw [hT.out]; decide)
           ·rw [if_neg c136] at H
            exact absurd (Option.some.inj H) (by rw [hT.out]; decide)
      ·rw [if_neg c88] at H
       exact absurd (Option.some.inj H) (by rw [hT.out]; decide)

end Go.Proofs.YtofmlbgfcohhoaaGreatDoor.PFnExactDeskDo
