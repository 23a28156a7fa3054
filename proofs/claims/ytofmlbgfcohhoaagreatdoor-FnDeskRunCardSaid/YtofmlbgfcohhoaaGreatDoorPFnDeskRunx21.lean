/- Lean functions of the Go functions that the law FnDeskRun reaches, each with its contract: made by a program of this session. -/
import Derived.Test.YtofmlbgfcohhoaaGreatDoorPFnDeskRunx0
import Derived.Test.YtofmlbgfcohhoaaGreatDoorPFnDeskRunx3
namespace Go.Proofs.YtofmlbgfcohhoaaGreatDoor.PFnDeskRun
open Go.RowKit Go.Proofs.YtofmlbgfcohhoaaGreatDoorW.PrintWords Go.Proofs.YtofmlbgfcohhoaaGreatDoorW.PrintLast Go.Proofs.YtofmlbgfcohhoaaGreatDoorW.PrintMore Go.Proofs.YtofmlbgfcohhoaaGreatDoor.Lib
attribute [local go_sem] max2_int min2_int max_two min_two max_three min_three max_four min_four   -- for this text's walks alone
set_option linter.unusedVariables false
set_option linter.unusedSimpArgs false

/-! ### laws_noDesk: function 31 -/
def laws_noDesk.f (k : Nat) (a0_0 : Int) (a0_1 : Int) (l0_2 : List (S31)) : Option (Bool) := (laws_sameDesk.f k a0_0 a0_1 l0_2 0 0 ([] : List (S31))).bind fun t555 => (some t555)
theorem laws_noDesk.mono : ∀ a0 a1 a2 k, LeO (laws_noDesk.f k a0 a1 a2) (laws_noDesk.f (k + 1) a0 a1 a2) := by
 intro a0 a1 a2 k
 unfold laws_noDesk.f
 repeat' first
   | (with_reducible exact laws_sameDesk.mono _ _ _ _ _ _ _)
   | (with_reducible exact LeO.refl _)
   | (with_reducible exact LeO.none _)
   | (with_reducible refine LeO.ite ?_ ?_)
   | (with_reducible refine LeO.bind ?_ (fun _ => ?_))
set_option maxHeartbeats 8000000 in
set_option maxRecDepth 100000 in
theorem laws_noDesk.calls (k : Nat) (a0_0 : Int) (a0_1 : Int) (A0_2 : Option Addr) (c0_2 : Nat) (l0_2 : List (S31)) (r : Bool) (w : World) (hr0_2 : Kd.C k31 w A0_2 l0_2.length l0_2) (hc0_2 : l0_2.length ≤ c0_2) (h : laws_noDesk.f k a0_0 a0_1 l0_2 = some r) :
  Calls Tryz.prog 31 #[.agg #[.int .i64 a0_0, .int .i64 a0_1, .slice A0_2 l0_2.length c0_2]] w fun e w' => e = .returned (.bool r) ∧ Below w.heap.size w w' := by
 have hu34 := Tryz.underlying34
 have HR0_2 := Aside0.mk hr0_2
 have HC0_2 := Aside0.mk hc0_2
 clear hr0_2 hc0_2
 have HB := Aside0.mk (Below.refl w.heap.size w)
 have H : ((laws_sameDesk.f k a0_0 a0_1 l0_2 0 0 ([] : List (S31))).bind fun t555 => (some t555)) = some r := h
 clear h
 obtain ⟨t555, A2, H⟩ := sqD H
 obtain rfl := Option.some.inj H
 go_enter Tryz.func31, Tryz.ntmps31
 go_wp2_with (first | ((with_reducible refine gate_dst (N := 1) rfl ?_); refine sqBox (N := 1) (cs := #[.int .i64 a0_0, .int .i64 a0_1, .slice A0_2 l0_2.length c0_2]) (t := 34) ?_; intro gb554 hg w3 BK554 hb; have GW554 := Aside0.mk ((sqG hg (sqB HB))); have GE554 := GW554; replace HB := sqS (sqB HB) hb; clear hb hg; obtain ⟨hcz4_0, hcz4_1, hcz4_2, hfz4_0, hfz4_1, hfz4_2⟩ := sqY3 BK554) | ((with_reducible refine gate_callee (f := 22) rfl ?_); refine goesL_ (some 5) rfl rfl Tryz.func22 (by kernel_rfl) rfl #[.agg #[.int .i64 a0_0, .int .i64 a0_1, .slice A0_2 l0_2.length c0_2], .agg #[.int .i64 0, .int .i64 0, .slice none 0 0]] rfl sqA ?_; (refine (laws_sameDesk.calls k a0_0 a0_1 _ _ l0_2 0 0 _ _ ([] : List (S31)) t555 _ ?side1 ?side2 ?side3 ?side4 A2.out).mono ?_); (case side1 => exact Z1); (case side2 => exact HC0_2.out); (case side3 => exact Kd.C_nil _ _); (case side4 => exact Nat.le_refl _); rintro e w5 ⟨rfl, hb⟩; refine ⟨_, rfl, ?_⟩; replace BK554 := sqT BK554 hb; replace HB := sqS (sqB1 HB GE554) hb; (try clear hb)))
 go_ret
 exact ⟨Z15, sqB1 HB GE554⟩

end Go.Proofs.YtofmlbgfcohhoaaGreatDoor.PFnDeskRun
