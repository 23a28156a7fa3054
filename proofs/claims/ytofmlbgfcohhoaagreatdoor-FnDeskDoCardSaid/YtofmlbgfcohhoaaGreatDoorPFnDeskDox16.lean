/- Lean functions of the Go functions that the law FnDeskDo reaches, each with its contract: made by a program of this session. -/
import Derived.Test.YtofmlbgfcohhoaaGreatDoorPFnDeskDox3
namespace Go.Proofs.YtofmlbgfcohhoaaGreatDoor.PFnDeskDo
open Go.RowKit Go.Proofs.YtofmlbgfcohhoaaGreatDoorW.PrintWords Go.Proofs.YtofmlbgfcohhoaaGreatDoorW.PrintLast Go.Proofs.YtofmlbgfcohhoaaGreatDoorW.PrintMore Go.Proofs.YtofmlbgfcohhoaaGreatDoor.Lib
attribute [local go_sem] max2_int min2_int max_two min_two max_three min_three max_four min_four   -- for this text's walks alone
set_option linter.unusedVariables false
set_option linter.unusedSimpArgs false

/-! ### spec_DeskNew: function 112 -/
def spec_DeskNew.f (k : Nat) (a0_0 : Int) (a0_1 : Int) : Option (Int × Int × (List (S31)) × Bool) := (spec_FractionOk.f k a0_0 a0_1).bind fun t458 => (if t458 = true then (some (a0_0, a0_1, ([] : List (S31)), true)) else (some (0, 0, ([] : List (S31)), false)))
theorem spec_DeskNew.mono : ∀ a0 a1 k, LeO (spec_DeskNew.f k a0 a1) (spec_DeskNew.f (k + 1) a0 a1) := by
 intro a0 a1 k
 unfold spec_DeskNew.f
 repeat' first
   | (with_reducible exact spec_FractionOk.mono _ _ _)
   | (with_reducible exact LeO.refl _)
   | (with_reducible exact LeO.none _)
   | (with_reducible refine LeO.ite ?_ ?_)
   | (with_reducible refine LeO.bind ?_ (fun _ => ?_))
set_option maxHeartbeats 8000000 in
set_option maxRecDepth 100000 in
theorem spec_DeskNew.calls (k : Nat) (a0_0 : Int) (a0_1 : Int) (r1 : Int) (r2 : Int) (r3 : List (S31)) (r4 : Bool) (w : World) (h : spec_DeskNew.f k a0_0 a0_1 = some (r1, r2, r3, r4)) :
  Calls Tryz.prog 112 #[.agg #[.int .i64 a0_0, .int .i64 a0_1]] w fun e w' => ∃ v2_ : Value, e = .returned (.tuple #[.agg #[.int .i64 r1, .int .i64 r2, v2_], .bool r4]) ∧ Kd.R k31 31 w' w.heap.size (fun _ => True) v2_ r3 ∧ Below w.heap.size w w' := by
 have hu31 := Tryz.underlying31
 have hu34 := Tryz.underlying34
 have HB := Aside0.mk (Below.refl w.heap.size w)
 have H : ((spec_FractionOk.f k a0_0 a0_1).bind fun t458 => (if t458 = true then (some (a0_0, a0_1, ([] : List (S31)), true)) else (some (0, 0, ([] : List (S31)), false)))) = some (r1, r2, r3, r4) := h
 clear h
 obtain ⟨t458, A2, H⟩ := sqD H
 by_cases c3 : t458 = true
 ·subst c3
  rw [if_pos rfl] at H
  obtain ⟨rfl, rfl, rfl, rfl⟩ := sqO4 H
  go_enter Tryz.func112, Tryz.ntmps112
  go_wp2_with (first | ((with_reducible refine gate_dst (N := 1) rfl ?_); refine sqBox (N := 1) (cs := #[.int .i64 a0_0, .int .i64 a0_1]) (t := 31) ?_; intro gb456 hg w4 BK456 hb; have GW456 := Aside0.mk ((sqG hg (sqB HB))); have GE456 := GW456; replace HB := sqS (sqB HB) hb; clear hb hg) | ((with_reducible refine gate_dst (N := 2) rfl ?_); refine sqBox (N := 2) (cs := #[.int .i64 0, .int .i64 0, .slice none 0 0]) (t := 34) ?_; intro gb457 hg w5 BK457 hb; have GW457 := Aside0.mk ((sqG hg (sqB1 HB GE456))); have GE457 := GW457; replace HB := sqS (sqB1 HB GE456) hb; obtain ⟨NB456_457, NB457_456⟩ := sqM hg BK456; replace BK456 := sqT BK456 hb; clear hb hg; have hnb6 := NB456_457.out; have hnc6 := NB457_456.out; obtain ⟨hcz7_0, hcz7_1, hfz7_0, hfz7_1⟩ := sqY2 BK456) | ((with_reducible refine gate_callee (f := 77) rfl ?_); refine goesL_ (some 5) rfl rfl Tryz.func77 (by kernel_rfl) rfl #[.agg #[.int .i64 a0_0, .int .i64 a0_1]] rfl sqA ?_; (with_reducible refine (spec_FractionOk.calls k a0_0 a0_1 true _ A2.out).mono ?_); rintro e w8 ⟨rfl, hb⟩; refine ⟨_, rfl, ?_⟩; replace BK456 := sqT BK456 hb; replace BK457 := sqT BK457 hb; replace HB := sqS (sqB2 HB GE456 GE457) hb; (try clear hb); obtain ⟨hcz9_0, hcz9_1, hfz9_0, hfz9_1⟩ := sqY2 BK456; obtain ⟨hcz10_0, hcz10_1, hcz10_2, hfz10_0, hfz10_1, hfz10_2⟩ := sqY3 BK457))
  refine bodyPost_ret (results_ct rfl _ _ gb457 34 #[.int .i64 a0_0, .int .i64 a0_1, .slice none 0 0] (0, 0) _ rfl (Z8 BK457) Tryz.underlying34 rfl (by kernel_rfl)) rfl ?_
  exact ⟨_, Z3, Z33, sqB2 HB GE456 GE457⟩
 ·replace c3 := Bool.eq_false_iff.mpr c3
  subst c3
  rw [if_neg sqF] at H
  obtain ⟨rfl, rfl, rfl, rfl⟩ := sqO4 H
  go_enter Tryz.func112, Tryz.ntmps112
  go_wp2_with (first | ((with_reducible refine gate_dst (N := 1) rfl ?_); refine sqBox (N := 1) (cs := #[.int .i64 a0_0, .int .i64 a0_1]) (t := 31) ?_; intro gb456 hg w11 BK456 hb; have GW456 := Aside0.mk ((sqG hg (sqB HB))); have GE456 := GW456; replace HB := sqS (sqB HB) hb; clear hb hg) | ((with_reducible refine gate_dst (N := 2) rfl ?_); refine sqBox (N := 2) (cs := #[.int .i64 0, .int .i64 0, .slice none 0 0]) (t := 34) ?_; intro gb457 hg w12 BK457 hb; have GW457 := Aside0.mk ((sqG hg (sqB1 HB GE456))); have GE457 := GW457; replace HB := sqS (sqB1 HB GE456) hb; obtain ⟨NB456_457, NB457_456⟩ := sqM hg BK456; replace BK456 := sqT BK456 hb; clear hb hg; have hnb13 := NB456_457.out; have hnc13 := NB457_456.out; obtain ⟨hcz14_0, hcz14_1, hfz14_0, hfz14_1⟩ := sqY2 BK456) | ((with_reducible refine gate_callee (f := 77) rfl ?_); refine goesL_ (some 5) rfl rfl Tryz.func77 (by kernel_rfl) rfl #[.agg #[.int .i64 a0_0, .int .i64 a0_1]] rfl sqA ?_; (with_reducible refine (spec_FractionOk.calls k a0_0 a0_1 false _ A2.out).mono ?_); rintro e w15 ⟨rfl, hb⟩; refine ⟨_, rfl, ?_⟩; replace BK456 := sqT BK456 hb; replace BK457 := sqT BK457 hb; replace HB := sqS (sqB2 HB GE456 GE457) hb; (try clear hb); obtain ⟨hcz16_0, hcz16_1, hcz16_2, hfz16_0, hfz16_1, hfz16_2⟩ := sqY3 BK457))
  refine bodyPost_ret (results_ct rfl _ _ gb457 34 #[.int .i64 0, .int .i64 0, .slice none 0 0] (0, 0) _ rfl (Z32 BK457) Tryz.underlying34 rfl (by kernel_rfl)) rfl ?_
  exact ⟨_, Z3, Z33, sqB2 HB GE456 GE457⟩

end Go.Proofs.YtofmlbgfcohhoaaGreatDoor.PFnDeskDo
