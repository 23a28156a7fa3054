/- Lean functions of the Go functions that the law FnDeskRun reaches, each with its contract: made by a program of this session. -/
import Derived.Test.YtofmlbgfcohhoaaGreatDoorPFnDeskRunx0
import Derived.Test.YtofmlbgfcohhoaaGreatDoorPFnDeskRunx4
import Derived.Test.YtofmlbgfcohhoaaGreatDoorPFnDeskRunx10
namespace Go.Proofs.YtofmlbgfcohhoaaGreatDoor.PFnDeskRun
open Go.RowKit Go.Proofs.YtofmlbgfcohhoaaGreatDoorW.PrintWords Go.Proofs.YtofmlbgfcohhoaaGreatDoorW.PrintLast Go.Proofs.YtofmlbgfcohhoaaGreatDoorW.PrintMore Go.Proofs.YtofmlbgfcohhoaaGreatDoor.Lib
attribute [local go_sem] max2_int min2_int max_two min_two max_three min_three max_four min_four   -- for this text's walks alone
set_option linter.unusedVariables false
set_option linter.unusedSimpArgs false

/-! ### spec_DeskRun: function 29 -/
mutual
def spec_DeskRun.j0 : Nat → List (S38) → Bool → Int → Int → List (S31) → Option (Int × Int × (List (S31)) × Int)
 | 0, _, _, _, _, _ => none
 | k + 1, x1, x18, x538000, x538001, x538002 => if x18 = true then (some (0, 0, ([] : List (S31)), 0)) else ((spec_l11Copy.f x538000 x538001 x538002).bind fun bt540 => (spec_DeskRun.l0 k x1 0 0 bt540.1 bt540.2.1 bt540.2.2))
def spec_DeskRun.l0 : Nat → List (S38) → Int → Int → Int → Int → List (S31) → Option (Int × Int × (List (S31)) × Int)
 | 0, _, _, _, _, _, _ => none
 | k + 1, x1, x7, x8, x546000, x546001, x546002 => if x8 < (x1.length : Int) then (if 0 ≤ x8 then ((spec_DeskDo.f k x546000 x546001 x546002 ((rd_T38 x1 x8).f0) ((rd_T38 x1 x8).f1)).bind fun bt547 => (if bt547.2.2.2 = true then (spec_DeskRun.l0 k x1 (wrap64 (x7 + 1)) (wrap64 (x8 + 1)) bt547.1 bt547.2.1 bt547.2.2.1) else (spec_DeskRun.l0 k x1 x7 (wrap64 (x8 + 1)) x546000 x546001 x546002))) else (none)) else (some (x546000, x546001, x546002, x7))
end
def spec_DeskRun.f (k : Nat) (a0_0 : Int) (a0_1 : Int) (l0_2 : List (S31)) (l1 : List (S38)) : Option (Int × Int × (List (S31)) × Int) := (spec_DeskOk.f k a0_0 a0_1 l0_2).bind fun t539 => (if t539 = true then (spec_DeskRun.j0 k l1 (decide ((l1.length : Int) > 40)) a0_0 a0_1 l0_2) else (spec_DeskRun.j0 k l1 true a0_0 a0_1 l0_2))
theorem spec_DeskRun.mono_l : ∀ k, (∀ y0 y1 y2 y3 y4, LeO (spec_DeskRun.j0 k y0 y1 y2 y3 y4) (spec_DeskRun.j0 (k + 1) y0 y1 y2 y3 y4)) ∧ (∀ y0 y1 y2 y3 y4 y5, LeO (spec_DeskRun.l0 k y0 y1 y2 y3 y4 y5) (spec_DeskRun.l0 (k + 1) y0 y1 y2 y3 y4 y5))
 | 0 => ⟨fun _ _ _ _ _ r h => by simp [spec_DeskRun.j0] at h, fun _ _ _ _ _ _ r h => by simp [spec_DeskRun.l0] at h⟩
 | k + 1 => by
  obtain ⟨ih0, ih1⟩ := spec_DeskRun.mono_l k
  refine ⟨?_, ?_⟩
  ·intro y0 y1 y2 y3 y4
   unfold spec_DeskRun.j0
   repeat' first
   | (with_reducible exact ih0 _ _ _ _ _)
   | (with_reducible exact ih1 _ _ _ _ _ _)
   | (with_reducible exact spec_DeskDo.mono _ _ _ _ _ _)
   | (with_reducible exact spec_DeskOk.mono _ _ _ _)
   | (with_reducible exact LeO.refl _)
   | (with_reducible exact LeO.none _)
   | (with_reducible refine LeO.ite ?_ ?_)
   | (with_reducible refine LeO.bind ?_ (fun _ => ?_))
  ·intro y0 y1 y2 y3 y4 y5
   unfold spec_DeskRun.l0
   repeat' first
   | (with_reducible exact ih0 _ _ _ _ _)
   | (with_reducible exact ih1 _ _ _ _ _ _)
   | (with_reducible exact spec_DeskDo.mono _ _ _ _ _ _)
   | (with_reducible exact spec_DeskOk.mono _ _ _ _)
   | (with_reducible exact LeO.refl _)
   | (with_reducible exact LeO.none _)
   | (with_reducible refine LeO.ite ?_ ?_)
   | (with_reducible refine LeO.bind ?_ (fun _ => ?_))
theorem spec_DeskRun.mono : ∀ a0 a1 a2 a3 k, LeO (spec_DeskRun.f k a0 a1 a2 a3) (spec_DeskRun.f (k + 1) a0 a1 a2 a3) := by
 intro a0 a1 a2 a3 k
 obtain ⟨ih0, ih1⟩ := spec_DeskRun.mono_l k
 unfold spec_DeskRun.f
 repeat' first
   | (with_reducible exact ih0 _ _ _ _ _)
   | (with_reducible exact ih1 _ _ _ _ _ _)
   | (with_reducible exact spec_DeskDo.mono _ _ _ _ _ _)
   | (with_reducible exact spec_DeskOk.mono _ _ _ _)
   | (with_reducible exact LeO.refl _)
   | (with_reducible exact LeO.none _)
   | (with_reducible refine LeO.ite ?_ ?_)
   | (with_reducible refine LeO.bind ?_ (fun _ => ?_))
def spec_DeskRun.T8 : Bool × List (List Nat × List Nat) := (true, [([], []), ([], []), ([], []), ([1, 2], [1, 2]), ([3], [3]), ([0, 4], [0, 4]), ([5], [5]), ([6], [6]), ([6], [6]), ([], []), ([9, 7, 5, 0, 1, 2, 3, 4, 5, 6, 7, 9], [7, 9]), ([8, 10, 0, 1, 2, 3, 4, 5, 6, 7, 8, 9, 10], [8])])
def spec_DeskRun.B8 : List Nat := [0, 0, 0, 6, 14, 31, 63, 127, 127, 0, 767, 2047]
theorem spec_DeskRun.tab8 : rtab .any (opsOf Tryz.f29 8) = spec_DeskRun.T8 := by kernel_rfl
theorem spec_DeskRun.bits8 : waitsOk spec_DeskRun.T8.2 spec_DeskRun.B8 = true := by kernel_rfl
set_option maxHeartbeats 8000000 in
set_option maxRecDepth 100000 in
theorem spec_DeskRun.calls (k : Nat) (a0_0 : Int) (a0_1 : Int) (A0_2 : Option Addr) (c0_2 : Nat) (l0_2 : List (S31)) (A1 : Option Addr) (c1 : Nat) (l1 : List (S38)) (r1 : Int) (r2 : Int) (r3 : List (S31)) (r4 : Int) (w : World) (hr0_2 : Kd.C k31 w A0_2 l0_2.length l0_2) (hc0_2 : l0_2.length ≤ c0_2) (hr1 : Kd.C k38 w A1 l1.length l1) (hc1 : l1.length ≤ c1) (h : spec_DeskRun.f k a0_0 a0_1 l0_2 l1 = some (r1, r2, r3, r4)) :
  Calls Tryz.prog 29 #[.agg #[.int .i64 a0_0, .int .i64 a0_1, .slice A0_2 l0_2.length c0_2], .slice A1 l1.length c1] w fun e w' => ∃ v2_ : Value, e = .returned (.tuple #[.agg #[.int .i64 r1, .int .i64 r2, v2_], .int .i64 r4]) ∧ Kd.Q k31 31 w' w.heap.size (fun _ => True) v2_ r3 ∧ Below w.heap.size w w' := by
 have hu34 := Tryz.underlying34
 have hu38 := Tryz.underlying38
 have HR0_2 := Aside0.mk hr0_2
 have HC0_2 := Aside0.mk hc0_2
 clear hr0_2 hc0_2
 have HR1 := Aside0.mk hr1
 have HC1 := Aside0.mk hc1
 clear hr1 hc1
 have HB := Aside0.mk (Below.refl w.heap.size w)
 have H : ((spec_DeskOk.f k a0_0 a0_1 l0_2).bind fun t539 => (if t539 = true then (spec_DeskRun.j0 k l1 (decide ((l1.length : Int) > 40)) a0_0 a0_1 l0_2) else (spec_DeskRun.j0 k l1 true a0_0 a0_1 l0_2))) = some (r1, r2, r3, r4) := h
 clear h
 have HC3 := Aside0.mk H
 clear H
 go_enter Tryz.func29, Tryz.ntmps29
 go_upto_region 1 with (first | ((with_reducible refine gate_dst (N := 2) rfl ?_); (try (refine gate_guard (by rfl) ?_; dsimp only)); refine sqBox (N := 2) (cs := #[.int .i64 a0_0, .int .i64 a0_1, .slice A0_2 l0_2.length c0_2]) (t := 34) ?_; intro gb537 hg w4 BK537 hb; have GW537 := Aside0.mk ((sqG hg (sqB HB))); have GE537 := GW537; replace HB := sqS (sqB HB) hb; clear hb hg) | ((with_reducible refine gate_dst (N := 4) rfl ?_); (try (refine gate_guard (by rfl) ?_; dsimp only)); refine sqBox (N := 4) (cs := #[.int .i64 0, .int .i64 0, .slice none 0 0]) (t := 34) ?_; intro gb538 hg w5 BK538 hb; have GW538 := Aside0.mk ((sqG hg (sqB1 HB GE537))); have GE538 := GW538; replace HB := sqS (sqB1 HB GE537) hb; obtain ⟨NB537_538, NB538_537⟩ := sqM hg BK537; replace BK537 := sqT BK537 hb; clear hb hg))
 (try simp only [Act.put, List.setIfInBounds_toArray, List.set_cons_zero, List.set_cons_succ])
 go_cut [18] (fun v18 wc => ∃ (kq : Nat) (x18_2 : Bool), v18 = .bool x18_2 ∧ Aside0 (spec_DeskRun.j0 kq l1 x18_2 a0_0 a0_1 l0_2 = some (r1, r2, r3, r4)) ∧ Aside0 (kq ≤ k) ∧ Aside0 (wc.heap[gb537]? = some (.cells #[.int .i64 a0_0, .int .i64 a0_1, (.slice A0_2 l0_2.length c0_2)] 34 (0, 0))) ∧ Aside0 (wc.heap[gb538]? = some (.cells #[.int .i64 0, .int .i64 0, (.slice none 0 0)] 34 (0, 0))) ∧ Aside0 (Below w.heap.size w wc))
 case first =>
  have H := HC3.out
  clear HC3
  obtain ⟨t539, A6, H⟩ := sqD H
  by_cases c7 : t539 = true
  ·subst c7
   rw [if_pos rfl] at H
   have H' := Aside0.mk H
   clear H
   have hnb8 := NB537_538.out
   have hnc8 := NB538_537.out
   obtain ⟨hcz9_0, hcz9_1, hcz9_2, hfz9_0, hfz9_1, hfz9_2⟩ := sqY3 BK537
   go_wp2_with (first | ((with_reducible refine gate_callee (f := 30) rfl ?_); refine goesL_ (some 12) rfl rfl Tryz.func30 (by kernel_rfl) rfl #[.agg #[.int .i64 a0_0, .int .i64 a0_1, .slice A0_2 l0_2.length c0_2]] rfl sqA ?_; (with_reducible refine (spec_DeskOk.calls k a0_0 a0_1 _ _ l0_2 true _ ?side1 ?side2 A6.out).mono ?_); (case side1 => exact Z1); (case side2 => exact HC0_2.out); rintro e w10 ⟨rfl, hb⟩; refine ⟨_, rfl, ?_⟩; replace BK537 := sqT BK537 hb; replace BK538 := sqT BK538 hb; replace HB := sqS (sqB2 HB GE537 GE538) hb; (try clear hb)))
   go_meet
   case rel => exact ⟨_, (decide ((l1.length : Int) > 40)), Z2, H', ⟨Z3⟩, ⟨sqK BK537⟩, ⟨sqK BK538⟩, ⟨sqB2 HB GE537 GE538⟩⟩
  ·replace c7 := Bool.eq_false_iff.mpr c7
   subst c7
   rw [if_neg sqF] at H
   have H' := Aside0.mk H
   clear H
   have hnb11 := NB537_538.out
   have hnc11 := NB538_537.out
   obtain ⟨hcz12_0, hcz12_1, hcz12_2, hfz12_0, hfz12_1, hfz12_2⟩ := sqY3 BK537
   go_wp2_with (first | ((with_reducible refine gate_callee (f := 30) rfl ?_); refine goesL_ (some 12) rfl rfl Tryz.func30 (by kernel_rfl) rfl #[.agg #[.int .i64 a0_0, .int .i64 a0_1, .slice A0_2 l0_2.length c0_2]] rfl sqA ?_; (with_reducible refine (spec_DeskOk.calls k a0_0 a0_1 _ _ l0_2 false _ ?side1 ?side2 A6.out).mono ?_); (case side1 => exact Z1); (case side2 => exact HC0_2.out); rintro e w13 ⟨rfl, hb⟩; refine ⟨_, rfl, ?_⟩; replace BK537 := sqT BK537 hb; replace BK538 := sqT BK538 hb; replace HB := sqS (sqB2 HB GE537 GE538) hb; (try clear hb)))
   go_meet
   case rel => exact ⟨_, (true), Z2, H', ⟨Z3⟩, ⟨sqK BK537⟩, ⟨sqK BK538⟩, ⟨sqB2 HB GE537 GE538⟩⟩
 case rest =>
  clear HC3
  try clear c1; try clear c2; try clear p2; try clear c3; try clear c7; try clear c8; try clear c11; try clear hcz12_0; try clear hcz12_1; try clear hcz12_2; try clear hcz9_0; try clear hcz9_1; try clear hcz9_2; try clear hfz12_0; try clear hfz12_1; try clear hfz12_2; try clear hfz9_0; try clear hfz9_1; try clear hfz9_2
  obtain ⟨kq, x18_2, rfl, HA, HJ2, BK537, BK538, HB⟩ := hcut
  cases kq with
  | zero => exact absurd HA.out (by simp [spec_DeskRun.j0])
  | succ kj2 =>
   have H := HA.out
   clear HA
   simp only [spec_DeskRun.j0] at H
   by_cases c14 : x18_2 = true
   ·subst c14
    rw [if_pos rfl] at H
    simp only [Option.some.injEq, Prod.mk.injEq] at H
    obtain ⟨rfl, rfl, rfl, rfl⟩ := H
    have hnb15 := NB538_537.out
    have hnc15 := NB537_538.out
    obtain ⟨hcz16_0, hcz16_1, hcz16_2, hfz16_0, hfz16_1, hfz16_2⟩ := sqY3 BK538
    go_wp2
    refine bodyPost_ret (results_ct rfl _ _ gb538 34 #[.int .i64 0, .int .i64 0, .slice none 0 0] (0, 0) _ rfl (Z19 BK538) Tryz.underlying34 rfl (by kernel_rfl)) rfl ?_
    exact ⟨_, Z15, Kd.Q_of_R Z20, sqB2 HB GE537 GE538⟩
   ·replace c14 := Bool.eq_false_iff.mpr c14
    subst c14
    rw [if_neg sqF] at H
    obtain ⟨⟨t540, t541, t542⟩, A17, H⟩ := sqD H
    try dsimp only at H
    have H' := Aside0.mk H
    clear H
    have hnb18 := NB537_538.out
    have hnc18 := NB538_537.out
    obtain ⟨hcz19_0, hcz19_1, hcz19_2, hfz19_0, hfz19_1, hfz19_2⟩ := sqY3 BK537
    go_wp2_with (first | ((with_reducible refine gate_callee (f := 56) rfl ?_); refine goesL_ (some 21) rfl rfl Tryz.func56 (by kernel_rfl) rfl #[.agg #[.int .i64 a0_0, .int .i64 a0_1, .slice A0_2 l0_2.length c0_2]] rfl sqA ?_; (with_reducible refine (spec_l11Copy.calls a0_0 a0_1 _ _ l0_2 t540 t541 t542 _ ?side1 ?side2 A17.out).mono ?_); (case side1 => exact Z1); (case side2 => exact HC0_2.out); rintro e w20 ⟨v543, rfl, ho0, hb⟩; refine ⟨_, rfl, ?_⟩; have HO544 := sqL ho0 (sqB2 HB GE537 GE538); replace BK537 := sqT BK537 hb; replace BK538 := sqT BK538 hb; replace HB := sqS (sqB2 HB GE537 GE538) hb; (try clear hb); (try clear ho0)) | ((with_reducible refine gate_dst (N := 6) rfl ?_); (try (refine gate_guard (by rfl) ?_; dsimp only)); refine sqBox (N := 6) (cs := #[.int .i64 0, .int .i64 0, .slice none 0 0]) (t := 34) ?_; intro gb545 hg w21 BK545 hb; replace HO544 := sqU HO544 hb; have GW545 := Aside0.mk ((sqG hg (sqB2 HB GE537 GE538))); have GE545 := GW545; replace HB := sqS (sqB2 HB GE537 GE538) hb; obtain ⟨NB537_545, NB545_537⟩ := sqM hg BK537; replace BK537 := sqT BK537 hb; obtain ⟨NB538_545, NB545_538⟩ := sqM hg BK538; replace BK538 := sqT BK538 hb; clear hb hg; have hnb22 := NB545_537.out; have hnc22 := NB537_545.out; have hnb23 := NB545_538.out; have hnc23 := NB538_545.out; obtain ⟨hcz24_0, hcz24_1, hcz24_2, hfz24_0, hfz24_1, hfz24_2⟩ := sqY3 BK545; obtain ⟨Ao25, co25, eo25⟩ := Kd.R_slice HO544.out; subst eo25))
    go_loopg [7, 8] kj2 (fun kq v7 v8 w' => ∃ (x7_2 : Int) (x8_2 : Int) (x546000_2 : Int) (x546001_2 : Int) (x546002_2 : List (S31)) (u546002 : Value), v7 = .int .i64 x7_2 ∧ v8 = .int .i64 x8_2 ∧ Aside0 (spec_DeskRun.l0 kq l1 x7_2 x8_2 x546000_2 x546001_2 x546002_2 = some (r1, r2, r3, r4)) ∧ Aside0 (kq ≤ kj2) ∧ Aside0 (Kd.Q k31 31 w' w.heap.size (fun _ => True) u546002 x546002_2) ∧ Aside0 (w'.heap[gb537]? = some (.cells #[.int .i64 a0_0, .int .i64 a0_1, (.slice A0_2 l0_2.length c0_2)] 34 (0, 0))) ∧ Aside0 (w'.heap[gb538]? = some (.cells #[.int .i64 0, .int .i64 0, (.slice none 0 0)] 34 (0, 0))) ∧ Aside0 (w'.heap[gb545]? = some (.cells #[.int .i64 x546000_2, .int .i64 x546001_2, u546002] 34 (0, 0))) ∧ Aside0 (Below w.heap.size w w'))
    case atStart => exact ⟨(0), (0), (t540), (t541), (t542), (.slice Ao25 t542.length co25), Z2, Z2, H', ⟨Nat.le_refl _⟩, ⟨Kd.Q_of_R (by (with_reducible repeat (first | apply Kd.R_alloc | apply Kd.R_drewN | apply Kd.R_drew)); exact Kd.R_mono (Kd.R_far (p := ⟨gb545, 2, none⟩) (Kd.R_far (p := ⟨gb545, 1, none⟩) (Kd.R_far (p := ⟨gb545, 0, none⟩) (Kd.R_types HO544.out BK545.out (by decide)) (fun _ hk => hk.2) (.int .i64 t540)) (fun _ hk => hk.2) (.int .i64 t541)) (fun _ hk => hk.2) (.slice Ao25 t542.length co25)) (fun _ hk => trivial))⟩, ⟨Z5 NB537_545 BK537⟩, ⟨Z5 NB538_545 BK538⟩, ⟨by refine sqPut (cs := #[.int .i64 t540, .int .i64 t541, .slice none 0 0]) ?_ 2; refine sqPut (cs := #[.int .i64 t540, .int .i64 0, .slice none 0 0]) ?_ 1; refine sqPut (cs := #[.int .i64 0, .int .i64 0, .slice none 0 0]) ?_ 0; exact sqK BK545⟩, ⟨sqB3 HB GE537 GE538 GE545⟩⟩
    case round =>
     clear H'
     try clear c1; try clear c2; try clear p2; try clear c3; try clear c5; try clear c7; try clear c8; try clear c11; try clear c14; try clear c15; try clear c18; try clear c22; try clear c23; try clear hcz12_0; try clear hcz12_1; try clear hcz12_2; try clear hcz16_0; try clear hcz16_1; try clear hcz16_2; try clear hcz19_0; try clear hcz19_1; try clear hcz19_2; try clear hcz24_0; try clear hcz24_1; try clear hcz24_2; try clear hcz9_0; try clear hcz9_1; try clear hcz9_2; try clear hfz12_0; try clear hfz12_1; try clear hfz12_2; try clear hfz16_0; try clear hfz16_1; try clear hfz16_2; try clear hfz19_0; try clear hfz19_1; try clear hfz19_2; try clear hfz24_0; try clear hfz24_1; try clear hfz24_2; try clear hfz9_0; try clear hfz9_1; try clear hfz9_2; try clear p2
     obtain ⟨x7_2, x8_2, x546000_2, x546001_2, x546002_2, u546002, rfl, rfl, HA, HK2, HO_546002, BK537, BK538, BK545, HB⟩ := hrel
     cases gk with
     | zero => exact absurd HA.out (by simp [spec_DeskRun.l0])
     | succ k2 =>
      have H := HA.out
      clear HA
      simp only [spec_DeskRun.l0] at H
      by_cases c26 : x8_2 < (l1.length : Int)
      ·rw [if_pos c26] at H
       have c26b0 : decide (x8_2 < (l1.length : Int)) = true := decide_eq_true c26
       clear c26
       obtain ⟨c27, H⟩ := sqI H
       have c27b0 : decide (0 ≤ x8_2) = true := decide_eq_true c27
       clear c27
       obtain ⟨⟨t547, t548, t549, t552⟩, A28, H⟩ := sqD H
       try dsimp only at H
       by_cases c29 : t552 = true
       ·subst c29
        rw [if_pos rfl] at H
        have H' := Aside0.mk H
        clear H
        obtain ⟨Ao30, co30, eo30, _⟩ := Kd.Q_slice HO_546002.out
        subst eo30
        try go_wp2
        replace HO_546002 := Aside0.mk (Kd.Q_drew HO_546002.out)
        replace BK537 := Aside0.mk (blk_drew BK537.out)
        replace BK538 := Aside0.mk (blk_drew BK538.out)
        replace BK545 := Aside0.mk (blk_drew BK545.out)
        replace HB := Aside0.mk (below_drew1 HB.out)
        have p546 : 0 ≤ (x8_2 : Int) := of_decide_eq_true Z7
        have q546 : x8_2 < (l1.length : Int) := of_decide_eq_true Z7
        obtain ⟨ad546, e546, hx546_0, hx546_1⟩ := at_T38 HR1.out x8_2 p546 q546
        have hw546_1 := hx546_1
        have hw546_0 := hx546_0
        cases e546
        replace hx546_0 := (HB.out.cell (World.block_lt_of_cell? w _ hx546_0)).trans hx546_0
        replace hx546_1 := (HB.out.cell (World.block_lt_of_cell? w _ hx546_1)).trans hx546_1
        replace p546 := eq_true p546
        replace q546 := eq_true q546
        refine start_ (n := 12) (S := fun w' => w'.cell? ⟨gb545, 0, none⟩ = some (.int .i64 x546000_2) ∧ w'.cell? ⟨gb545, 1, none⟩ = some (.int .i64 x546001_2) ∧ w'.cell? ⟨gb545, 2, none⟩ = some (.slice Ao30 x546002_2.length co30) ∧ w'.cell? (ad546.add ((x8_2).toNat * 2)) = some (.int .i64 ((rd_T38 l1 x8_2).f0)) ∧ w'.cell? ⟨(ad546.add ((x8_2).toNat * 2)).block, (ad546.add ((x8_2).toNat * 2)).off + 1, none⟩ = some (.string ((rd_T38 l1 x8_2).f1))) (ds := []) #[false, false, false, false, false, false, false, false, false, false, false, false] (by kernel_rfl) rfl rfl ⟨(blk_cell BK545.out 0).trans rfl, (blk_cell BK545.out 1).trans rfl, (blk_cell BK545.out 2).trans rfl, ((HB.out.cell (World.block_lt_of_cell? w _ hw546_0)).trans hw546_0), ((HB.out.cell (World.block_lt_of_cell? w _ hw546_1)).trans hw546_1)⟩ (fun hHeld => ?_); refine with_tabW spec_DeskRun.tab8 spec_DeskRun.bits8 (fun HT_ HW_ => ?_)
        generalize wr.drew = w31 at HO_546002 BK537 BK538 BK545 HB hx546_0 hx546_1 hHeld ⊢
        refine sqP (i := 1) (N := some 30) (h := ?_)
        refine sqP (i := 2) (N := some 31) (h := ?_)
        refine sqP (i := 3) (N := some 32) (h := ?_)
        refine take_ (i := 0) (N := some 29) (v := ?_) (a' := ?_) #[true, true, true, true, false, false, false, false, false, false, false, false] rfl rfl (take_ofW HT_.out HW_.out (by kernel_rfl)) (fun _ _ _ h => h) (Or.inl ⟨by rfl, ?_⟩) hHeld ?_ ?_
        rotate_left
        ·rintro w' ⟨s0, s1, s2, s3, s4⟩
         go_simp
         with_reducible rfl
        rotate_left
        ·simp only [Act.put, List.setIfInBounds_toArray, List.set_cons_zero, List.set_cons_succ, i64_w, i32_w]
         rfl
        refine take_ (i := 4) (N := some 33) (v := ?_) (a' := ?_) #[true, true, true, true, true, false, false, false, false, false, false, false] rfl rfl (take_ofW HT_.out HW_.out (by kernel_rfl)) (fun _ _ _ h => h) (Or.inl ⟨by rfl, ?_⟩) hHeld ?_ ?_
        rotate_left
        ·rintro w' ⟨s0, s1, s2, s3, s4⟩
         go_simp
         with_reducible rfl
        rotate_left
        ·simp only [Act.put, List.setIfInBounds_toArray, List.set_cons_zero, List.set_cons_succ, i64_w, i32_w]
         rfl
        refine join_ (σ := Value × Nat) 2 #[true, true, true, true, true, true, true, true, true, true, false, false] (fun s_ => [(34, .tuple #[.agg #[.int .i64 t547, .int .i64 t548, s_.1], .bool true]), (9, .pointer (some ⟨s_.2, 0, none⟩)), (28, .tuple #[.agg #[.int .i64 t547, .int .i64 t548, s_.1], .bool true]), (35, .agg #[.int .i64 t547, .int .i64 t548, s_.1]), (36, .bool true)]) (fun s_ w' => (w'.cell? ⟨gb545, 0, none⟩ = some (.int .i64 x546000_2) ∧ w'.cell? ⟨gb545, 1, none⟩ = some (.int .i64 x546001_2) ∧ w'.cell? ⟨gb545, 2, none⟩ = some (.slice Ao30 x546002_2.length co30) ∧ w'.cell? (ad546.add ((x8_2).toNat * 2)) = some (.int .i64 ((rd_T38 l1 x8_2).f0)) ∧ w'.cell? ⟨(ad546.add ((x8_2).toNat * 2)).block, (ad546.add ((x8_2).toNat * 2)).off + 1, none⟩ = some (.string ((rd_T38 l1 x8_2).f1))) ∧ (Kd.Q k31 31 w' w.heap.size (fun k_ => some k_ ≠ (.slice Ao30 x546002_2.length co30 : Value).ownBlock) s_.1 t549) ∧ (Kd.Q k31 31 w' w.heap.size (fun k_ => some k_ ≠ (s_.1 : Value).ownBlock) (.slice Ao30 x546002_2.length co30) x546002_2) ∧ (w'.heap[gb537]? = some (.cells #[.int .i64 a0_0, .int .i64 a0_1, .slice A0_2 l0_2.length c0_2] 34 (0, 0))) ∧ (w'.heap[gb538]? = some (.cells #[.int .i64 0, .int .i64 0, .slice none 0 0] 34 (0, 0))) ∧ (w'.heap[gb545]? = some (.cells #[.int .i64 x546000_2, .int .i64 x546001_2, .slice Ao30 x546002_2.length co30] 34 (0, 0))) ∧ (w'.heap[s_.2]? = some (.cells #[.int .i64 0, .int .i64 0, .slice none 0 0] 34 (0, 0))) ∧ (w.heap.size ≤ s_.2) ∧ (w.heap.size ≤ s_.2) ∧ (gb537 ≠ s_.2) ∧ (s_.2 ≠ gb537) ∧ (gb538 ≠ s_.2) ∧ (s_.2 ≠ gb538) ∧ (gb545 ≠ s_.2) ∧ (s_.2 ≠ gb545) ∧ (Below w.heap.size w w')) ?_ ?_
        rotate_left
        ·intro hCont
         refine two_ (i := 5) (j := 9) (Ni := some 34) (Nj := some 9) #[true, true, true, true, true, true, false, false, false, false, false, false] #[true, true, true, true, true, false, false, false, false, true, false, false] rfl rfl rfl rfl (two_of HT_.out (by kernel_rfl)) (by decide) (by decide) (fun K hK => ?_) (fun K hK => ?_)
         ·skip
          refine goes_ Tryz.func14 (by kernel_rfl) rfl #[.agg #[.int .i64 x546000_2, .int .i64 x546001_2, .slice Ao30 x546002_2.length co30], .agg #[.int .i64 ((rd_T38 l1 x8_2).f0), .string ((rd_T38 l1 x8_2).f1)]] (by rfl) rfl rfl sqA ?_
          with_reducible refine (spec_DeskDo.calls k2 x546000_2 x546001_2 _ _ x546002_2 ((rd_T38 l1 x8_2).f0) ((rd_T38 l1 x8_2).f1) t547 t548 t549 true _ ?side1 ?side2 A28.out).mono ?_
          (case side1 => exact Z42 HO_546002)
          (case side2 => exact Z43 HO_546002)
          rintro e w32 ⟨v550, rfl, ho0, hb⟩
          refine ⟨_, rfl, ?_⟩
          have HO551 := Aside0.mk (Kd.Q_lower (Kd.Q_new' ho0 (Kd.Q_lt (Z10 HO_546002))) (below_size (sqB3 HB GE537 GE538 GE545)))
          replace HO_546002 := Aside0.mk (Kd.Q_elder' (Z10 HO_546002) (Kd.Q_base ho0) hb)
          replace BK537 := sqT BK537 hb
          replace BK538 := sqT BK538 hb
          replace BK545 := sqT BK545 hb
          replace HB := sqS (sqB3 HB GE537 GE538 GE545) hb
          (try clear hb)
          (try clear hb2)
          (try clear hk)
          (try clear hi)
          (try clear ho0)
          refine hK.out _ _ ⟨(blk_cell BK545.out 0).trans rfl, (blk_cell BK545.out 1).trans rfl, (blk_cell BK545.out 2).trans rfl, ((HB.out.cell (World.block_lt_of_cell? w _ hw546_0)).trans hw546_0), ((HB.out.cell (World.block_lt_of_cell? w _ hw546_1)).trans hw546_1)⟩ (fun hHeld => ?_)
          clear hK K
          refine sqN (some 34) ?_
          refine sqP (i := 6) (N := some 28) (h := ?_)
          refine sqP (i := 7) (N := some 35) (h := ?_)
          refine sqP (i := 8) (N := some 36) (h := ?_)
          refine one_ (i := 9) (N := some 9) #[true, true, true, true, true, true, true, true, true, true, false, false] rfl rfl (one_of HT_.out (by kernel_rfl)) (by decide) (fun K hK => ?_)
          refine box_step ?hg (N := 9) ?hd (cs := #[.int .i64 0, .int .i64 0, .slice none 0 0]) (t := 34) ?hr ?_; (case hd => rfl); (case hg => rfl); (case hr => exact Z8)
          intro gb553 hg w33 hbox hb
          replace HO_546002 := Aside0.mk (Kd.Q_below (Z10 HO_546002) hb)
          replace HO551 := Aside0.mk (Kd.Q_below (Z10 HO551) hb)
          have BK553 := Aside0.mk (hbox)
          have GW553 := Aside0.mk ((sqG hg (sqB3 HB GE537 GE538 GE545)))
          have GE553 := Aside0.mk ((sqG hg (sqB3 HB GE537 GE538 GE545)))
          replace HB := sqS (sqB3 HB GE537 GE538 GE545) hb
          have NB537_553 := Aside0.mk ((Z50 BK537 : gb537 ≠ gb553))
          have NB553_537 := Aside0.mk ((Z51 BK537 : gb553 ≠ gb537))
          replace BK537 := sqT BK537 hb
          have NB538_553 := Aside0.mk ((Z50 BK538 : gb538 ≠ gb553))
          have NB553_538 := Aside0.mk ((Z51 BK538 : gb553 ≠ gb538))
          replace BK538 := sqT BK538 hb
          have NB545_553 := Aside0.mk ((Z50 BK545 : gb545 ≠ gb553))
          have NB553_545 := Aside0.mk ((Z51 BK545 : gb553 ≠ gb545))
          replace BK545 := sqT BK545 hb
          clear hb hbox hg
          refine hK.out _ _ ⟨(blk_cell BK545.out 0).trans rfl, (blk_cell BK545.out 1).trans rfl, (blk_cell BK545.out 2).trans rfl, ((HB.out.cell (World.block_lt_of_cell? w _ hw546_0)).trans hw546_0), ((HB.out.cell (World.block_lt_of_cell? w _ hw546_1)).trans hw546_1)⟩ (fun hHeld => ?_)
          clear hK K
          refine sqN (some 9) ?_
          exact norm_ Z33 (hCont (v550, gb553) _ ⟨hHeld, (Z52 HO551), (Z52 HO_546002), (sqK BK537), (sqK BK538), (sqK BK545), (sqK BK553), GW553.out, GE553.out, NB537_553.out, NB553_537.out, NB538_553.out, NB553_538.out, NB545_553.out, NB553_545.out, (sqB4 HB GE537 GE538 GE545 GE553)⟩)
         ·skip
          refine box_step ?hg (N := 9) ?hd (cs := #[.int .i64 0, .int .i64 0, .slice none 0 0]) (t := 34) ?hr ?_; (case hd => rfl); (case hg => rfl); (case hr => exact Z8)
          intro gb553 hg w32 hbox hb
          replace HO_546002 := Aside0.mk (Kd.Q_below (Z10 HO_546002) hb)
          have BK553 := Aside0.mk (hbox)
          have GW553 := Aside0.mk ((sqG hg (sqB3 HB GE537 GE538 GE545)))
          have GE553 := Aside0.mk ((sqG hg (sqB3 HB GE537 GE538 GE545)))
          replace HB := sqS (sqB3 HB GE537 GE538 GE545) hb
          have NB537_553 := Aside0.mk ((Z50 BK537 : gb537 ≠ gb553))
          have NB553_537 := Aside0.mk ((Z51 BK537 : gb553 ≠ gb537))
          replace BK537 := sqT BK537 hb
          have NB538_553 := Aside0.mk ((Z50 BK538 : gb538 ≠ gb553))
          have NB553_538 := Aside0.mk ((Z51 BK538 : gb553 ≠ gb538))
          replace BK538 := sqT BK538 hb
          have NB545_553 := Aside0.mk ((Z50 BK545 : gb545 ≠ gb553))
          have NB553_545 := Aside0.mk ((Z51 BK545 : gb553 ≠ gb545))
          replace BK545 := sqT BK545 hb
          clear hb hbox hg
          refine hK.out _ _ ⟨(blk_cell BK545.out 0).trans rfl, (blk_cell BK545.out 1).trans rfl, (blk_cell BK545.out 2).trans rfl, ((HB.out.cell (World.block_lt_of_cell? w _ hw546_0)).trans hw546_0), ((HB.out.cell (World.block_lt_of_cell? w _ hw546_1)).trans hw546_1)⟩ (fun hHeld => ?_)
          clear hK K
          refine sqN (some 9) ?_
          refine one_ (i := 5) (N := some 34) #[true, true, true, true, true, true, false, false, false, true, false, false] rfl rfl (one_of HT_.out (by kernel_rfl)) (by decide) (fun K hK => ?_)
          refine goes_ Tryz.func14 (by kernel_rfl) rfl #[.agg #[.int .i64 x546000_2, .int .i64 x546001_2, .slice Ao30 x546002_2.length co30], .agg #[.int .i64 ((rd_T38 l1 x8_2).f0), .string ((rd_T38 l1 x8_2).f1)]] (by rfl) rfl rfl sqA ?_
          with_reducible refine (spec_DeskDo.calls k2 x546000_2 x546001_2 _ _ x546002_2 ((rd_T38 l1 x8_2).f0) ((rd_T38 l1 x8_2).f1) t547 t548 t549 true _ ?side1 ?side2 A28.out).mono ?_
          (case side1 => exact Z42 HO_546002)
          (case side2 => exact Z43 HO_546002)
          rintro e w33 ⟨v550, rfl, ho0, hb⟩
          refine ⟨_, rfl, ?_⟩
          have HO551 := Aside0.mk (Kd.Q_lower (Kd.Q_new' ho0 (Kd.Q_lt (Z10 HO_546002))) (below_size (sqB4 HB GE537 GE538 GE545 GE553)))
          replace HO_546002 := Aside0.mk (Kd.Q_elder' (Z10 HO_546002) (Kd.Q_base ho0) hb)
          replace BK537 := sqT BK537 hb
          replace BK538 := sqT BK538 hb
          replace BK545 := sqT BK545 hb
          replace BK553 := sqT BK553 hb
          replace HB := sqS (sqB4 HB GE537 GE538 GE545 GE553) hb
          (try clear hb)
          (try clear hb2)
          (try clear hk)
          (try clear hi)
          (try clear ho0)
          refine hK.out _ _ ⟨(blk_cell BK545.out 0).trans rfl, (blk_cell BK545.out 1).trans rfl, (blk_cell BK545.out 2).trans rfl, ((HB.out.cell (World.block_lt_of_cell? w _ hw546_0)).trans hw546_0), ((HB.out.cell (World.block_lt_of_cell? w _ hw546_1)).trans hw546_1)⟩ (fun hHeld => ?_)
          clear hK K
          refine sqN (some 34) ?_
          refine sqP (i := 6) (N := some 28) (h := ?_)
          refine sqP (i := 7) (N := some 35) (h := ?_)
          refine sqP (i := 8) (N := some 36) (h := ?_)
          exact norm_ Z33 (hCont (v550, gb553) _ ⟨hHeld, (Z52 HO551), (Z52 HO_546002), (sqK BK537), (sqK BK538), (sqK BK545), (sqK BK553), GW553.out, GE553.out, NB537_553.out, NB553_537.out, NB538_553.out, NB553_538.out, NB545_553.out, NB553_545.out, (sqB4 HB GE537 GE538 GE545 GE553)⟩)
        rintro ⟨v550, gb553⟩ w34 ⟨hS_, h0_, h1_, h2_, h3_, h4_, h5_, h6_, h7_, h8_, h9_, h10_, h11_, h12_, h13_, h14_⟩
        have n0_ : Aside0 (Kd.Q k31 31 w34 w.heap.size (fun k_ => some k_ ≠ (.slice Ao30 x546002_2.length co30 : Value).ownBlock) v550 t549) := ⟨h0_⟩
        have n1_ : Aside0 (Kd.Q k31 31 w34 w.heap.size (fun k_ => some k_ ≠ (v550 : Value).ownBlock) (.slice Ao30 x546002_2.length co30) x546002_2) := ⟨h1_⟩
        have n2_ : Aside0 (w34.heap[gb537]? = some (.cells #[.int .i64 a0_0, .int .i64 a0_1, .slice A0_2 l0_2.length c0_2] 34 (0, 0))) := ⟨h2_⟩
        have n3_ : Aside0 (w34.heap[gb538]? = some (.cells #[.int .i64 0, .int .i64 0, .slice none 0 0] 34 (0, 0))) := ⟨h3_⟩
        have n4_ : Aside0 (w34.heap[gb545]? = some (.cells #[.int .i64 x546000_2, .int .i64 x546001_2, .slice Ao30 x546002_2.length co30] 34 (0, 0))) := ⟨h4_⟩
        have n5_ : Aside0 (w34.heap[gb553]? = some (.cells #[.int .i64 0, .int .i64 0, .slice none 0 0] 34 (0, 0))) := ⟨h5_⟩
        have n6_ : Aside0 (w.heap.size ≤ gb553) := ⟨h6_⟩
        have n7_ : Aside0 (w.heap.size ≤ gb553) := ⟨h7_⟩
        have n8_ : Aside0 (gb537 ≠ gb553) := ⟨h8_⟩
        have n9_ : Aside0 (gb553 ≠ gb537) := ⟨h9_⟩
        have n10_ : Aside0 (gb538 ≠ gb553) := ⟨h10_⟩
        have n11_ : Aside0 (gb553 ≠ gb538) := ⟨h11_⟩
        have n12_ : Aside0 (gb545 ≠ gb553) := ⟨h12_⟩
        have n13_ : Aside0 (gb553 ≠ gb545) := ⟨h13_⟩
        have n14_ : Aside0 (Below w.heap.size w w34) := ⟨h14_⟩
        clear HO_546002
        clear BK537
        clear BK538
        clear BK545
        clear HB
        clear h0_ h1_ h2_ h3_ h4_ h5_ h6_ h7_ h8_ h9_ h10_ h11_ h12_ h13_ h14_
        have HO551 := n0_
        have HO_546002 := n1_
        have BK537 := n2_
        have BK538 := n3_
        have BK545 := n4_
        have BK553 := n5_
        have GW553 := n6_
        have GE553 := n7_
        have NB537_553 := n8_
        have NB553_537 := n9_
        have NB538_553 := n10_
        have NB553_538 := n11_
        have NB545_553 := n12_
        have NB553_545 := n13_
        have HB := n14_
        clear n0_ n1_ n2_ n3_ n4_ n5_ n6_ n7_ n8_ n9_ n10_ n11_ n12_ n13_ n14_
        have hHeld : w34.cell? ⟨gb545, 0, none⟩ = some (.int .i64 x546000_2) ∧ w34.cell? ⟨gb545, 1, none⟩ = some (.int .i64 x546001_2) ∧ w34.cell? ⟨gb545, 2, none⟩ = some (.slice Ao30 x546002_2.length co30) ∧ w34.cell? (ad546.add ((x8_2).toNat * 2)) = some (.int .i64 ((rd_T38 l1 x8_2).f0)) ∧ w34.cell? ⟨(ad546.add ((x8_2).toNat * 2)).block, (ad546.add ((x8_2).toNat * 2)).off + 1, none⟩ = some (.string ((rd_T38 l1 x8_2).f1)) := hS_
        obtain ⟨Ao37, co37, eo37, _⟩ := Kd.Q_slice HO551.out
        (first | subst eo37 | (injection eo37 with f1_ f2_ f3_; have f4_ := f1_.symm; have f5_ := f3_.symm; clear f1_ f2_ f3_; subst f4_; subst f5_))
        refine norm_ (a' := ?_) ?_ ?_
        rotate_left
        ·simp only [putAll, Act.put, List.setIfInBounds_toArray, List.set_cons_zero, List.set_cons_succ]
         rfl
        refine one_ (i := 10) (N := none) #[true, true, true, true, true, true, true, true, true, true, true, false] rfl rfl (one_of HT_.out (by kernel_rfl)) (by decide) (fun K hK => ?_)
        have hs35 : w34.cell? ⟨gb553, 0, none⟩ = some (.int .i64 0) := (blk_cell BK553.out 0).trans rfl
        have hfs35 := blk_frozen BK553.out 0
        have hns35_0 := NB537_553.out
        have hns35_1 := NB538_553.out
        have hns35_2 := NB545_553.out
        have hms35_0 := NB553_537.out
        have hms35_1 := NB553_538.out
        have hms35_2 := NB553_545.out
        have hs36 : w34.cell? ⟨gb553, 1, none⟩ = some (.int .i64 0) := (blk_cell BK553.out 1).trans rfl
        have hfs36 := blk_frozen BK553.out 1
        have hns36_0 := NB537_553.out
        have hns36_1 := NB538_553.out
        have hns36_2 := NB545_553.out
        have hms36_0 := NB553_537.out
        have hms36_1 := NB553_538.out
        have hms36_2 := NB553_545.out
        have hs38 : w34.cell? ⟨gb553, 2, none⟩ = some (.slice none 0 0) := (blk_cell BK553.out 2).trans rfl
        have hfs38 := blk_frozen BK553.out 2
        have hns38_0 := NB537_553.out
        have hns38_1 := NB538_553.out
        have hns38_2 := NB545_553.out
        have hms38_0 := NB553_537.out
        have hms38_1 := NB553_538.out
        have hms38_2 := NB553_545.out
        refine skip_ (w1 := ?_) (by rfl) rfl ?_ ?_
        rotate_left
        ·go_simp
         rfl
        refine hK.out _ _ ⟨((cell_far (p := ⟨gb553, _, none⟩) NB545_553.out _).trans (((cell_far (p := ⟨gb553, _, none⟩) NB545_553.out _).trans (((cell_far (p := ⟨gb553, _, none⟩) NB545_553.out _).trans (hHeld.1)))))), ((cell_far (p := ⟨gb553, _, none⟩) NB545_553.out _).trans (((cell_far (p := ⟨gb553, _, none⟩) NB545_553.out _).trans (((cell_far (p := ⟨gb553, _, none⟩) NB545_553.out _).trans (hHeld.2.1)))))), ((cell_far (p := ⟨gb553, _, none⟩) NB545_553.out _).trans (((cell_far (p := ⟨gb553, _, none⟩) NB545_553.out _).trans (((cell_far (p := ⟨gb553, _, none⟩) NB545_553.out _).trans (hHeld.2.2.1)))))), ((cell_far (p := ⟨gb553, _, none⟩) (Z125 GW553) _).trans (((cell_far (p := ⟨gb553, _, none⟩) (Z125 GW553) _).trans (((cell_far (p := ⟨gb553, _, none⟩) (Z125 GW553) _).trans (hHeld.2.2.2.1)))))), ((cell_far (p := ⟨gb553, _, none⟩) (Z126 GW553) _).trans (((cell_far (p := ⟨gb553, _, none⟩) (Z126 GW553) _).trans (((cell_far (p := ⟨gb553, _, none⟩) (Z126 GW553) _).trans (hHeld.2.2.2.2))))))⟩ (fun hHeld => ?_)
        clear hK K
        refine sqP (i := 11) (N := some 10) (h := ?_)
        refine done_ (done_of HT_.out (by kernel_rfl)) ?_
        have hnb39 := NB553_537.out
        have hnc39 := NB537_553.out
        have hnb40 := NB553_538.out
        have hnc40 := NB538_553.out
        have hnb41 := NB553_545.out
        have hnc41 := NB545_553.out
        obtain ⟨hcz42_0, hcz42_1, hcz42_2, hfz42_0, hfz42_1, hfz42_2⟩ := sqY3 BK553
        have hnb43 := NB545_537.out
        have hnc43 := NB537_545.out
        have hnb44 := NB545_538.out
        have hnc44 := NB538_545.out
        obtain ⟨hcz45_0, hcz45_1, hcz45_2, hfz45_0, hfz45_1, hfz45_2⟩ := sqY3 BK545
        try go_wp2
        go_roundg k2
        case measure => have := HJ2.out; have := HK2.out; omega
        case rel => exact ⟨(wrap64 (x7_2 + 1)), (wrap64 (x8_2 + 1)), (t547), (t548), (t549), (.slice Ao37 t549.length co37), Z2, Z2, H', ⟨Z48 HK2⟩, ⟨by (with_reducible repeat (first | apply Kd.Q_alloc | apply Kd.Q_drewN | apply Kd.Q_drew)); exact Kd.Q_mono (Kd.Q_far (p := ⟨gb545, 2, none⟩) (Kd.Q_far (p := ⟨gb545, 1, none⟩) (Kd.Q_far (p := ⟨gb545, 0, none⟩) (Kd.Q_far (p := ⟨gb553, 2, none⟩) (Kd.Q_far (p := ⟨gb553, 1, none⟩) (Kd.Q_far (p := ⟨gb553, 0, none⟩) (Kd.Q_types (Kd.Q_types HO551.out BK553.out (by decide)) BK545.out (by decide)) (fun _ hk => hk.1.2) (.int .i64 t547)) (fun _ hk => hk.1.2) (.int .i64 t548)) (fun _ hk => hk.1.2) (.slice Ao37 t549.length co37)) (fun _ hk => hk.2) (.int .i64 t547)) (fun _ hk => hk.2) (.int .i64 t548)) (fun _ hk => hk.2) (.slice Ao37 t549.length co37)) (fun _ hk => trivial)⟩, ⟨Z49 NB537_545 NB537_553 BK537⟩, ⟨Z49 NB538_545 NB538_553 BK538⟩, ⟨by refine sqPut (cs := #[.int .i64 t547, .int .i64 t548, .slice Ao30 x546002_2.length co30]) ?_ 2; refine sqPut (cs := #[.int .i64 t547, .int .i64 x546001_2, .slice Ao30 x546002_2.length co30]) ?_ 1; refine sqPut (cs := #[.int .i64 x546000_2, .int .i64 x546001_2, .slice Ao30 x546002_2.length co30]) ?_ 0; refine sqFar ?_ NB545_553; refine sqFar ?_ NB545_553; refine sqFar ?_ NB545_553; exact sqK BK545⟩, ⟨sqB4 HB GE537 GE538 GE545 GE553⟩⟩
       ·replace c29 := Bool.eq_false_iff.mpr c29
        subst c29
        rw [if_neg sqF] at H
        have H' := Aside0.mk H
        clear H
        obtain ⟨Ao46, co46, eo46, _⟩ := Kd.Q_slice HO_546002.out
        subst eo46
        try go_wp2
        replace HO_546002 := Aside0.mk (Kd.Q_drew HO_546002.out)
        replace BK537 := Aside0.mk (blk_drew BK537.out)
        replace BK538 := Aside0.mk (blk_drew BK538.out)
        replace BK545 := Aside0.mk (blk_drew BK545.out)
        replace HB := Aside0.mk (below_drew1 HB.out)
        have p546 : 0 ≤ (x8_2 : Int) := of_decide_eq_true Z7
        have q546 : x8_2 < (l1.length : Int) := of_decide_eq_true Z7
        obtain ⟨ad546, e546, hx546_0, hx546_1⟩ := at_T38 HR1.out x8_2 p546 q546
        have hw546_1 := hx546_1
        have hw546_0 := hx546_0
        cases e546
        replace hx546_0 := (HB.out.cell (World.block_lt_of_cell? w _ hx546_0)).trans hx546_0
        replace hx546_1 := (HB.out.cell (World.block_lt_of_cell? w _ hx546_1)).trans hx546_1
        replace p546 := eq_true p546
        replace q546 := eq_true q546
        refine start_ (n := 12) (S := fun w' => w'.cell? ⟨gb545, 0, none⟩ = some (.int .i64 x546000_2) ∧ w'.cell? ⟨gb545, 1, none⟩ = some (.int .i64 x546001_2) ∧ w'.cell? ⟨gb545, 2, none⟩ = some (.slice Ao46 x546002_2.length co46) ∧ w'.cell? (ad546.add ((x8_2).toNat * 2)) = some (.int .i64 ((rd_T38 l1 x8_2).f0)) ∧ w'.cell? ⟨(ad546.add ((x8_2).toNat * 2)).block, (ad546.add ((x8_2).toNat * 2)).off + 1, none⟩ = some (.string ((rd_T38 l1 x8_2).f1))) (ds := []) #[false, false, false, false, false, false, false, false, false, false, false, false] (by kernel_rfl) rfl rfl ⟨(blk_cell BK545.out 0).trans rfl, (blk_cell BK545.out 1).trans rfl, (blk_cell BK545.out 2).trans rfl, ((HB.out.cell (World.block_lt_of_cell? w _ hw546_0)).trans hw546_0), ((HB.out.cell (World.block_lt_of_cell? w _ hw546_1)).trans hw546_1)⟩ (fun hHeld => ?_); refine with_tabW spec_DeskRun.tab8 spec_DeskRun.bits8 (fun HT_ HW_ => ?_)
        generalize wr.drew = w47 at HO_546002 BK537 BK538 BK545 HB hx546_0 hx546_1 hHeld ⊢
        refine sqP (i := 1) (N := some 30) (h := ?_)
        refine sqP (i := 2) (N := some 31) (h := ?_)
        refine sqP (i := 3) (N := some 32) (h := ?_)
        refine take_ (i := 0) (N := some 29) (v := ?_) (a' := ?_) #[true, true, true, true, false, false, false, false, false, false, false, false] rfl rfl (take_ofW HT_.out HW_.out (by kernel_rfl)) (fun _ _ _ h => h) (Or.inl ⟨by rfl, ?_⟩) hHeld ?_ ?_
        rotate_left
        ·rintro w' ⟨s0, s1, s2, s3, s4⟩
         go_simp
         with_reducible rfl
        rotate_left
        ·simp only [Act.put, List.setIfInBounds_toArray, List.set_cons_zero, List.set_cons_succ, i64_w, i32_w]
         rfl
        refine take_ (i := 4) (N := some 33) (v := ?_) (a' := ?_) #[true, true, true, true, true, false, false, false, false, false, false, false] rfl rfl (take_ofW HT_.out HW_.out (by kernel_rfl)) (fun _ _ _ h => h) (Or.inl ⟨by rfl, ?_⟩) hHeld ?_ ?_
        rotate_left
        ·rintro w' ⟨s0, s1, s2, s3, s4⟩
         go_simp
         with_reducible rfl
        rotate_left
        ·simp only [Act.put, List.setIfInBounds_toArray, List.set_cons_zero, List.set_cons_succ, i64_w, i32_w]
         rfl
        refine join_ (σ := Value × Nat) 2 #[true, true, true, true, true, true, true, true, true, true, false, false] (fun s_ => [(34, .tuple #[.agg #[.int .i64 t547, .int .i64 t548, s_.1], .bool false]), (9, .pointer (some ⟨s_.2, 0, none⟩)), (28, .tuple #[.agg #[.int .i64 t547, .int .i64 t548, s_.1], .bool false]), (35, .agg #[.int .i64 t547, .int .i64 t548, s_.1]), (36, .bool false)]) (fun s_ w' => (w'.cell? ⟨gb545, 0, none⟩ = some (.int .i64 x546000_2) ∧ w'.cell? ⟨gb545, 1, none⟩ = some (.int .i64 x546001_2) ∧ w'.cell? ⟨gb545, 2, none⟩ = some (.slice Ao46 x546002_2.length co46) ∧ w'.cell? (ad546.add ((x8_2).toNat * 2)) = some (.int .i64 ((rd_T38 l1 x8_2).f0)) ∧ w'.cell? ⟨(ad546.add ((x8_2).toNat * 2)).block, (ad546.add ((x8_2).toNat * 2)).off + 1, none⟩ = some (.string ((rd_T38 l1 x8_2).f1))) ∧ (Kd.Q k31 31 w' w.heap.size (fun k_ => some k_ ≠ (.slice Ao46 x546002_2.length co46 : Value).ownBlock) s_.1 t549) ∧ (Kd.Q k31 31 w' w.heap.size (fun k_ => some k_ ≠ (s_.1 : Value).ownBlock) (.slice Ao46 x546002_2.length co46) x546002_2) ∧ (w'.heap[gb537]? = some (.cells #[.int .i64 a0_0, .int .i64 a0_1, .slice A0_2 l0_2.length c0_2] 34 (0, 0))) ∧ (w'.heap[gb538]? = some (.cells #[.int .i64 0, .int .i64 0, .slice none 0 0] 34 (0, 0))) ∧ (w'.heap[gb545]? = some (.cells #[.int .i64 x546000_2, .int .i64 x546001_2, .slice Ao46 x546002_2.length co46] 34 (0, 0))) ∧ (w'.heap[s_.2]? = some (.cells #[.int .i64 0, .int .i64 0, .slice none 0 0] 34 (0, 0))) ∧ (w.heap.size ≤ s_.2) ∧ (w.heap.size ≤ s_.2) ∧ (gb537 ≠ s_.2) ∧ (s_.2 ≠ gb537) ∧ (gb538 ≠ s_.2) ∧ (s_.2 ≠ gb538) ∧ (gb545 ≠ s_.2) ∧ (s_.2 ≠ gb545) ∧ (Below w.heap.size w w')) ?_ ?_
        rotate_left
        ·intro hCont
         refine two_ (i := 5) (j := 9) (Ni := some 34) (Nj := some 9) #[true, true, true, true, true, true, false, false, false, false, false, false] #[true, true, true, true, true, false, false, false, false, true, false, false] rfl rfl rfl rfl (two_of HT_.out (by kernel_rfl)) (by decide) (by decide) (fun K hK => ?_) (fun K hK => ?_)
         ·skip
          refine goes_ Tryz.func14 (by kernel_rfl) rfl #[.agg #[.int .i64 x546000_2, .int .i64 x546001_2, .slice Ao46 x546002_2.length co46], .agg #[.int .i64 ((rd_T38 l1 x8_2).f0), .string ((rd_T38 l1 x8_2).f1)]] (by rfl) rfl rfl sqA ?_
          with_reducible refine (spec_DeskDo.calls k2 x546000_2 x546001_2 _ _ x546002_2 ((rd_T38 l1 x8_2).f0) ((rd_T38 l1 x8_2).f1) t547 t548 t549 false _ ?side1 ?side2 A28.out).mono ?_
          (case side1 => exact Z42 HO_546002)
          (case side2 => exact Z43 HO_546002)
          rintro e w48 ⟨v550, rfl, ho0, hb⟩
          refine ⟨_, rfl, ?_⟩
          have HO551 := Aside0.mk (Kd.Q_lower (Kd.Q_new' ho0 (Kd.Q_lt (Z10 HO_546002))) (below_size (sqB3 HB GE537 GE538 GE545)))
          replace HO_546002 := Aside0.mk (Kd.Q_elder' (Z10 HO_546002) (Kd.Q_base ho0) hb)
          replace BK537 := sqT BK537 hb
          replace BK538 := sqT BK538 hb
          replace BK545 := sqT BK545 hb
          replace HB := sqS (sqB3 HB GE537 GE538 GE545) hb
          (try clear hb)
          (try clear hb2)
          (try clear hk)
          (try clear hi)
          (try clear ho0)
          refine hK.out _ _ ⟨(blk_cell BK545.out 0).trans rfl, (blk_cell BK545.out 1).trans rfl, (blk_cell BK545.out 2).trans rfl, ((HB.out.cell (World.block_lt_of_cell? w _ hw546_0)).trans hw546_0), ((HB.out.cell (World.block_lt_of_cell? w _ hw546_1)).trans hw546_1)⟩ (fun hHeld => ?_)
          clear hK K
          refine sqN (some 34) ?_
          refine sqP (i := 6) (N := some 28) (h := ?_)
          refine sqP (i := 7) (N := some 35) (h := ?_)
          refine sqP (i := 8) (N := some 36) (h := ?_)
          refine one_ (i := 9) (N := some 9) #[true, true, true, true, true, true, true, true, true, true, false, false] rfl rfl (one_of HT_.out (by kernel_rfl)) (by decide) (fun K hK => ?_)
          refine box_step ?hg (N := 9) ?hd (cs := #[.int .i64 0, .int .i64 0, .slice none 0 0]) (t := 34) ?hr ?_; (case hd => rfl); (case hg => rfl); (case hr => exact Z8)
          intro gb553 hg w49 hbox hb
          replace HO_546002 := Aside0.mk (Kd.Q_below (Z10 HO_546002) hb)
          replace HO551 := Aside0.mk (Kd.Q_below (Z10 HO551) hb)
          have BK553 := Aside0.mk (hbox)
          have GW553 := Aside0.mk ((sqG hg (sqB3 HB GE537 GE538 GE545)))
          have GE553 := Aside0.mk ((sqG hg (sqB3 HB GE537 GE538 GE545)))
          replace HB := sqS (sqB3 HB GE537 GE538 GE545) hb
          have NB537_553 := Aside0.mk ((Z50 BK537 : gb537 ≠ gb553))
          have NB553_537 := Aside0.mk ((Z51 BK537 : gb553 ≠ gb537))
          replace BK537 := sqT BK537 hb
          have NB538_553 := Aside0.mk ((Z50 BK538 : gb538 ≠ gb553))
          have NB553_538 := Aside0.mk ((Z51 BK538 : gb553 ≠ gb538))
          replace BK538 := sqT BK538 hb
          have NB545_553 := Aside0.mk ((Z50 BK545 : gb545 ≠ gb553))
          have NB553_545 := Aside0.mk ((Z51 BK545 : gb553 ≠ gb545))
          replace BK545 := sqT BK545 hb
          clear hb hbox hg
          refine hK.out _ _ ⟨(blk_cell BK545.out 0).trans rfl, (blk_cell BK545.out 1).trans rfl, (blk_cell BK545.out 2).trans rfl, ((HB.out.cell (World.block_lt_of_cell? w _ hw546_0)).trans hw546_0), ((HB.out.cell (World.block_lt_of_cell? w _ hw546_1)).trans hw546_1)⟩ (fun hHeld => ?_)
          clear hK K
          refine sqN (some 9) ?_
          exact norm_ Z33 (hCont (v550, gb553) _ ⟨hHeld, (Z52 HO551), (Z52 HO_546002), (sqK BK537), (sqK BK538), (sqK BK545), (sqK BK553), GW553.out, GE553.out, NB537_553.out, NB553_537.out, NB538_553.out, NB553_538.out, NB545_553.out, NB553_545.out, (sqB4 HB GE537 GE538 GE545 GE553)⟩)
         ·skip
          refine box_step ?hg (N := 9) ?hd (cs := #[.int .i64 0, .int .i64 0, .slice none 0 0]) (t := 34) ?hr ?_; (case hd => rfl); (case hg => rfl); (case hr => exact Z8)
          intro gb553 hg w48 hbox hb
          replace HO_546002 := Aside0.mk (Kd.Q_below (Z10 HO_546002) hb)
          have BK553 := Aside0.mk (hbox)
          have GW553 := Aside0.mk ((sqG hg (sqB3 HB GE537 GE538 GE545)))
          have GE553 := Aside0.mk ((sqG hg (sqB3 HB GE537 GE538 GE545)))
          replace HB := sqS (sqB3 HB GE537 GE538 GE545) hb
          have NB537_553 := Aside0.mk ((Z50 BK537 : gb537 ≠ gb553))
          have NB553_537 := Aside0.mk ((Z51 BK537 : gb553 ≠ gb537))
          replace BK537 := sqT BK537 hb
          have NB538_553 := Aside0.mk ((Z50 BK538 : gb538 ≠ gb553))
          have NB553_538 := Aside0.mk ((Z51 BK538 : gb553 ≠ gb538))
          replace BK538 := sqT BK538 hb
          have NB545_553 := Aside0.mk ((Z50 BK545 : gb545 ≠ gb553))
          have NB553_545 := Aside0.mk ((Z51 BK545 : gb553 ≠ gb545))
          replace BK545 := sqT BK545 hb
          clear hb hbox hg
          refine hK.out _ _ ⟨(blk_cell BK545.out 0).trans rfl, (blk_cell BK545.out 1).trans rfl, (blk_cell BK545.out 2).trans rfl, ((HB.out.cell (World.block_lt_of_cell? w _ hw546_0)).trans hw546_0), ((HB.out.cell (World.block_lt_of_cell? w _ hw546_1)).trans hw546_1)⟩ (fun hHeld => ?_)
          clear hK K
          refine sqN (some 9) ?_
          refine one_ (i := 5) (N := some 34) #[true, true, true, true, true, true, false, false, false, true, false, false] rfl rfl (one_of HT_.out (by kernel_rfl)) (by decide) (fun K hK => ?_)
          refine goes_ Tryz.func14 (by kernel_rfl) rfl #[.agg #[.int .i64 x546000_2, .int .i64 x546001_2, .slice Ao46 x546002_2.length co46], .agg #[.int .i64 ((rd_T38 l1 x8_2).f0), .string ((rd_T38 l1 x8_2).f1)]] (by rfl) rfl rfl sqA ?_
          with_reducible refine (spec_DeskDo.calls k2 x546000_2 x546001_2 _ _ x546002_2 ((rd_T38 l1 x8_2).f0) ((rd_T38 l1 x8_2).f1) t547 t548 t549 false _ ?side1 ?side2 A28.out).mono ?_
          (case side1 => exact Z42 HO_546002)
          (case side2 => exact Z43 HO_546002)
          rintro e w49 ⟨v550, rfl, ho0, hb⟩
          refine ⟨_, rfl, ?_⟩
          have HO551 := Aside0.mk (Kd.Q_lower (Kd.Q_new' ho0 (Kd.Q_lt (Z10 HO_546002))) (below_size (sqB4 HB GE537 GE538 GE545 GE553)))
          replace HO_546002 := Aside0.mk (Kd.Q_elder' (Z10 HO_546002) (Kd.Q_base ho0) hb)
          replace BK537 := sqT BK537 hb
          replace BK538 := sqT BK538 hb
          replace BK545 := sqT BK545 hb
          replace BK553 := sqT BK553 hb
          replace HB := sqS (sqB4 HB GE537 GE538 GE545 GE553) hb
          (try clear hb)
          (try clear hb2)
          (try clear hk)
          (try clear hi)
          (try clear ho0)
          refine hK.out _ _ ⟨(blk_cell BK545.out 0).trans rfl, (blk_cell BK545.out 1).trans rfl, (blk_cell BK545.out 2).trans rfl, ((HB.out.cell (World.block_lt_of_cell? w _ hw546_0)).trans hw546_0), ((HB.out.cell (World.block_lt_of_cell? w _ hw546_1)).trans hw546_1)⟩ (fun hHeld => ?_)
          clear hK K
          refine sqN (some 34) ?_
          refine sqP (i := 6) (N := some 28) (h := ?_)
          refine sqP (i := 7) (N := some 35) (h := ?_)
          refine sqP (i := 8) (N := some 36) (h := ?_)
          exact norm_ Z33 (hCont (v550, gb553) _ ⟨hHeld, (Z52 HO551), (Z52 HO_546002), (sqK BK537), (sqK BK538), (sqK BK545), (sqK BK553), GW553.out, GE553.out, NB537_553.out, NB553_537.out, NB538_553.out, NB553_538.out, NB545_553.out, NB553_545.out, (sqB4 HB GE537 GE538 GE545 GE553)⟩)
        rintro ⟨v550, gb553⟩ w50 ⟨hS_, h0_, h1_, h2_, h3_, h4_, h5_, h6_, h7_, h8_, h9_, h10_, h11_, h12_, h13_, h14_⟩
        have n0_ : Aside0 (Kd.Q k31 31 w50 w.heap.size (fun k_ => some k_ ≠ (.slice Ao46 x546002_2.length co46 : Value).ownBlock) v550 t549) := ⟨h0_⟩
        have n1_ : Aside0 (Kd.Q k31 31 w50 w.heap.size (fun k_ => some k_ ≠ (v550 : Value).ownBlock) (.slice Ao46 x546002_2.length co46) x546002_2) := ⟨h1_⟩
        have n2_ : Aside0 (w50.heap[gb537]? = some (.cells #[.int .i64 a0_0, .int .i64 a0_1, .slice A0_2 l0_2.length c0_2] 34 (0, 0))) := ⟨h2_⟩
        have n3_ : Aside0 (w50.heap[gb538]? = some (.cells #[.int .i64 0, .int .i64 0, .slice none 0 0] 34 (0, 0))) := ⟨h3_⟩
        have n4_ : Aside0 (w50.heap[gb545]? = some (.cells #[.int .i64 x546000_2, .int .i64 x546001_2, .slice Ao46 x546002_2.length co46] 34 (0, 0))) := ⟨h4_⟩
        have n5_ : Aside0 (w50.heap[gb553]? = some (.cells #[.int .i64 0, .int .i64 0, .slice none 0 0] 34 (0, 0))) := ⟨h5_⟩
        have n6_ : Aside0 (w.heap.size ≤ gb553) := ⟨h6_⟩
        have n7_ : Aside0 (w.heap.size ≤ gb553) := ⟨h7_⟩
        have n8_ : Aside0 (gb537 ≠ gb553) := ⟨h8_⟩
        have n9_ : Aside0 (gb553 ≠ gb537) := ⟨h9_⟩
        have n10_ : Aside0 (gb538 ≠ gb553) := ⟨h10_⟩
        have n11_ : Aside0 (gb553 ≠ gb538) := ⟨h11_⟩
        have n12_ : Aside0 (gb545 ≠ gb553) := ⟨h12_⟩
        have n13_ : Aside0 (gb553 ≠ gb545) := ⟨h13_⟩
        have n14_ : Aside0 (Below w.heap.size w w50) := ⟨h14_⟩
        clear HO_546002
        clear BK537
        clear BK538
        clear BK545
        clear HB
        clear h0_ h1_ h2_ h3_ h4_ h5_ h6_ h7_ h8_ h9_ h10_ h11_ h12_ h13_ h14_
        have HO551 := n0_
        have HO_546002 := n1_
        have BK537 := n2_
        have BK538 := n3_
        have BK545 := n4_
        have BK553 := n5_
        have GW553 := n6_
        have GE553 := n7_
        have NB537_553 := n8_
        have NB553_537 := n9_
        have NB538_553 := n10_
        have NB553_538 := n11_
        have NB545_553 := n12_
        have NB553_545 := n13_
        have HB := n14_
        clear n0_ n1_ n2_ n3_ n4_ n5_ n6_ n7_ n8_ n9_ n10_ n11_ n12_ n13_ n14_
        have hHeld : w50.cell? ⟨gb545, 0, none⟩ = some (.int .i64 x546000_2) ∧ w50.cell? ⟨gb545, 1, none⟩ = some (.int .i64 x546001_2) ∧ w50.cell? ⟨gb545, 2, none⟩ = some (.slice Ao46 x546002_2.length co46) ∧ w50.cell? (ad546.add ((x8_2).toNat * 2)) = some (.int .i64 ((rd_T38 l1 x8_2).f0)) ∧ w50.cell? ⟨(ad546.add ((x8_2).toNat * 2)).block, (ad546.add ((x8_2).toNat * 2)).off + 1, none⟩ = some (.string ((rd_T38 l1 x8_2).f1)) := hS_
        obtain ⟨Ao53, co53, eo53, _⟩ := Kd.Q_slice HO551.out
        (first | subst eo53 | (injection eo53 with f1_ f2_ f3_; have f4_ := f1_.symm; have f5_ := f3_.symm; clear f1_ f2_ f3_; subst f4_; subst f5_))
        refine norm_ (a' := ?_) ?_ ?_
        rotate_left
        ·simp only [putAll, Act.put, List.setIfInBounds_toArray, List.set_cons_zero, List.set_cons_succ]
         rfl
        refine one_ (i := 10) (N := none) #[true, true, true, true, true, true, true, true, true, true, true, false] rfl rfl (one_of HT_.out (by kernel_rfl)) (by decide) (fun K hK => ?_)
        have hs51 : w50.cell? ⟨gb553, 0, none⟩ = some (.int .i64 0) := (blk_cell BK553.out 0).trans rfl
        have hfs51 := blk_frozen BK553.out 0
        have hns51_0 := NB537_553.out
        have hns51_1 := NB538_553.out
        have hns51_2 := NB545_553.out
        have hms51_0 := NB553_537.out
        have hms51_1 := NB553_538.out
        have hms51_2 := NB553_545.out
        have hs52 : w50.cell? ⟨gb553, 1, none⟩ = some (.int .i64 0) := (blk_cell BK553.out 1).trans rfl
        have hfs52 := blk_frozen BK553.out 1
        have hns52_0 := NB537_553.out
        have hns52_1 := NB538_553.out
        have hns52_2 := NB545_553.out
        have hms52_0 := NB553_537.out
        have hms52_1 := NB553_538.out
        have hms52_2 := NB553_545.out
        have hs54 : w50.cell? ⟨gb553, 2, none⟩ = some (.slice none 0 0) := (blk_cell BK553.out 2).trans rfl
        have hfs54 := blk_frozen BK553.out 2
        have hns54_0 := NB537_553.out
        have hns54_1 := NB538_553.out
        have hns54_2 := NB545_553.out
        have hms54_0 := NB553_537.out
        have hms54_1 := NB553_538.out
        have hms54_2 := NB553_545.out
        refine skip_ (w1 := ?_) (by rfl) rfl ?_ ?_
        rotate_left
        ·go_simp
         rfl
        refine hK.out _ _ ⟨((cell_far (p := ⟨gb553, _, none⟩) NB545_553.out _).trans (((cell_far (p := ⟨gb553, _, none⟩) NB545_553.out _).trans (((cell_far (p := ⟨gb553, _, none⟩) NB545_553.out _).trans (hHeld.1)))))), ((cell_far (p := ⟨gb553, _, none⟩) NB545_553.out _).trans (((cell_far (p := ⟨gb553, _, none⟩) NB545_553.out _).trans (((cell_far (p := ⟨gb553, _, none⟩) NB545_553.out _).trans (hHeld.2.1)))))), ((cell_far (p := ⟨gb553, _, none⟩) NB545_553.out _).trans (((cell_far (p := ⟨gb553, _, none⟩) NB545_553.out _).trans (((cell_far (p := ⟨gb553, _, none⟩) NB545_553.out _).trans (hHeld.2.2.1)))))), ((cell_far (p := ⟨gb553, _, none⟩) (Z125 GW553) _).trans (((cell_far (p := ⟨gb553, _, none⟩) (Z125 GW553) _).trans (((cell_far (p := ⟨gb553, _, none⟩) (Z125 GW553) _).trans (hHeld.2.2.2.1)))))), ((cell_far (p := ⟨gb553, _, none⟩) (Z126 GW553) _).trans (((cell_far (p := ⟨gb553, _, none⟩) (Z126 GW553) _).trans (((cell_far (p := ⟨gb553, _, none⟩) (Z126 GW553) _).trans (hHeld.2.2.2.2))))))⟩ (fun hHeld => ?_)
        clear hK K
        refine sqP (i := 11) (N := some 10) (h := ?_)
        refine done_ (done_of HT_.out (by kernel_rfl)) ?_
        try go_wp2
        go_roundg k2
        case measure => have := HJ2.out; have := HK2.out; omega
        case rel => exact ⟨(x7_2), (wrap64 (x8_2 + 1)), (x546000_2), (x546001_2), (x546002_2), (.slice Ao46 x546002_2.length co46), Z2, Z2, H', ⟨Z48 HK2⟩, ⟨by (with_reducible repeat (first | apply Kd.Q_alloc | apply Kd.Q_drewN | apply Kd.Q_drew)); exact Kd.Q_mono (Kd.Q_far (p := ⟨gb553, 2, none⟩) (Kd.Q_far (p := ⟨gb553, 1, none⟩) (Kd.Q_far (p := ⟨gb553, 0, none⟩) (Kd.Q_types HO_546002.out BK553.out (by decide)) (fun _ hk => hk.2) (.int .i64 t547)) (fun _ hk => hk.2) (.int .i64 t548)) (fun _ hk => hk.2) (.slice Ao53 t549.length co53)) (fun _ hk => trivial)⟩, ⟨Z5 NB537_553 BK537⟩, ⟨Z5 NB538_553 BK538⟩, ⟨Z5 NB545_553 BK545⟩, ⟨sqB4 HB GE537 GE538 GE545 GE553⟩⟩
      ·rw [if_neg c26] at H
       have c26b0 : decide (x8_2 < (l1.length : Int)) = false := decide_eq_false c26
       clear c26
       simp only [Option.some.injEq, Prod.mk.injEq] at H
       obtain ⟨rfl, rfl, rfl, rfl⟩ := H
       have hnb55 := NB545_537.out
       have hnc55 := NB537_545.out
       have hnb56 := NB545_538.out
       have hnc56 := NB538_545.out
       obtain ⟨hcz57_0, hcz57_1, hcz57_2, hfz57_0, hfz57_1, hfz57_2⟩ := sqY3 BK545
       have hnb58 := NB538_537.out
       have hnc58 := NB537_538.out
       obtain ⟨hcz59_0, hcz59_1, hcz59_2, hfz59_0, hfz59_1, hfz59_2⟩ := sqY3 BK538
       obtain ⟨Ao60, co60, eo60, _⟩ := Kd.Q_slice HO_546002.out
       subst eo60
       go_wp2
       refine bodyPost_ret (results_ct rfl _ _ gb538 34 #[.int .i64 x546000_2, .int .i64 x546001_2, .slice Ao60 x546002_2.length co60] (0, 0) _ rfl (by refine sqPut (cs := #[.int .i64 x546000_2, .int .i64 x546001_2, .slice none 0 0]) ?_ 2; refine sqPut (cs := #[.int .i64 x546000_2, .int .i64 0, .slice none 0 0]) ?_ 1; refine sqPut (cs := #[.int .i64 0, .int .i64 0, .slice none 0 0]) ?_ 0; exact sqK BK538) Tryz.underlying34 rfl (by kernel_rfl)) rfl ?_
       exact ⟨_, Z15, by (with_reducible repeat (first | apply Kd.Q_alloc | apply Kd.Q_drewN | apply Kd.Q_drew)); exact Kd.Q_mono (Kd.Q_far (p := ⟨gb538, 2, none⟩) (Kd.Q_far (p := ⟨gb538, 1, none⟩) (Kd.Q_far (p := ⟨gb538, 0, none⟩) (Kd.Q_types HO_546002.out BK538.out (by decide)) (fun _ hk => hk.2) (.int .i64 x546000_2)) (fun _ hk => hk.2) (.int .i64 x546001_2)) (fun _ hk => hk.2) (.slice Ao60 x546002_2.length co60)) (fun _ hk => trivial), sqB3 HB GE537 GE538 GE545⟩

end Go.Proofs.YtofmlbgfcohhoaaGreatDoor.PFnDeskRun
