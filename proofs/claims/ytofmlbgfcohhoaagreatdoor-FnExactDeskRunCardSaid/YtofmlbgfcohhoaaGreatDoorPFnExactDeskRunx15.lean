/- Lean functions of the Go functions that the law FnExactDeskRun reaches, each with its contract: made by a program of this session. -/
import Derived.Test.YtofmlbgfcohhoaaGreatDoorPFnExactDeskRunx0
import Derived.Test.YtofmlbgfcohhoaaGreatDoorPFnExactDeskRunx8
import Derived.Test.YtofmlbgfcohhoaaGreatDoorPFnExactDeskRunx14
namespace Go.Proofs.YtofmlbgfcohhoaaGreatDoor.PFnExactDeskRun
open Go.RowKit Go.Proofs.YtofmlbgfcohhoaaGreatDoorW.PrintWords Go.Proofs.YtofmlbgfcohhoaaGreatDoorW.PrintLast Go.Proofs.YtofmlbgfcohhoaaGreatDoorW.PrintMore Go.Proofs.YtofmlbgfcohhoaaGreatDoor.Lib
attribute [local go_sem] max2_int min2_int max_two min_two max_three min_three max_four min_four   -- for this text's walks alone
set_option linter.unusedVariables false
set_option linter.unusedSimpArgs false

/-! ### spec_DeskRun: function 29 -/
mutual
def spec_DeskRun.j0 : Nat → List (S38) → Bool → Int → Int → List (S31) → Option (Int × Int × (List (S31)) × Int)
 | 0, _, _, _, _, _ => none
 | k + 1, x1, x18, x419000, x419001, x419002 => if x18 = true then (some (0, 0, ([] : List (S31)), 0)) else ((spec_l11Copy.f x419000 x419001 x419002).bind fun bt421 => (spec_DeskRun.l0 k x1 0 0 bt421.1 bt421.2.1 bt421.2.2))
def spec_DeskRun.l0 : Nat → List (S38) → Int → Int → Int → Int → List (S31) → Option (Int × Int × (List (S31)) × Int)
 | 0, _, _, _, _, _, _ => none
 | k + 1, x1, x7, x8, x427000, x427001, x427002 => if x8 < (x1.length : Int) then (if 0 ≤ x8 then ((spec_DeskDo.f k x427000 x427001 x427002 ((rd_T38 x1 x8).f0) ((rd_T38 x1 x8).f1)).bind fun bt428 => (if bt428.2.2.2 = true then (spec_DeskRun.l0 k x1 (wrap64 (x7 + 1)) (wrap64 (x8 + 1)) bt428.1 bt428.2.1 bt428.2.2.1) else (spec_DeskRun.l0 k x1 x7 (wrap64 (x8 + 1)) x427000 x427001 x427002))) else (none)) else (some (x427000, x427001, x427002, x7))
end
def spec_DeskRun.f (k : Nat) (a0_0 : Int) (a0_1 : Int) (l0_2 : List (S31)) (l1 : List (S38)) : Option (Int × Int × (List (S31)) × Int) := (spec_DeskOk.f k a0_0 a0_1 l0_2).bind fun t420 => (if t420 = true then (spec_DeskRun.j0 k l1 (decide ((l1.length : Int) > 40)) a0_0 a0_1 l0_2) else (spec_DeskRun.j0 k l1 true a0_0 a0_1 l0_2))
theorem spec_DeskRun.mono_l : ∀ k, (∀ y0 y1 y2 y3 y4, LeO (spec_DeskRun.j0 k y0 y1 y2 y3 y4) (spec_DeskRun.j0 (k + 1) y0 y1 y2 y3 y4)) ∧ (∀ y0 y1 y2 y3 y4 y5, LeO (spec_DeskRun.l0 k y0 y1 y2 y3 y4 y5) (spec_DeskRun.l0 (k + 1) y0 y1 y2 y3 y4 y5))
 | 0 => ⟨fun _ _ _ _ _ r h => by simp [spec_DeskRun.j0] at h, fun _ _ _ _ _ _ r h => by simp [spec_DeskRun.l0] at h⟩
 | k + 1 => by
  obtain ⟨ih0, ih1⟩ := spec_DeskRun.mono_l k
  refine ⟨?_, ?_⟩
  ·intro y0 y1 y2 y3 y4
   unfold spec_DeskRun.j0
   repeat' first
   | (with_reducible exact ih0 _ _ _ _ _)
   | (with_reducible exact ih1 _ _ _ _ _ _)
   | (with_reducible exact spec_DeskDo.mono _ _ _ _ _ _)
   | (with_reducible exact spec_DeskOk.mono _ _ _ _)
   | (with_reducible exact LeO.refl _)
   | (with_reducible exact LeO.none _)
   | (with_reducible refine LeO.ite ?_ ?_)
   | (with_reducible refine LeO.bind ?_ (fun _ => ?_))
  ·intro y0 y1 y2 y3 y4 y5
   unfold spec_DeskRun.l0
   repeat' first
   | (with_reducible exact ih0 _ _ _ _ _)
   | (with_reducible exact ih1 _ _ _ _ _ _)
   | (with_reducible exact spec_DeskDo.mono _ _ _ _ _ _)
   | (with_reducible exact spec_DeskOk.mono _ _ _ _)
   | (with_reducible exact LeO.refl _)
   | (with_reducible exact LeO.none _)
   | (with_reducible refine LeO.ite ?_ ?_)
   | (with_reducible refine LeO.bind ?_ (fun _ => ?_))
theorem spec_DeskRun.mono : ∀ a0 a1 a2 a3 k, LeO (spec_DeskRun.f k a0 a1 a2 a3) (spec_DeskRun.f (k + 1) a0 a1 a2 a3) := by
 intro a0 a1 a2 a3 k
 obtain ⟨ih0, ih1⟩ := spec_DeskRun.mono_l k
 unfold spec_DeskRun.f
 repeat' first
   | (with_reducible exact ih0 _ _ _ _ _)
   | (with_reducible exact ih1 _ _ _ _ _ _)
   | (with_reducible exact spec_DeskDo.mono _ _ _ _ _ _)
   | (with_reducible exact spec_DeskOk.mono _ _ _ _)
   | (with_reducible exact LeO.refl _)
   | (with_reducible exact LeO.none _)
   | (with_reducible refine LeO.ite ?_ ?_)
   | (with_reducible refine LeO.bind ?_ (fun _ => ?_))
def spec_DeskRun.T8 : Bool × List (List Nat × List Nat) := (true, [([], []), ([], []), ([], []), ([1, 2], [1, 2]), ([3], [3]), ([0, 4], [0, 4]), ([5], [5]), ([6], [6]), ([6], [6]), ([], []), ([9, 7, 5, 0, 1, 2, 3, 4, 5, 6, 7, 9], [7, 9]), ([8, 10, 0, 1, 2, 3, 4, 5, 6, 7, 8, 9, 10], [8])])
def spec_DeskRun.B8 : List Nat := [0, 0, 0, 6, 14, 31, 63, 127, 127, 0, 767, 2047]
theorem spec_DeskRun.tab8 : rtab .any (opsOf Tryz.f29 8) = spec_DeskRun.T8 := by kernel_rfl
theorem spec_DeskRun.bits8 : waitsOk spec_DeskRun.T8.2 spec_DeskRun.B8 = true := by kernel_rfl
set_option maxHeartbeats 8000000 in
set_option maxRecDepth 100000 in
theorem spec_DeskRun.calls (k : Nat) (a0_0 : Int) (a0_1 : Int) (A0_2 : Option Addr) (c0_2 : Nat) (l0_2 : List (S31)) (A1 : Option Addr) (c1 : Nat) (l1 : List (S38)) (r1 : Int) (r2 : Int) (r3 : List (S31)) (r4 : Int) (w : World) (hr0_2 : Kd.C k31 w A0_2 l0_2.length l0_2) (hc0_2 : l0_2.length ≤ c0_2) (hr1 : Kd.C k38 w A1 l1.length l1) (hc1 : l1.length ≤ c1) (h : spec_DeskRun.f k a0_0 a0_1 l0_2 l1 = some (r1, r2, r3, r4)) :
  Calls Tryz.prog 29 #[.agg #[.int .i64 a0_0, .int .i64 a0_1, .slice A0_2 l0_2.length c0_2], .slice A1 l1.length c1] w fun e w' => ∃ v2_ : Value, e = .returned (.tuple #[.agg #[.int .i64 r1, .int .i64 r2, v2_], .int .i64 r4]) ∧ Kd.Q k31 31 w' w.heap.size (fun _ => True) v2_ r3 ∧ Below w.heap.size w w' := by
 have hu34 := Tryz.underlying34
 have hu38 := Tryz.underlying38
 have HR0_2 := Aside0.mk hr0_2
 have HC0_2 := Aside0.mk hc0_2
 clear hr0_2 hc0_2
 have HR1 := Aside0.mk hr1
 have HC1 := Aside0.mk hc1
 clear hr1 hc1
 have HB := Aside0.mk (Below.refl w.heap.size w)
 have H : ((spec_DeskOk.f k a0_0 a0_1 l0_2).bind fun t420 => (if t420 = true then (spec_DeskRun.j0 k l1 (decide ((l1.length : Int) > 40)) a0_0 a0_1 l0_2) else (spec_DeskRun.j0 k l1 true a0_0 a0_1 l0_2))) = some (r1, r2, r3, r4) := h
 clear h
 have HC3 := Aside0.mk H
 clear H
 go_enter Tryz.func29, Tryz.ntmps29
 go_upto_region 1 with (first | ((with_reducible refine gate_dst (N := 2) rfl ?_); (try (refine gate_guard (by rfl) ?_; dsimp only)); refine sqBox (N := 2) (cs := #[.int .i64 a0_0, .int .i64 a0_1, .slice A0_2 l0_2.length c0_2]) (t := 34) ?_; intro gb418 hg w4 BK418 hb; have GW418 := Aside0.mk ((sqG hg (sqB HB))); have GE418 := GW418; replace HB := sqS (sqB HB) hb; clear hb hg) | ((with_reducible refine gate_dst (N := 4) rfl ?_); (try (refine gate_guard (by rfl) ?_; dsimp only)); refine sqBox (N := 4) (cs := #[.int .i64 0, .int .i64 0, .slice none 0 0]) (t := 34) ?_; intro gb419 hg w5 BK419 hb; have GW419 := Aside0.mk ((sqG hg (sqB1 HB GE418))); have GE419 := GW419; replace HB := sqS (sqB1 HB GE418) hb; obtain ⟨NB418_419, NB419_418⟩ := sqM hg BK418; replace BK418 := sqT BK418 hb; clear hb hg))
 (try simp only [Act.put, List.setIfInBounds_toArray, List.set_cons_zero, List.set_cons_succ])
 go_cut [18] (fun v18 wc => ∃ (kq : Nat) (x18_2 : Bool), v18 = .bool x18_2 ∧ Aside0 (spec_DeskRun.j0 kq l1 x18_2 a0_0 a0_1 l0_2 = some (r1, r2, r3, r4)) ∧ Aside0 (kq ≤ k) ∧ Aside0 (wc.heap[gb418]? = some (.cells #[.int .i64 a0_0, .int .i64 a0_1, (.slice A0_2 l0_2.length c0_2)] 34 (0, 0))) ∧ Aside0 (wc.heap[gb419]? = some (.cells #[.int .i64 0, .int .i64 0, (.slice none 0 0)] 34 (0, 0))) ∧ Aside0 (Below w.heap.size w wc))
 case first =>
  have H := HC3.out
  clear HC3
  obtain ⟨t420, A6, H⟩ := sqD H
  by_cases c7 : t420 = true
  ·subst c7
   have H1 : (spec_DeskRun.j0 k l1 (decide ((l1.length : Int) > 40)) a0_0 a0_1 l0_2) = some (r1, r2, r3, r4) := by rw [if_pos rfl] at H; exact H
   clear H
   have H := H1
   clear H1
   have H' := Aside0.mk H
   clear H
   have hnb8 := NB418_419.out
   have hnc8 := NB419_418.out
   obtain ⟨hcz9_0, hcz9_1, hcz9_2, hfz9_0, hfz9_1, hfz9_2⟩ := sqY3 BK418
   go_wp2_with (first | ((with_reducible refine gate_callee (f := 30) rfl ?_); refine goesL_ (some 12) rfl rfl Tryz.func30 (by kernel_rfl) rfl #[.agg #[.int .i64 a0_0, .int .i64 a0_1, .slice A0_2 l0_2.length c0_2]] rfl sqA ?_; (with_reducible refine (spec_DeskOk.calls k a0_0 a0_1 _ _ l0_2 true _ ?side1 ?side2 A6.out).mono ?_); (case side1 => exact Z27); (case side2 => exact Z28); rintro e w10 ⟨rfl, hb⟩; refine ⟨_, rfl, ?_⟩; replace BK418 := sqT BK418 hb; replace BK419 := sqT BK419 hb; replace HB := sqS (sqB2 HB GE418 GE419) hb; (try clear hb)))
   go_meet
   case rel => exact ⟨_, (decide ((l1.length : Int) > 40)), Z2, H', ⟨Z3⟩, ⟨sqK BK418⟩, ⟨sqK BK419⟩, ⟨sqB2 HB GE418 GE419⟩⟩
  ·replace c7 := Bool.eq_false_iff.mpr c7
   subst c7
   have H1 : (spec_DeskRun.j0 k l1 true a0_0 a0_1 l0_2) = some (r1, r2, r3, r4) := by rw [if_neg (show ¬ (false = true) by decide)] at H; exact H
   clear H
   have H := H1
   clear H1
   have H' := Aside0.mk H
   clear H
   have hnb11 := NB418_419.out
   have hnc11 := NB419_418.out
   obtain ⟨hcz12_0, hcz12_1, hcz12_2, hfz12_0, hfz12_1, hfz12_2⟩ := sqY3 BK418
   go_wp2_with (first | ((with_reducible refine gate_callee (f := 30) rfl ?_); refine goesL_ (some 12) rfl rfl Tryz.func30 (by kernel_rfl) rfl #[.agg #[.int .i64 a0_0, .int .i64 a0_1, .slice A0_2 l0_2.length c0_2]] rfl sqA ?_; (with_reducible refine (spec_DeskOk.calls k a0_0 a0_1 _ _ l0_2 false _ ?side1 ?side2 A6.out).mono ?_); (case side1 => exact Z27); (case side2 => exact Z28); rintro e w13 ⟨rfl, hb⟩; refine ⟨_, rfl, ?_⟩; replace BK418 := sqT BK418 hb; replace BK419 := sqT BK419 hb; replace HB := sqS (sqB2 HB GE418 GE419) hb; (try clear hb)))
   go_meet
   case rel => exact ⟨_, (true), Z2, H', ⟨Z3⟩, ⟨sqK BK418⟩, ⟨sqK BK419⟩, ⟨sqB2 HB GE418 GE419⟩⟩
 case rest =>
  clear HC3
  try clear c1; try clear c2; try clear p2; try clear c3; try clear c7; try clear c8; try clear c11; try clear hcz12_0; try clear hcz12_1; try clear hcz12_2; try clear hcz9_0; try clear hcz9_1; try clear hcz9_2; try clear hfz12_0; try clear hfz12_1; try clear hfz12_2; try clear hfz9_0; try clear hfz9_1; try clear hfz9_2
  obtain ⟨kq, x18_2, rfl, HA, HJ2, BK418, BK419, HB⟩ := hcut
  cases kq with
  | zero => exact absurd HA.out (by simp [spec_DeskRun.j0])
  | succ kj2 =>
   have H := HA.out
   clear HA
   simp only [spec_DeskRun.j0] at H
   by_cases c14 : x18_2 = true
   ·subst c14
    have H1 : (some (0, 0, ([] : List (S31)), 0)) = some (r1, r2, r3, r4) := by rw [if_pos rfl] at H; exact H
    clear H
    have H := H1
    clear H1
    simp only [Option.some.injEq, Prod.mk.injEq] at H
    obtain ⟨rfl, rfl, rfl, rfl⟩ := H
    have hnb15 := NB419_418.out
    have hnc15 := NB418_419.out
    obtain ⟨hcz16_0, hcz16_1, hcz16_2, hfz16_0, hfz16_1, hfz16_2⟩ := sqY3 BK419
    go_wp2
    refine bodyPost_ret (results_ct rfl _ _ gb419 34 #[.int .i64 0, .int .i64 0, .slice none 0 0] (0, 0) _ rfl (Z37 BK419) Tryz.underlying34 rfl (by kernel_rfl)) rfl ?_
    exact ⟨_, Z4, Kd.Q_of_R Z38, sqB2 HB GE418 GE419⟩
   ·replace c14 := Bool.eq_false_iff.mpr c14
    subst c14
    have H1 : ((spec_l11Copy.f a0_0 a0_1 l0_2).bind fun bt421 => (spec_DeskRun.l0 kj2 l1 0 0 bt421.1 bt421.2.1 bt421.2.2)) = some (r1, r2, r3, r4) := by rw [if_neg (show ¬ (false = true) by decide)] at H; exact H
    clear H
    have H := H1
    clear H1
    replace H := Option.bind_eq_some_iff.mp H
    obtain ⟨⟨t421, t422, t423⟩, A170, H⟩ := H
    replace H : (spec_DeskRun.l0 kj2 l1 0 0 t421 t422 t423) = some (r1, r2, r3, r4) := H
    have A17 := Aside0.mk A170
    clear A170
    have H' := Aside0.mk H
    clear H
    have hnb18 := NB418_419.out
    have hnc18 := NB419_418.out
    obtain ⟨hcz19_0, hcz19_1, hcz19_2, hfz19_0, hfz19_1, hfz19_2⟩ := sqY3 BK418
    go_wp2_with (first | ((with_reducible refine gate_callee (f := 56) rfl ?_); refine goesL_ (some 21) rfl rfl Tryz.func56 (by kernel_rfl) rfl #[.agg #[.int .i64 a0_0, .int .i64 a0_1, .slice A0_2 l0_2.length c0_2]] rfl sqA ?_; (with_reducible refine (spec_l11Copy.calls a0_0 a0_1 _ _ l0_2 t421 t422 t423 _ ?side1 ?side2 A17.out).mono ?_); (case side1 => exact Z27); (case side2 => exact Z28); rintro e w20 ⟨v424, rfl, ho0, hb⟩; refine ⟨_, rfl, ?_⟩; have HO425 := sqL ho0 (sqB2 HB GE418 GE419); replace BK418 := sqT BK418 hb; replace BK419 := sqT BK419 hb; replace HB := sqS (sqB2 HB GE418 GE419) hb; (try clear hb); (try clear ho0)) | ((with_reducible refine gate_dst (N := 6) rfl ?_); (try (refine gate_guard (by rfl) ?_; dsimp only)); refine sqBox (N := 6) (cs := #[.int .i64 0, .int .i64 0, .slice none 0 0]) (t := 34) ?_; intro gb426 hg w21 BK426 hb; replace HO425 := sqU HO425 hb; have GW426 := Aside0.mk ((sqG hg (sqB2 HB GE418 GE419))); have GE426 := GW426; replace HB := sqS (sqB2 HB GE418 GE419) hb; obtain ⟨NB418_426, NB426_418⟩ := sqM hg BK418; replace BK418 := sqT BK418 hb; obtain ⟨NB419_426, NB426_419⟩ := sqM hg BK419; replace BK419 := sqT BK419 hb; clear hb hg; have hnb22 := NB426_418.out; have hnc22 := NB418_426.out; have hnb23 := NB426_419.out; have hnc23 := NB419_426.out; obtain ⟨hcz24_0, hcz24_1, hcz24_2, hfz24_0, hfz24_1, hfz24_2⟩ := sqY3 BK426; obtain ⟨Ao25, co25, eo25⟩ := Kd.R_slice HO425.out; subst eo25))
    go_loopg [7, 8] kj2 (fun kq v7 v8 w' => ∃ (x7_2 : Int) (x8_2 : Int) (x427000_2 : Int) (x427001_2 : Int) (x427002_2 : List (S31)) (u427002 : Value), v7 = .int .i64 x7_2 ∧ v8 = .int .i64 x8_2 ∧ Aside0 (spec_DeskRun.l0 kq l1 x7_2 x8_2 x427000_2 x427001_2 x427002_2 = some (r1, r2, r3, r4)) ∧ Aside0 (kq ≤ kj2) ∧ Aside0 (Kd.Q k31 31 w' w.heap.size (fun _ => True) u427002 x427002_2) ∧ Aside0 (w'.heap[gb418]? = some (.cells #[.int .i64 a0_0, .int .i64 a0_1, (.slice A0_2 l0_2.length c0_2)] 34 (0, 0))) ∧ Aside0 (w'.heap[gb419]? = some (.cells #[.int .i64 0, .int .i64 0, (.slice none 0 0)] 34 (0, 0))) ∧ Aside0 (w'.heap[gb426]? = some (.cells #[.int .i64 x427000_2, .int .i64 x427001_2, u427002] 34 (0, 0))) ∧ Aside0 (Below w.heap.size w w'))
    case atStart => exact ⟨(0), (0), (t421), (t422), (t423), (.slice Ao25 t423.length co25), Z2, Z2, H', ⟨Nat.le_refl _⟩, ⟨Kd.Q_of_R (by (with_reducible repeat (first | apply Kd.R_alloc | apply Kd.R_drewN | apply Kd.R_drew)); exact Kd.R_mono (Kd.R_far (p := ⟨gb426, 2, none⟩) (Kd.R_far (p := ⟨gb426, 1, none⟩) (Kd.R_far (p := ⟨gb426, 0, none⟩) (Kd.R_types HO425.out BK426.out (by decide)) (fun _ hk => hk.2) (.int .i64 t421)) (fun _ hk => hk.2) (.int .i64 t422)) (fun _ hk => hk.2) (.slice Ao25 t423.length co25)) (fun _ hk => trivial))⟩, ⟨Z30 NB418_426 BK418⟩, ⟨Z30 NB419_426 BK419⟩, ⟨by refine sqPut (cs := #[.int .i64 t421, .int .i64 t422, .slice none 0 0]) ?_ 2; refine sqPut (cs := #[.int .i64 t421, .int .i64 0, .slice none 0 0]) ?_ 1; refine sqPut (cs := #[.int .i64 0, .int .i64 0, .slice none 0 0]) ?_ 0; exact sqK BK426⟩, ⟨sqB3 HB GE418 GE419 GE426⟩⟩
    case round =>
     clear H'
     try clear c1; try clear c2; try clear p2; try clear c3; try clear c5; try clear c7; try clear c8; try clear c11; try clear c14; try clear c15; try clear c18; try clear c22; try clear c23; try clear hcz12_0; try clear hcz12_1; try clear hcz12_2; try clear hcz16_0; try clear hcz16_1; try clear hcz16_2; try clear hcz19_0; try clear hcz19_1; try clear hcz19_2; try clear hcz24_0; try clear hcz24_1; try clear hcz24_2; try clear hcz9_0; try clear hcz9_1; try clear hcz9_2; try clear hfz12_0; try clear hfz12_1; try clear hfz12_2; try clear hfz16_0; try clear hfz16_1; try clear hfz16_2; try clear hfz19_0; try clear hfz19_1; try clear hfz19_2; try clear hfz24_0; try clear hfz24_1; try clear hfz24_2; try clear hfz9_0; try clear hfz9_1; try clear hfz9_2; try clear p2
     obtain ⟨x7_2, x8_2, x427000_2, x427001_2, x427002_2, u427002, rfl, rfl, HA, HK2, HO_427002, BK418, BK419, BK426, HB⟩ := hrel
     cases gk with
     | zero => exact absurd HA.out (by simp [spec_DeskRun.l0])
     | succ k2 =>
      have H := HA.out
      clear HA
      simp only [spec_DeskRun.l0] at H
      by_cases c26 : x8_2 < (l1.length : Int)
      ·rw [if_pos c26] at H
       have c26b0 : decide (x8_2 < (l1.length : Int)) = true := decide_eq_true c26
       clear c26
       by_cases c27 : 0 ≤ x8_2
       ·rw [if_pos c27] at H
        have c27b0 : decide (0 ≤ x8_2) = true := decide_eq_true c27
        clear c27
        replace H := Option.bind_eq_some_iff.mp H
        obtain ⟨⟨t428, t429, t430, t433⟩, A280, H⟩ := H
        replace H : (if t433 = true then (spec_DeskRun.l0 k2 l1 (wrap64 (x7_2 + 1)) (wrap64 (x8_2 + 1)) t428 t429 t430) else (spec_DeskRun.l0 k2 l1 x7_2 (wrap64 (x8_2 + 1)) x427000_2 x427001_2 x427002_2)) = some (r1, r2, r3, r4) := H
        have A28 := Aside0.mk A280
        clear A280
        by_cases c29 : t433 = true
        ·subst c29
         have H1 : (spec_DeskRun.l0 k2 l1 (wrap64 (x7_2 + 1)) (wrap64 (x8_2 + 1)) t428 t429 t430) = some (r1, r2, r3, r4) := by rw [if_pos rfl] at H; exact H
         clear H
         have H := H1
         clear H1
         have H' := Aside0.mk H
         clear H
         obtain ⟨Ao30, co30, eo30, _⟩ := Kd.Q_slice HO_427002.out
         subst eo30
         try go_wp2
         replace HO_427002 := Aside0.mk (Kd.Q_drew HO_427002.out)
         replace BK418 := Aside0.mk (blk_drew BK418.out)
         replace BK419 := Aside0.mk (blk_drew BK419.out)
         replace BK426 := Aside0.mk (blk_drew BK426.out)
         replace HB := Aside0.mk (below_drew1 HB.out)
         have p427 : 0 ≤ (x8_2 : Int) := of_decide_eq_true Z8
         have q427 : x8_2 < (l1.length : Int) := of_decide_eq_true Z8
         obtain ⟨ad427, e427, hx427_0, hx427_1⟩ := at_T38 HR1.out x8_2 p427 q427
         have hw427_1 := hx427_1
         have hw427_0 := hx427_0
         cases e427
         replace hx427_0 := (HB.out.cell (World.block_lt_of_cell? w _ hx427_0)).trans hx427_0
         replace hx427_1 := (HB.out.cell (World.block_lt_of_cell? w _ hx427_1)).trans hx427_1
         replace p427 := eq_true p427
         replace q427 := eq_true q427
         refine start_ (n := 12) (S := fun w' => w'.cell? ⟨gb426, 0, none⟩ = some (.int .i64 x427000_2) ∧ w'.cell? ⟨gb426, 1, none⟩ = some (.int .i64 x427001_2) ∧ w'.cell? ⟨gb426, 2, none⟩ = some (.slice Ao30 x427002_2.length co30) ∧ w'.cell? (ad427.add ((x8_2).toNat * 2)) = some (.int .i64 ((rd_T38 l1 x8_2).f0)) ∧ w'.cell? ⟨(ad427.add ((x8_2).toNat * 2)).block, (ad427.add ((x8_2).toNat * 2)).off + 1, none⟩ = some (.string ((rd_T38 l1 x8_2).f1))) (ds := []) #[false, false, false, false, false, false, false, false, false, false, false, false] (by kernel_rfl) rfl rfl ⟨(blk_cell BK426.out 0).trans rfl, (blk_cell BK426.out 1).trans rfl, (blk_cell BK426.out 2).trans rfl, ((HB.out.cell (World.block_lt_of_cell? w _ hw427_0)).trans hw427_0), ((HB.out.cell (World.block_lt_of_cell? w _ hw427_1)).trans hw427_1)⟩ (fun hHeld => ?_); refine with_tabW spec_DeskRun.tab8 spec_DeskRun.bits8 (fun HT_ HW_ => ?_)
         generalize wr.drew = w31 at HO_427002 BK418 BK419 BK426 HB hx427_0 hx427_1 hHeld ⊢
         refine sqP (i := 1) (N := some 30) (h := ?_)
         refine sqP (i := 2) (N := some 31) (h := ?_)
         refine sqP (i := 3) (N := some 32) (h := ?_)
         refine take_ (i := 0) (N := some 29) (v := ?_) (a' := ?_) #[true, true, true, true, false, false, false, false, false, false, false, false] rfl rfl (take_ofW HT_.out HW_.out (by kernel_rfl)) (fun _ _ _ h => h) (Or.inl ⟨by rfl, ?_⟩) hHeld ?_ ?_
         rotate_left
         ·rintro w' ⟨s0, s1, s2, s3, s4⟩
          go_simp
          with_reducible rfl
         rotate_left
         ·simp only [Act.put, List.setIfInBounds_toArray, List.set_cons_zero, List.set_cons_succ, i64_w, i32_w]
          rfl
         refine take_ (i := 4) (N := some 33) (v := ?_) (a' := ?_) #[true, true, true, true, true, false, false, false, false, false, false, false] rfl rfl (take_ofW HT_.out HW_.out (by kernel_rfl)) (fun _ _ _ h => h) (Or.inl ⟨by rfl, ?_⟩) hHeld ?_ ?_
         rotate_left
         ·rintro w' ⟨s0, s1, s2, s3, s4⟩
          go_simp
          with_reducible rfl
         rotate_left
         ·simp only [Act.put, List.setIfInBounds_toArray, List.set_cons_zero, List.set_cons_succ, i64_w, i32_w]
          rfl
         refine join_ (σ := Value × Nat) 2 #[true, true, true, true, true, true, true, true, true, true, false, false] (fun s_ => [(34, .tuple #[.agg #[.int .i64 t428, .int .i64 t429, s_.1], .bool true]), (9, .pointer (some ⟨s_.2, 0, none⟩)), (28, .tuple #[.agg #[.int .i64 t428, .int .i64 t429, s_.1], .bool true]), (35, .agg #[.int .i64 t428, .int .i64 t429, s_.1]), (36, .bool true)]) (fun s_ w' => (w'.cell? ⟨gb426, 0, none⟩ = some (.int .i64 x427000_2) ∧ w'.cell? ⟨gb426, 1, none⟩ = some (.int .i64 x427001_2) ∧ w'.cell? ⟨gb426, 2, none⟩ = some (.slice Ao30 x427002_2.length co30) ∧ w'.cell? (ad427.add ((x8_2).toNat * 2)) = some (.int .i64 ((rd_T38 l1 x8_2).f0)) ∧ w'.cell? ⟨(ad427.add ((x8_2).toNat * 2)).block, (ad427.add ((x8_2).toNat * 2)).off + 1, none⟩ = some (.string ((rd_T38 l1 x8_2).f1))) ∧ (Kd.Q k31 31 w' w.heap.size (fun k_ => some k_ ≠ (.slice Ao30 x427002_2.length co30 : Value).ownBlock) s_.1 t430) ∧ (Kd.Q k31 31 w' w.heap.size (fun k_ => some k_ ≠ (s_.1 : Value).ownBlock) (.slice Ao30 x427002_2.length co30) x427002_2) ∧ (w'.heap[gb418]? = some (.cells #[.int .i64 a0_0, .int .i64 a0_1, .slice A0_2 l0_2.length c0_2] 34 (0, 0))) ∧ (w'.heap[gb419]? = some (.cells #[.int .i64 0, .int .i64 0, .slice none 0 0] 34 (0, 0))) ∧ (w'.heap[gb426]? = some (.cells #[.int .i64 x427000_2, .int .i64 x427001_2, .slice Ao30 x427002_2.length co30] 34 (0, 0))) ∧ (w'.heap[s_.2]? = some (.cells #[.int .i64 0, .int .i64 0, .slice none 0 0] 34 (0, 0))) ∧ (w.heap.size ≤ s_.2) ∧ (w.heap.size ≤ s_.2) ∧ (gb418 ≠ s_.2) ∧ (s_.2 ≠ gb418) ∧ (gb419 ≠ s_.2) ∧ (s_.2 ≠ gb419) ∧ (gb426 ≠ s_.2) ∧ (s_.2 ≠ gb426) ∧ (Below w.heap.size w w')) ?_ ?_
         rotate_left
         ·intro hCont
          refine two_ (i := 5) (j := 9) (Ni := some 34) (Nj := some 9) #[true, true, true, true, true, true, false, false, false, false, false, false] #[true, true, true, true, true, false, false, false, false, true, false, false] rfl rfl rfl rfl (two_of HT_.out (by kernel_rfl)) (by decide) (by decide) (fun K hK => ?_) (fun K hK => ?_)
          ·skip
           refine goes_ Tryz.func14 (by kernel_rfl) rfl #[.agg #[.int .i64 x427000_2, .int .i64 x427001_2, .slice Ao30 x427002_2.length co30], .agg #[.int .i64 ((rd_T38 l1 x8_2).f0), .string ((rd_T38 l1 x8_2).f1)]] (by rfl) rfl rfl sqA ?_
           with_reducible refine (spec_DeskDo.calls k2 x427000_2 x427001_2 _ _ x427002_2 ((rd_T38 l1 x8_2).f0) ((rd_T38 l1 x8_2).f1) t428 t429 t430 true _ ?side1 ?side2 A28.out).mono ?_
           (case side1 => exact Z39 HO_427002)
           (case side2 => exact Z40 HO_427002)
           rintro e w32 ⟨v431, rfl, ho0, hb⟩
           refine ⟨_, rfl, ?_⟩
           have HO432 := Aside0.mk (Kd.Q_lower (Kd.Q_new' ho0 (Kd.Q_lt (Z32 HO_427002))) (below_size (sqB3 HB GE418 GE419 GE426)))
           replace HO_427002 := Aside0.mk (Kd.Q_elder' (Z32 HO_427002) (Kd.Q_base ho0) hb)
           replace BK418 := sqT BK418 hb
           replace BK419 := sqT BK419 hb
           replace BK426 := sqT BK426 hb
           replace HB := sqS (sqB3 HB GE418 GE419 GE426) hb
           (try clear hb)
           (try clear hb2)
           (try clear hk)
           (try clear hi)
           (try clear ho0)
           refine hK.out _ _ ⟨(blk_cell BK426.out 0).trans rfl, (blk_cell BK426.out 1).trans rfl, (blk_cell BK426.out 2).trans rfl, ((HB.out.cell (World.block_lt_of_cell? w _ hw427_0)).trans hw427_0), ((HB.out.cell (World.block_lt_of_cell? w _ hw427_1)).trans hw427_1)⟩ (fun hHeld => ?_)
           clear hK K
           refine sqN (some 34) ?_
           refine sqP (i := 6) (N := some 28) (h := ?_)
           refine sqP (i := 7) (N := some 35) (h := ?_)
           refine sqP (i := 8) (N := some 36) (h := ?_)
           refine one_ (i := 9) (N := some 9) #[true, true, true, true, true, true, true, true, true, true, false, false] rfl rfl (one_of HT_.out (by kernel_rfl)) (by decide) (fun K hK => ?_)
           refine box_step ?hg (N := 9) ?hd (cs := #[.int .i64 0, .int .i64 0, .slice none 0 0]) (t := 34) ?hr ?_; (case hd => rfl); (case hg => rfl); (case hr => exact Z11)
           intro gb434 hg w33 hbox hb
           replace HO_427002 := Aside0.mk (Kd.Q_below (Z32 HO_427002) hb)
           replace HO432 := Aside0.mk (Kd.Q_below (Z32 HO432) hb)
           have BK434 := Aside0.mk (hbox)
           have GW434 := Aside0.mk ((sqG hg (sqB3 HB GE418 GE419 GE426)))
           have GE434 := Aside0.mk ((sqG hg (sqB3 HB GE418 GE419 GE426)))
           replace HB := sqS (sqB3 HB GE418 GE419 GE426) hb
           have NB418_434 := Aside0.mk ((Z12 BK418 : gb418 ≠ gb434))
           have NB434_418 := Aside0.mk ((Z13 BK418 : gb434 ≠ gb418))
           replace BK418 := sqT BK418 hb
           have NB419_434 := Aside0.mk ((Z12 BK419 : gb419 ≠ gb434))
           have NB434_419 := Aside0.mk ((Z13 BK419 : gb434 ≠ gb419))
           replace BK419 := sqT BK419 hb
           have NB426_434 := Aside0.mk ((Z12 BK426 : gb426 ≠ gb434))
           have NB434_426 := Aside0.mk ((Z13 BK426 : gb434 ≠ gb426))
           replace BK426 := sqT BK426 hb
           clear hb hbox hg
           refine hK.out _ _ ⟨(blk_cell BK426.out 0).trans rfl, (blk_cell BK426.out 1).trans rfl, (blk_cell BK426.out 2).trans rfl, ((HB.out.cell (World.block_lt_of_cell? w _ hw427_0)).trans hw427_0), ((HB.out.cell (World.block_lt_of_cell? w _ hw427_1)).trans hw427_1)⟩ (fun hHeld => ?_)
           clear hK K
           refine sqN (some 9) ?_
           exact norm_ Z14 (hCont (v431, gb434) _ ⟨hHeld, (Z41 HO432), (Z41 HO_427002), (sqK BK418), (sqK BK419), (sqK BK426), (sqK BK434), GW434.out, GE434.out, NB418_434.out, NB434_418.out, NB419_434.out, NB434_419.out, NB426_434.out, NB434_426.out, (sqB4 HB GE418 GE419 GE426 GE434)⟩)
          ·skip
           refine box_step ?hg (N := 9) ?hd (cs := #[.int .i64 0, .int .i64 0, .slice none 0 0]) (t := 34) ?hr ?_; (case hd => rfl); (case hg => rfl); (case hr => exact Z11)
           intro gb434 hg w32 hbox hb
           replace HO_427002 := Aside0.mk (Kd.Q_below (Z32 HO_427002) hb)
           have BK434 := Aside0.mk (hbox)
           have GW434 := Aside0.mk ((sqG hg (sqB3 HB GE418 GE419 GE426)))
           have GE434 := Aside0.mk ((sqG hg (sqB3 HB GE418 GE419 GE426)))
           replace HB := sqS (sqB3 HB GE418 GE419 GE426) hb
           have NB418_434 := Aside0.mk ((Z12 BK418 : gb418 ≠ gb434))
           have NB434_418 := Aside0.mk ((Z13 BK418 : gb434 ≠ gb418))
           replace BK418 := sqT BK418 hb
           have NB419_434 := Aside0.mk ((Z12 BK419 : gb419 ≠ gb434))
           have NB434_419 := Aside0.mk ((Z13 BK419 : gb434 ≠ gb419))
           replace BK419 := sqT BK419 hb
           have NB426_434 := Aside0.mk ((Z12 BK426 : gb426 ≠ gb434))
           have NB434_426 := Aside0.mk ((Z13 BK426 : gb434 ≠ gb426))
           replace BK426 := sqT BK426 hb
           clear hb hbox hg
           refine hK.out _ _ ⟨(blk_cell BK426.out 0).trans rfl, (blk_cell BK426.out 1).trans rfl, (blk_cell BK426.out 2).trans rfl, ((HB.out.cell (World.block_lt_of_cell? w _ hw427_0)).trans hw427_0), ((HB.out.cell (World.block_lt_of_cell? w _ hw427_1)).trans hw427_1)⟩ (fun hHeld => ?_)
           clear hK K
           refine sqN (some 9) ?_
           refine one_ (i := 5) (N := some 34) #[true, true, true, true, true, true, false, false, false, true, false, false] rfl rfl (one_of HT_.out (by kernel_rfl)) (by decide) (fun K hK => ?_)
           refine goes_ Tryz.func14 (by kernel_rfl) rfl #[.agg #[.int .i64 x427000_2, .int .i64 x427001_2, .slice Ao30 x427002_2.length co30], .agg #[.int .i64 ((rd_T38 l1 x8_2).f0), .string ((rd_T38 l1 x8_2).f1)]] (by rfl) rfl rfl sqA ?_
           with_reducible refine (spec_DeskDo.calls k2 x427000_2 x427001_2 _ _ x427002_2 ((rd_T38 l1 x8_2).f0) ((rd_T38 l1 x8_2).f1) t428 t429 t430 true _ ?side1 ?side2 A28.out).mono ?_
           (case side1 => exact Z39 HO_427002)
           (case side2 => exact Z40 HO_427002)
           rintro e w33 ⟨v431, rfl, ho0, hb⟩
           refine ⟨_, rfl, ?_⟩
           have HO432 := Aside0.mk (Kd.Q_lower (Kd.Q_new' ho0 (Kd.Q_lt (Z32 HO_427002))) (below_size (sqB4 HB GE418 GE419 GE426 GE434)))
           replace HO_427002 := Aside0.mk (Kd.Q_elder' (Z32 HO_427002) (Kd.Q_base ho0) hb)
           replace BK418 := sqT BK418 hb
           replace BK419 := sqT BK419 hb
           replace BK426 := sqT BK426 hb
           replace BK434 := sqT BK434 hb
           replace HB := sqS (sqB4 HB GE418 GE419 GE426 GE434) hb
           (try clear hb)
           (try clear hb2)
           (try clear hk)
           (try clear hi)
           (try clear ho0)
           refine hK.out _ _ ⟨(blk_cell BK426.out 0).trans rfl, (blk_cell BK426.out 1).trans rfl, (blk_cell BK426.out 2).trans rfl, ((HB.out.cell (World.block_lt_of_cell? w _ hw427_0)).trans hw427_0), ((HB.out.cell (World.block_lt_of_cell? w _ hw427_1)).trans hw427_1)⟩ (fun hHeld => ?_)
           clear hK K
           refine sqN (some 34) ?_
           refine sqP (i := 6) (N := some 28) (h := ?_)
           refine sqP (i := 7) (N := some 35) (h := ?_)
           refine sqP (i := 8) (N := some 36) (h := ?_)
           exact norm_ Z14 (hCont (v431, gb434) _ ⟨hHeld, (Z41 HO432), (Z41 HO_427002), (sqK BK418), (sqK BK419), (sqK BK426), (sqK BK434), GW434.out, GE434.out, NB418_434.out, NB434_418.out, NB419_434.out, NB434_419.out, NB426_434.out, NB434_426.out, (sqB4 HB GE418 GE419 GE426 GE434)⟩)
         rintro ⟨v431, gb434⟩ w34 ⟨hS_, h0_, h1_, h2_, h3_, h4_, h5_, h6_, h7_, h8_, h9_, h10_, h11_, h12_, h13_, h14_⟩
         have n0_ : Aside0 (Kd.Q k31 31 w34 w.heap.size (fun k_ => some k_ ≠ (.slice Ao30 x427002_2.length co30 : Value).ownBlock) v431 t430) := ⟨h0_⟩
         have n1_ : Aside0 (Kd.Q k31 31 w34 w.heap.size (fun k_ => some k_ ≠ (v431 : Value).ownBlock) (.slice Ao30 x427002_2.length co30) x427002_2) := ⟨h1_⟩
         have n2_ : Aside0 (w34.heap[gb418]? = some (.cells #[.int .i64 a0_0, .int .i64 a0_1, .slice A0_2 l0_2.length c0_2] 34 (0, 0))) := ⟨h2_⟩
         have n3_ : Aside0 (w34.heap[gb419]? = some (.cells #[.int .i64 0, .int .i64 0, .slice none 0 0] 34 (0, 0))) := ⟨h3_⟩
         have n4_ : Aside0 (w34.heap[gb426]? = some (.cells #[.int .i64 x427000_2, .int .i64 x427001_2, .slice Ao30 x427002_2.length co30] 34 (0, 0))) := ⟨h4_⟩
         have n5_ : Aside0 (w34.heap[gb434]? = some (.cells #[.int .i64 0, .int .i64 0, .slice none 0 0] 34 (0, 0))) := ⟨h5_⟩
         have n6_ : Aside0 (w.heap.size ≤ gb434) := ⟨h6_⟩
         have n7_ : Aside0 (w.heap.size ≤ gb434) := ⟨h7_⟩
         have n8_ : Aside0 (gb418 ≠ gb434) := ⟨h8_⟩
         have n9_ : Aside0 (gb434 ≠ gb418) := ⟨h9_⟩
         have n10_ : Aside0 (gb419 ≠ gb434) := ⟨h10_⟩
         have n11_ : Aside0 (gb434 ≠ gb419) := ⟨h11_⟩
         have n12_ : Aside0 (gb426 ≠ gb434) := ⟨h12_⟩
         have n13_ : Aside0 (gb434 ≠ gb426) := ⟨h13_⟩
         have n14_ : Aside0 (Below w.heap.size w w34) := ⟨h14_⟩
         clear HO_427002
         clear BK418
         clear BK419
         clear BK426
         clear HB
         clear h0_ h1_ h2_ h3_ h4_ h5_ h6_ h7_ h8_ h9_ h10_ h11_ h12_ h13_ h14_
         have HO432 := n0_
         have HO_427002 := n1_
         have BK418 := n2_
         have BK419 := n3_
         have BK426 := n4_
         have BK434 := n5_
         have GW434 := n6_
         have GE434 := n7_
         have NB418_434 := n8_
         have NB434_418 := n9_
         have NB419_434 := n10_
         have NB434_419 := n11_
         have NB426_434 := n12_
         have NB434_426 := n13_
         have HB := n14_
         clear n0_ n1_ n2_ n3_ n4_ n5_ n6_ n7_ n8_ n9_ n10_ n11_ n12_ n13_ n14_
         have hHeld : w34.cell? ⟨gb426, 0, none⟩ = some (.int .i64 x427000_2) ∧ w34.cell? ⟨gb426, 1, none⟩ = some (.int .i64 x427001_2) ∧ w34.cell? ⟨gb426, 2, none⟩ = some (.slice Ao30 x427002_2.length co30) ∧ w34.cell? (ad427.add ((x8_2).toNat * 2)) = some (.int .i64 ((rd_T38 l1 x8_2).f0)) ∧ w34.cell? ⟨(ad427.add ((x8_2).toNat * 2)).block, (ad427.add ((x8_2).toNat * 2)).off + 1, none⟩ = some (.string ((rd_T38 l1 x8_2).f1)) := hS_
         obtain ⟨Ao37, co37, eo37, _⟩ := Kd.Q_slice HO432.out
         (first | subst eo37 | (injection eo37 with f1_ f2_ f3_; have f4_ := f1_.symm; have f5_ := f3_.symm; clear f1_ f2_ f3_; subst f4_; subst f5_))
         refine norm_ (a' := ?_) ?_ ?_
         rotate_left
         ·simp only [putAll, Act.put, List.setIfInBounds_toArray, List.set_cons_zero, List.set_cons_succ]
          rfl
         refine one_ (i := 10) (N := none) #[true, true, true, true, true, true, true, true, true, true, true, false] rfl rfl (one_of HT_.out (by kernel_rfl)) (by decide) (fun K hK => ?_)
         have hs35 : w34.cell? ⟨gb434, 0, none⟩ = some (.int .i64 0) := (blk_cell BK434.out 0).trans rfl
         have hfs35 := blk_frozen BK434.out 0
         have hns35_0 := NB418_434.out
         have hns35_1 := NB419_434.out
         have hns35_2 := NB426_434.out
         have hms35_0 := NB434_418.out
         have hms35_1 := NB434_419.out
         have hms35_2 := NB434_426.out
         have hs36 : w34.cell? ⟨gb434, 1, none⟩ = some (.int .i64 0) := (blk_cell BK434.out 1).trans rfl
         have hfs36 := blk_frozen BK434.out 1
         have hns36_0 := NB418_434.out
         have hns36_1 := NB419_434.out
         have hns36_2 := NB426_434.out
         have hms36_0 := NB434_418.out
         have hms36_1 := NB434_419.out
         have hms36_2 := NB434_426.out
         have hs38 : w34.cell? ⟨gb434, 2, none⟩ = some (.slice none 0 0) := (blk_cell BK434.out 2).trans rfl
         have hfs38 := blk_frozen BK434.out 2
         have hns38_0 := NB418_434.out
         have hns38_1 := NB419_434.out
         have hns38_2 := NB426_434.out
         have hms38_0 := NB434_418.out
         have hms38_1 := NB434_419.out
         have hms38_2 := NB434_426.out
         refine skip_ (w1 := ?_) (by rfl) rfl ?_ ?_
         rotate_left
         ·go_simp
          rfl
         refine hK.out _ _ ⟨((cell_far (p := ⟨gb434, _, none⟩) NB426_434.out _).trans (((cell_far (p := ⟨gb434, _, none⟩) NB426_434.out _).trans (((cell_far (p := ⟨gb434, _, none⟩) NB426_434.out _).trans (hHeld.1)))))), ((cell_far (p := ⟨gb434, _, none⟩) NB426_434.out _).trans (((cell_far (p := ⟨gb434, _, none⟩) NB426_434.out _).trans (((cell_far (p := ⟨gb434, _, none⟩) NB426_434.out _).trans (hHeld.2.1)))))), ((cell_far (p := ⟨gb434, _, none⟩) NB426_434.out _).trans (((cell_far (p := ⟨gb434, _, none⟩) NB426_434.out _).trans (((cell_far (p := ⟨gb434, _, none⟩) NB426_434.out _).trans (hHeld.2.2.1)))))), ((cell_far (p := ⟨gb434, _, none⟩) (Z89 GW434) _).trans (((cell_far (p := ⟨gb434, _, none⟩) (Z89 GW434) _).trans (((cell_far (p := ⟨gb434, _, none⟩) (Z89 GW434) _).trans (hHeld.2.2.2.1)))))), ((cell_far (p := ⟨gb434, _, none⟩) (Z90 GW434) _).trans (((cell_far (p := ⟨gb434, _, none⟩) (Z90 GW434) _).trans (((cell_far (p := ⟨gb434, _, none⟩) (Z90 GW434) _).trans (hHeld.2.2.2.2))))))⟩ (fun hHeld => ?_)
         clear hK K
         refine sqP (i := 11) (N := some 10) (h := ?_)
         refine done_ (done_of HT_.out (by kernel_rfl)) ?_
         have hnb39 := NB434_418.out
         have hnc39 := NB418_434.out
         have hnb40 := NB434_419.out
         have hnc40 := NB419_434.out
         have hnb41 := NB434_426.out
         have hnc41 := NB426_434.out
         obtain ⟨hcz42_0, hcz42_1, hcz42_2, hfz42_0, hfz42_1, hfz42_2⟩ := sqY3 BK434
         have hnb43 := NB426_418.out
         have hnc43 := NB418_426.out
         have hnb44 := NB426_419.out
         have hnc44 := NB419_426.out
         obtain ⟨hcz45_0, hcz45_1, hcz45_2, hfz45_0, hfz45_1, hfz45_2⟩ := sqY3 BK426
         try go_wp2
         go_roundg k2
         case measure => have := HJ2.out; have := HK2.out; omega
         case rel => exact ⟨(wrap64 (x7_2 + 1)), (wrap64 (x8_2 + 1)), (t428), (t429), (t430), (.slice Ao37 t430.length co37), Z2, Z2, H', ⟨Z15 HK2⟩, ⟨by (with_reducible repeat (first | apply Kd.Q_alloc | apply Kd.Q_drewN | apply Kd.Q_drew)); exact Kd.Q_mono (Kd.Q_far (p := ⟨gb426, 2, none⟩) (Kd.Q_far (p := ⟨gb426, 1, none⟩) (Kd.Q_far (p := ⟨gb426, 0, none⟩) (Kd.Q_far (p := ⟨gb434, 2, none⟩) (Kd.Q_far (p := ⟨gb434, 1, none⟩) (Kd.Q_far (p := ⟨gb434, 0, none⟩) (Kd.Q_types (Kd.Q_types HO432.out BK434.out (by decide)) BK426.out (by decide)) (fun _ hk => hk.1.2) (.int .i64 t428)) (fun _ hk => hk.1.2) (.int .i64 t429)) (fun _ hk => hk.1.2) (.slice Ao37 t430.length co37)) (fun _ hk => hk.2) (.int .i64 t428)) (fun _ hk => hk.2) (.int .i64 t429)) (fun _ hk => hk.2) (.slice Ao37 t430.length co37)) (fun _ hk => trivial)⟩, ⟨Z44 NB418_426 NB418_434 BK418⟩, ⟨Z44 NB419_426 NB419_434 BK419⟩, ⟨by refine sqPut (cs := #[.int .i64 t428, .int .i64 t429, .slice Ao30 x427002_2.length co30]) ?_ 2; refine sqPut (cs := #[.int .i64 t428, .int .i64 x427001_2, .slice Ao30 x427002_2.length co30]) ?_ 1; refine sqPut (cs := #[.int .i64 x427000_2, .int .i64 x427001_2, .slice Ao30 x427002_2.length co30]) ?_ 0; refine sqFar ?_ NB426_434; refine sqFar ?_ NB426_434; refine sqFar ?_ NB426_434; exact sqK BK426⟩, ⟨sqB4 HB GE418 GE419 GE426 GE434⟩⟩
        ·replace c29 := Bool.eq_false_iff.mpr c29
         subst c29
         have H1 : (spec_DeskRun.l0 k2 l1 x7_2 (wrap64 (x8_2 + 1)) x427000_2 x427001_2 x427002_2) = some (r1, r2, r3, r4) := by rw [if_neg (show ¬ (false = true) by decide)] at H; exact H
         clear H
         have H := H1
         clear H1
         have H' := Aside0.mk H
         clear H
         obtain ⟨Ao46, co46, eo46, _⟩ := Kd.Q_slice HO_427002.out
         subst eo46
         try go_wp2
         replace HO_427002 := Aside0.mk (Kd.Q_drew HO_427002.out)
         replace BK418 := Aside0.mk (blk_drew BK418.out)
         replace BK419 := Aside0.mk (blk_drew BK419.out)
         replace BK426 := Aside0.mk (blk_drew BK426.out)
         replace HB := Aside0.mk (below_drew1 HB.out)
         have p427 : 0 ≤ (x8_2 : Int) := of_decide_eq_true Z8
         have q427 : x8_2 < (l1.length : Int) := of_decide_eq_true Z8
         obtain ⟨ad427, e427, hx427_0, hx427_1⟩ := at_T38 HR1.out x8_2 p427 q427
         have hw427_1 := hx427_1
         have hw427_0 := hx427_0
         cases e427
         replace hx427_0 := (HB.out.cell (World.block_lt_of_cell? w _ hx427_0)).trans hx427_0
         replace hx427_1 := (HB.out.cell (World.block_lt_of_cell? w _ hx427_1)).trans hx427_1
         replace p427 := eq_true p427
         replace q427 := eq_true q427
         refine start_ (n := 12) (S := fun w' => w'.cell? ⟨gb426, 0, none⟩ = some (.int .i64 x427000_2) ∧ w'.cell? ⟨gb426, 1, none⟩ = some (.int .i64 x427001_2) ∧ w'.cell? ⟨gb426, 2, none⟩ = some (.slice Ao46 x427002_2.length co46) ∧ w'.cell? (ad427.add ((x8_2).toNat * 2)) = some (.int .i64 ((rd_T38 l1 x8_2).f0)) ∧ w'.cell? ⟨(ad427.add ((x8_2).toNat * 2)).block, (ad427.add ((x8_2).toNat * 2)).off + 1, none⟩ = some (.string ((rd_T38 l1 x8_2).f1))) (ds := []) #[false, false, false, false, false, false, false, false, false, false, false, false] (by kernel_rfl) rfl rfl ⟨(blk_cell BK426.out 0).trans rfl, (blk_cell BK426.out 1).trans rfl, (blk_cell BK426.out 2).trans rfl, ((HB.out.cell (World.block_lt_of_cell? w _ hw427_0)).trans hw427_0), ((HB.out.cell (World.block_lt_of_cell? w _ hw427_1)).trans hw427_1)⟩ (fun hHeld => ?_); refine with_tabW spec_DeskRun.tab8 spec_DeskRun.bits8 (fun HT_ HW_ => ?_)
         generalize wr.drew = w47 at HO_427002 BK418 BK419 BK426 HB hx427_0 hx427_1 hHeld ⊢
         refine sqP (i := 1) (N := some 30) (h := ?_)
         refine sqP (i := 2) (N := some 31) (h := ?_)
         refine sqP (i := 3) (N := some 32) (h := ?_)
         refine take_ (i := 0) (N := some 29) (v := ?_) (a' := ?_) #[true, true, true, true, false, false, false, false, false, false, false, false] rfl rfl (take_ofW HT_.out HW_.out (by kernel_rfl)) (fun _ _ _ h => h) (Or.inl ⟨by rfl, ?_⟩) hHeld ?_ ?_
         rotate_left
         ·rintro w' ⟨s0, s1, s2, s3, s4⟩
          go_simp
          with_reducible rfl
         rotate_left
         ·simp only [Act.put, List.setIfInBounds_toArray, List.set_cons_zero, List.set_cons_succ, i64_w, i32_w]
          rfl
         refine take_ (i := 4) (N := some 33) (v := ?_) (a' := ?_) #[true, true, true, true, true, false, false, false, false, false, false, false] rfl rfl (take_ofW HT_.out HW_.out (by kernel_rfl)) (fun _ _ _ h => h) (Or.inl ⟨by rfl, ?_⟩) hHeld ?_ ?_
         rotate_left
         ·rintro w' ⟨s0, s1, s2, s3, s4⟩
          go_simp
          with_reducible rfl
         rotate_left
         ·simp only [Act.put, List.setIfInBounds_toArray, List.set_cons_zero, List.set_cons_succ, i64_w, i32_w]
          rfl
         refine join_ (σ := Value × Nat) 2 #[true, true, true, true, true, true, true, true, true, true, false, false] (fun s_ => [(34, .tuple #[.agg #[.int .i64 t428, .int .i64 t429, s_.1], .bool false]), (9, .pointer (some ⟨s_.2, 0, none⟩)), (28, .tuple #[.agg #[.int .i64 t428, .int .i64 t429, s_.1], .bool false]), (35, .agg #[.int .i64 t428, .int .i64 t429, s_.1]), (36, .bool false)]) (fun s_ w' => (w'.cell? ⟨gb426, 0, none⟩ = some (.int .i64 x427000_2) ∧ w'.cell? ⟨gb426, 1, none⟩ = some (.int .i64 x427001_2) ∧ w'.cell? ⟨gb426, 2, none⟩ = some (.slice Ao46 x427002_2.length co46) ∧ w'.cell? (ad427.add ((x8_2).toNat * 2)) = some (.int .i64 ((rd_T38 l1 x8_2).f0)) ∧ w'.cell? ⟨(ad427.add ((x8_2).toNat * 2)).block, (ad427.add ((x8_2).toNat * 2)).off + 1, none⟩ = some (.string ((rd_T38 l1 x8_2).f1))) ∧ (Kd.Q k31 31 w' w.heap.size (fun k_ => some k_ ≠ (.slice Ao46 x427002_2.length co46 : Value).ownBlock) s_.1 t430) ∧ (Kd.Q k31 31 w' w.heap.size (fun k_ => some k_ ≠ (s_.1 : Value).ownBlock) (.slice Ao46 x427002_2.length co46) x427002_2) ∧ (w'.heap[gb418]? = some (.cells #[.int .i64 a0_0, .int .i64 a0_1, .slice A0_2 l0_2.length c0_2] 34 (0, 0))) ∧ (w'.heap[gb419]? = some (.cells #[.int .i64 0, .int .i64 0, .slice none 0 0] 34 (0, 0))) ∧ (w'.heap[gb426]? = some (.cells #[.int .i64 x427000_2, .int .i64 x427001_2, .slice Ao46 x427002_2.length co46] 34 (0, 0))) ∧ (w'.heap[s_.2]? = some (.cells #[.int .i64 0, .int .i64 0, .slice none 0 0] 34 (0, 0))) ∧ (w.heap.size ≤ s_.2) ∧ (w.heap.size ≤ s_.2) ∧ (gb418 ≠ s_.2) ∧ (s_.2 ≠ gb418) ∧ (gb419 ≠ s_.2) ∧ (s_.2 ≠ gb419) ∧ (gb426 ≠ s_.2) ∧ (s_.2 ≠ gb426) ∧ (Below w.heap.size w w')) ?_ ?_
         rotate_left
         ·intro hCont
          refine two_ (i := 5) (j := 9) (Ni := some 34) (Nj := some 9) #[true, true, true, true, true, true, false, false, false, false, false, false] #[true, true, true, true, true, false, false, false, false, true, false, false] rfl rfl rfl rfl (two_of HT_.out (by kernel_rfl)) (by decide) (by decide) (fun K hK => ?_) (fun K hK => ?_)
          ·skip
           refine goes_ Tryz.func14 (by kernel_rfl) rfl #[.agg #[.int .i64 x427000_2, .int .i64 x427001_2, .slice Ao46 x427002_2.length co46], .agg #[.int .i64 ((rd_T38 l1 x8_2).f0), .string ((rd_T38 l1 x8_2).f1)]] (by rfl) rfl rfl sqA ?_
           with_reducible refine (spec_DeskDo.calls k2 x427000_2 x427001_2 _ _ x427002_2 ((rd_T38 l1 x8_2).f0) ((rd_T38 l1 x8_2).f1) t428 t429 t430 false _ ?side1 ?side2 A28.out).mono ?_
           (case side1 => exact Z39 HO_427002)
           (case side2 => exact Z40 HO_427002)
           rintro e w48 ⟨v431, rfl, ho0, hb⟩
           refine ⟨_, rfl, ?_⟩
           have HO432 := Aside0.mk (Kd.Q_lower (Kd.Q_new' ho0 (Kd.Q_lt (Z32 HO_427002))) (below_size (sqB3 HB GE418 GE419 GE426)))
           replace HO_427002 := Aside0.mk (Kd.Q_elder' (Z32 HO_427002) (Kd.Q_base ho0) hb)
           replace BK418 := sqT BK418 hb
           replace BK419 := sqT BK419 hb
           replace BK426 := sqT BK426 hb
           replace HB := sqS (sqB3 HB GE418 GE419 GE426) hb
           (try clear hb)
           (try clear hb2)
           (try clear hk)
           (try clear hi)
           (try clear ho0)
           refine hK.out _ _ ⟨(blk_cell BK426.out 0).trans rfl, (blk_cell BK426.out 1).trans rfl, (blk_cell BK426.out 2).trans rfl, ((HB.out.cell (World.block_lt_of_cell? w _ hw427_0)).trans hw427_0), ((HB.out.cell (World.block_lt_of_cell? w _ hw427_1)).trans hw427_1)⟩ (fun hHeld => ?_)
           clear hK K
           refine sqN (some 34) ?_
           refine sqP (i := 6) (N := some 28) (h := ?_)
           refine sqP (i := 7) (N := some 35) (h := ?_)
           refine sqP (i := 8) (N := some 36) (h := ?_)
           refine one_ (i := 9) (N := some 9) #[true, true, true, true, true, true, true, true, true, true, false, false] rfl rfl (one_of HT_.out (by kernel_rfl)) (by decide) (fun K hK => ?_)
           refine box_step ?hg (N := 9) ?hd (cs := #[.int .i64 0, .int .i64 0, .slice none 0 0]) (t := 34) ?hr ?_; (case hd => rfl); (case hg => rfl); (case hr => exact Z11)
           intro gb434 hg w49 hbox hb
           replace HO_427002 := Aside0.mk (Kd.Q_below (Z32 HO_427002) hb)
           replace HO432 := Aside0.mk (Kd.Q_below (Z32 HO432) hb)
           have BK434 := Aside0.mk (hbox)
           have GW434 := Aside0.mk ((sqG hg (sqB3 HB GE418 GE419 GE426)))
           have GE434 := Aside0.mk ((sqG hg (sqB3 HB GE418 GE419 GE426)))
           replace HB := sqS (sqB3 HB GE418 GE419 GE426) hb
           have NB418_434 := Aside0.mk ((Z12 BK418 : gb418 ≠ gb434))
           have NB434_418 := Aside0.mk ((Z13 BK418 : gb434 ≠ gb418))
           replace BK418 := sqT BK418 hb
           have NB419_434 := Aside0.mk ((Z12 BK419 : gb419 ≠ gb434))
           have NB434_419 := Aside0.mk ((Z13 BK419 : gb434 ≠ gb419))
           replace BK419 := sqT BK419 hb
           have NB426_434 := Aside0.mk ((Z12 BK426 : gb426 ≠ gb434))
           have NB434_426 := Aside0.mk ((Z13 BK426 : gb434 ≠ gb426))
           replace BK426 := sqT BK426 hb
           clear hb hbox hg
           refine hK.out _ _ ⟨(blk_cell BK426.out 0).trans rfl, (blk_cell BK426.out 1).trans rfl, (blk_cell BK426.out 2).trans rfl, ((HB.out.cell (World.block_lt_of_cell? w _ hw427_0)).trans hw427_0), ((HB.out.cell (World.block_lt_of_cell? w _ hw427_1)).trans hw427_1)⟩ (fun hHeld => ?_)
           clear hK K
           refine sqN (some 9) ?_
           exact norm_ Z14 (hCont (v431, gb434) _ ⟨hHeld, (Z41 HO432), (Z41 HO_427002), (sqK BK418), (sqK BK419), (sqK BK426), (sqK BK434), GW434.out, GE434.out, NB418_434.out, NB434_418.out, NB419_434.out, NB434_419.out, NB426_434.out, NB434_426.out, (sqB4 HB GE418 GE419 GE426 GE434)⟩)
          ·skip
           refine box_step ?hg (N := 9) ?hd (cs := #[.int .i64 0, .int .i64 0, .slice none 0 0]) (t := 34) ?hr ?_; (case hd => rfl); (case hg => rfl); (case hr => exact Z11)
           intro gb434 hg w48 hbox hb
           replace HO_427002 := Aside0.mk (Kd.Q_below (Z32 HO_427002) hb)
           have BK434 := Aside0.mk (hbox)
           have GW434 := Aside0.mk ((sqG hg (sqB3 HB GE418 GE419 GE426)))
           have GE434 := Aside0.mk ((sqG hg (sqB3 HB GE418 GE419 GE426)))
           replace HB := sqS (sqB3 HB GE418 GE419 GE426) hb
           have NB418_434 := Aside0.mk ((Z12 BK418 : gb418 ≠ gb434))
           have NB434_418 := Aside0.mk ((Z13 BK418 : gb434 ≠ gb418))
           replace BK418 := sqT BK418 hb
           have NB419_434 := Aside0.mk ((Z12 BK419 : gb419 ≠ gb434))
           have NB434_419 := Aside0.mk ((Z13 BK419 : gb434 ≠ gb419))
           replace BK419 := sqT BK419 hb
           have NB426_434 := Aside0.mk ((Z12 BK426 : gb426 ≠ gb434))
           have NB434_426 := Aside0.mk ((Z13 BK426 : gb434 ≠ gb426))
           replace BK426 := sqT BK426 hb
           clear hb hbox hg
           refine hK.out _ _ ⟨(blk_cell BK426.out 0).trans rfl, (blk_cell BK426.out 1).trans rfl, (blk_cell BK426.out 2).trans rfl, ((HB.out.cell (World.block_lt_of_cell? w _ hw427_0)).trans hw427_0), ((HB.out.cell (World.block_lt_of_cell? w _ hw427_1)).trans hw427_1)⟩ (fun hHeld => ?_)
           clear hK K
           refine sqN (some 9) ?_
           refine one_ (i := 5) (N := some 34) #[true, true, true, true, true, true, false, false, false, true, false, false] rfl rfl (one_of HT_.out (by kernel_rfl)) (by decide) (fun K hK => ?_)
           refine goes_ Tryz.func14 (by kernel_rfl) rfl #[.agg #[.int .i64 x427000_2, .int .i64 x427001_2, .slice Ao46 x427002_2.length co46], .agg #[.int .i64 ((rd_T38 l1 x8_2).f0), .string ((rd_T38 l1 x8_2).f1)]] (by rfl) rfl rfl sqA ?_
           with_reducible refine (spec_DeskDo.calls k2 x427000_2 x427001_2 _ _ x427002_2 ((rd_T38 l1 x8_2).f0) ((rd_T38 l1 x8_2).f1) t428 t429 t430 false _ ?side1 ?side2 A28.out).mono ?_
           (case side1 => exact Z39 HO_427002)
           (case side2 => exact Z40 HO_427002)
           rintro e w49 ⟨v431, rfl, ho0, hb⟩
           refine ⟨_, rfl, ?_⟩
           have HO432 := Aside0.mk (Kd.Q_lower (Kd.Q_new' ho0 (Kd.Q_lt (Z32 HO_427002))) (below_size (sqB4 HB GE418 GE419 GE426 GE434)))
           replace HO_427002 := Aside0.mk (Kd.Q_elder' (Z32 HO_427002) (Kd.Q_base ho0) hb)
           replace BK418 := sqT BK418 hb
           replace BK419 := sqT BK419 hb
           replace BK426 := sqT BK426 hb
           replace BK434 := sqT BK434 hb
           replace HB := sqS (sqB4 HB GE418 GE419 GE426 GE434) hb
           (try clear hb)
           (try clear hb2)
           (try clear hk)
           (try clear hi)
           (try clear ho0)
           refine hK.out _ _ ⟨(blk_cell BK426.out 0).trans rfl, (blk_cell BK426.out 1).trans rfl, (blk_cell BK426.out 2).trans rfl, ((HB.out.cell (World.block_lt_of_cell? w _ hw427_0)).trans hw427_0), ((HB.out.cell (World.block_lt_of_cell? w _ hw427_1)).trans hw427_1)⟩ (fun hHeld => ?_)
           clear hK K
           refine sqN (some 34) ?_
           refine sqP (i := 6) (N := some 28) (h := ?_)
           refine sqP (i := 7) (N := some 35) (h := ?_)
           refine sqP (i := 8) (N := some 36) (h := ?_)
           exact norm_ Z14 (hCont (v431, gb434) _ ⟨hHeld, (Z41 HO432), (Z41 HO_427002), (sqK BK418), (sqK BK419), (sqK BK426), (sqK BK434), GW434.out, GE434.out, NB418_434.out, NB434_418.out, NB419_434.out, NB434_419.out, NB426_434.out, NB434_426.out, (sqB4 HB GE418 GE419 GE426 GE434)⟩)
         rintro ⟨v431, gb434⟩ w50 ⟨hS_, h0_, h1_, h2_, h3_, h4_, h5_, h6_, h7_, h8_, h9_, h10_, h11_, h12_, h13_, h14_⟩
         have n0_ : Aside0 (Kd.Q k31 31 w50 w.heap.size (fun k_ => some k_ ≠ (.slice Ao46 x427002_2.length co46 : Value).ownBlock) v431 t430) := ⟨h0_⟩
         have n1_ : Aside0 (Kd.Q k31 31 w50 w.heap.size (fun k_ => some k_ ≠ (v431 : Value).ownBlock) (.slice Ao46 x427002_2.length co46) x427002_2) := ⟨h1_⟩
         have n2_ : Aside0 (w50.heap[gb418]? = some (.cells #[.int .i64 a0_0, .int .i64 a0_1, .slice A0_2 l0_2.length c0_2] 34 (0, 0))) := ⟨h2_⟩
         have n3_ : Aside0 (w50.heap[gb419]? = some (.cells #[.int .i64 0, .int .i64 0, .slice none 0 0] 34 (0, 0))) := ⟨h3_⟩
         have n4_ : Aside0 (w50.heap[gb426]? = some (.cells #[.int .i64 x427000_2, .int .i64 x427001_2, .slice Ao46 x427002_2.length co46] 34 (0, 0))) := ⟨h4_⟩
         have n5_ : Aside0 (w50.heap[gb434]? = some (.cells #[.int .i64 0, .int .i64 0, .slice none 0 0] 34 (0, 0))) := ⟨h5_⟩
         have n6_ : Aside0 (w.heap.size ≤ gb434) := ⟨h6_⟩
         have n7_ : Aside0 (w.heap.size ≤ gb434) := ⟨h7_⟩
         have n8_ : Aside0 (gb418 ≠ gb434) := ⟨h8_⟩
         have n9_ : Aside0 (gb434 ≠ gb418) := ⟨h9_⟩
         have n10_ : Aside0 (gb419 ≠ gb434) := ⟨h10_⟩
         have n11_ : Aside0 (gb434 ≠ gb419) := ⟨h11_⟩
         have n12_ : Aside0 (gb426 ≠ gb434) := ⟨h12_⟩
         have n13_ : Aside0 (gb434 ≠ gb426) := ⟨h13_⟩
         have n14_ : Aside0 (Below w.heap.size w w50) := ⟨h14_⟩
         clear HO_427002
         clear BK418
         clear BK419
         clear BK426
         clear HB
         clear h0_ h1_ h2_ h3_ h4_ h5_ h6_ h7_ h8_ h9_ h10_ h11_ h12_ h13_ h14_
         have HO432 := n0_
         have HO_427002 := n1_
         have BK418 := n2_
         have BK419 := n3_
         have BK426 := n4_
         have BK434 := n5_
         have GW434 := n6_
         have GE434 := n7_
         have NB418_434 := n8_
         have NB434_418 := n9_
         have NB419_434 := n10_
         have NB434_419 := n11_
         have NB426_434 := n12_
         have NB434_426 := n13_
         have HB := n14_
         clear n0_ n1_ n2_ n3_ n4_ n5_ n6_ n7_ n8_ n9_ n10_ n11_ n12_ n13_ n14_
         have hHeld : w50.cell? ⟨gb426, 0, none⟩ = some (.int .i64 x427000_2) ∧ w50.cell? ⟨gb426, 1, none⟩ = some (.int .i64 x427001_2) ∧ w50.cell? ⟨gb426, 2, none⟩ = some (.slice Ao46 x427002_2.length co46) ∧ w50.cell? (ad427.add ((x8_2).toNat * 2)) = some (.int .i64 ((rd_T38 l1 x8_2).f0)) ∧ w50.cell? ⟨(ad427.add ((x8_2).toNat * 2)).block, (ad427.add ((x8_2).toNat * 2)).off + 1, none⟩ = some (.string ((rd_T38 l1 x8_2).f1)) := hS_
         obtain ⟨Ao53, co53, eo53, _⟩ := Kd.Q_slice HO432.out
         (first | subst eo53 | (injection eo53 with f1_ f2_ f3_; have f4_ := f1_.symm; have f5_ := f3_.symm; clear f1_ f2_ f3_; subst f4_; subst f5_))
         refine norm_ (a' := ?_) ?_ ?_
         rotate_left
         ·simp only [putAll, Act.put, List.setIfInBounds_toArray, List.set_cons_zero, List.set_cons_succ]
          rfl
         refine one_ (i := 10) (N := none) #[true, true, true, true, true, true, true, true, true, true, true, false] rfl rfl (one_of HT_.out (by kernel_rfl)) (by decide) (fun K hK => ?_)
         have hs51 : w50.cell? ⟨gb434, 0, none⟩ = some (.int .i64 0) := (blk_cell BK434.out 0).trans rfl
         have hfs51 := blk_frozen BK434.out 0
         have hns51_0 := NB418_434.out
         have hns51_1 := NB419_434.out
         have hns51_2 := NB426_434.out
         have hms51_0 := NB434_418.out
         have hms51_1 := NB434_419.out
         have hms51_2 := NB434_426.out
         have hs52 : w50.cell? ⟨gb434, 1, none⟩ = some (.int .i64 0) := (blk_cell BK434.out 1).trans rfl
         have hfs52 := blk_frozen BK434.out 1
         have hns52_0 := NB418_434.out
         have hns52_1 := NB419_434.out
         have hns52_2 := NB426_434.out
         have hms52_0 := NB434_418.out
         have hms52_1 := NB434_419.out
         have hms52_2 := NB434_426.out
         have hs54 : w50.cell? ⟨gb434, 2, none⟩ = some (.slice none 0 0) := (blk_cell BK434.out 2).trans rfl
         have hfs54 := blk_frozen BK434.out 2
         have hns54_0 := NB418_434.out
         have hns54_1 := NB419_434.out
         have hns54_2 := NB426_434.out
         have hms54_0 := NB434_418.out
         have hms54_1 := NB434_419.out
         have hms54_2 := NB434_426.out
         refine skip_ (w1 := ?_) (by rfl) rfl ?_ ?_
         rotate_left
         ·go_simp
          rfl
         refine hK.out _ _ ⟨((cell_far (p := ⟨gb434, _, none⟩) NB426_434.out _).trans (((cell_far (p := ⟨gb434, _, none⟩) NB426_434.out _).trans (((cell_far (p := ⟨gb434, _, none⟩) NB426_434.out _).trans (hHeld.1)))))), ((cell_far (p := ⟨gb434, _, none⟩) NB426_434.out _).trans (((cell_far (p := ⟨gb434, _, none⟩) NB426_434.out _).trans (((cell_far (p := ⟨gb434, _, none⟩) NB426_434.out _).trans (hHeld.2.1)))))), ((cell_far (p := ⟨gb434, _, none⟩) NB426_434.out _).trans (((cell_far (p := ⟨gb434, _, none⟩) NB426_434.out _).trans (((cell_far (p := ⟨gb434, _, none⟩) NB426_434.out _).trans (hHeld.2.2.1)))))), ((cell_far (p := ⟨gb434, _, none⟩) (Z89 GW434) _).trans (((cell_far (p := ⟨gb434, _, none⟩) (Z89 GW434) _).trans (((cell_far (p := ⟨gb434, _, none⟩) (Z89 GW434) _).trans (hHeld.2.2.2.1)))))), ((cell_far (p := ⟨gb434, _, none⟩) (Z90 GW434) _).trans (((cell_far (p := ⟨gb434, _, none⟩) (Z90 GW434) _).trans (((cell_far (p := ⟨gb434, _, none⟩) (Z90 GW434) _).trans (hHeld.2.2.2.2))))))⟩ (fun hHeld => ?_)
         clear hK K
         refine sqP (i := 11) (N := some 10) (h := ?_)
         refine done_ (done_of HT_.out (by kernel_rfl)) ?_
         try go_wp2
         go_roundg k2
         case measure => have := HJ2.out; have := HK2.out; omega
         case rel => exact ⟨(x7_2), (wrap64 (x8_2 + 1)), (x427000_2), (x427001_2), (x427002_2), (.slice Ao46 x427002_2.length co46), Z2, Z2, H', ⟨Z15 HK2⟩, ⟨by (with_reducible repeat (first | apply Kd.Q_alloc | apply Kd.Q_drewN | apply Kd.Q_drew)); exact Kd.Q_mono (Kd.Q_far (p := ⟨gb434, 2, none⟩) (Kd.Q_far (p := ⟨gb434, 1, none⟩) (Kd.Q_far (p := ⟨gb434, 0, none⟩) (Kd.Q_types HO_427002.out BK434.out (by decide)) (fun _ hk => hk.2) (.int .i64 t428)) (fun _ hk => hk.2) (.int .i64 t429)) (fun _ hk => hk.2) (.slice Ao53 t430.length co53)) (fun _ hk => trivial)⟩, ⟨Z30 NB418_434 BK418⟩, ⟨Z30 NB419_434 BK419⟩, ⟨Z30 NB426_434 BK426⟩, ⟨sqB4 HB GE418 GE419 GE426 GE434⟩⟩
       ·rw [if_neg c27] at H
        exact absurd H (by simp)
      ·rw [if_neg c26] at H
       have c26b0 : decide (x8_2 < (l1.length : Int)) = false := decide_eq_false c26
       clear c26
       simp only [Option.some.injEq, Prod.mk.injEq] at H
       obtain ⟨rfl, rfl, rfl, rfl⟩ := H
       have hnb55 := NB426_418.out
       have hnc55 := NB418_426.out
       have hnb56 := NB426_419.out
       have hnc56 := NB419_426.out
       obtain ⟨hcz57_0, hcz57_1, hcz57_2, hfz57_0, hfz57_1, hfz57_2⟩ := sqY3 BK426
       have hnb58 := NB419_418.out
       have hnc58 := NB418_419.out
       obtain ⟨hcz59_0, hcz59_1, hcz59_2, hfz59_0, hfz59_1, hfz59_2⟩ := sqY3 BK419
       obtain ⟨Ao60, co60, eo60, _⟩ := Kd.Q_slice HO_427002.out
       subst eo60
       go_wp2
       refine bodyPost_ret (results_ct rfl _ _ gb419 34 #[.int .i64 x427000_2, .int .i64 x427001_2, .slice Ao60 x427002_2.length co60] (0, 0) _ rfl (by refine sqPut (cs := #[.int .i64 x427000_2, .int .i64 x427001_2, .slice none 0 0]) ?_ 2; refine sqPut (cs := #[.int .i64 x427000_2, .int .i64 0, .slice none 0 0]) ?_ 1; refine sqPut (cs := #[.int .i64 0, .int .i64 0, .slice none 0 0]) ?_ 0; exact sqK BK419) Tryz.underlying34 rfl (by kernel_rfl)) rfl ?_
       exact ⟨_, Z4, by (with_reducible repeat (first | apply Kd.Q_alloc | apply Kd.Q_drewN | apply Kd.Q_drew)); exact Kd.Q_mono (Kd.Q_far (p := ⟨gb419, 2, none⟩) (Kd.Q_far (p := ⟨gb419, 1, none⟩) (Kd.Q_far (p := ⟨gb419, 0, none⟩) (Kd.Q_types HO_427002.out BK419.out (by decide)) (fun _ hk => hk.2) (.int .i64 x427000_2)) (fun _ hk => hk.2) (.int .i64 x427001_2)) (fun _ hk => hk.2) (.slice Ao60 x427002_2.length co60)) (fun _ hk => trivial), sqB3 HB GE418 GE419 GE426⟩

end Go.Proofs.YtofmlbgfcohhoaaGreatDoor.PFnExactDeskRun
