/- Lean functions of the Go functions that the law FnDeskRun reaches, each with its contract: made by a program of this session. -/
import Derived.Test.YtofmlbgfcohhoaaGreatDoorPFnDeskRunx0
import Derived.Test.YtofmlbgfcohhoaaGreatDoorPFnDeskRunx3
import Derived.Test.YtofmlbgfcohhoaaGreatDoorPFnDeskRunx15
import Derived.Test.YtofmlbgfcohhoaaGreatDoorPFnDeskRunx18
namespace Go.Proofs.YtofmlbgfcohhoaaGreatDoor.PFnDeskRun
open Go.RowKit Go.Proofs.YtofmlbgfcohhoaaGreatDoorW.PrintWords Go.Proofs.YtofmlbgfcohhoaaGreatDoorW.PrintLast Go.Proofs.YtofmlbgfcohhoaaGreatDoorW.PrintMore Go.Proofs.YtofmlbgfcohhoaaGreatDoor.Lib
attribute [local go_sem] max2_int min2_int max_two min_two max_three min_three max_four min_four   -- for this text's walks alone
set_option linter.unusedVariables false
set_option linter.unusedSimpArgs false

/-! ### impl_DeskRun: function 28 -/
mutual
def impl_DeskRun.j0 : Nat → List (S38) → Bool → Int → Int → List (S31) → Option (Int × Int × (List (S31)) × Int)
 | 0, _, _, _, _, _ => none
 | k + 1, x1, x18, x521000, x521001, x521002 => if x18 = true then (some (0, 0, ([] : List (S31)), 0)) else ((impl_copyDesk.f x521000 x521001 x521002).bind fun bt523 => (impl_DeskRun.l0 k 0 x1 (x1.length : Int) 0 bt523.1 bt523.2.1 bt523.2.2))
def impl_DeskRun.l0 : Nat → Int → List (S38) → Int → Int → Int → Int → List (S31) → Option (Int × Int × (List (S31)) × Int)
 | 0, _, _, _, _, _, _, _ => none
 | k + 1, x6, x22, x23, x24, x521000, x521001, x521002 => if x24 < x23 then (if 0 ≤ x24 then (if x24 < (x22.length : Int) then ((impl_deskDo.f k x521000 x521001 x521002 ((rd_T38 x22 x24).f0) ((rd_T38 x22 x24).f1)).bind fun bt530 => (if bt530.2.2.2 = true then (impl_DeskRun.l0 k (wrap64 (x6 + 1)) x22 x23 (wrap64 (x24 + 1)) bt530.1 bt530.2.1 bt530.2.2.1) else (impl_DeskRun.l0 k x6 x22 x23 (wrap64 (x24 + 1)) x521000 x521001 x521002))) else (none)) else (none)) else (some (x521000, x521001, x521002, x6))
end
def impl_DeskRun.f (k : Nat) (a0_0 : Int) (a0_1 : Int) (l0_2 : List (S31)) (l1 : List (S38)) : Option (Int × Int × (List (S31)) × Int) := (impl_isDesk.f k a0_0 a0_1 l0_2).bind fun t522 => (if t522 = true then (impl_DeskRun.j0 k l1 (decide ((l1.length : Int) > 40)) a0_0 a0_1 l0_2) else (impl_DeskRun.j0 k l1 true a0_0 a0_1 l0_2))
theorem impl_DeskRun.mono_l : ∀ k, (∀ y0 y1 y2 y3 y4, LeO (impl_DeskRun.j0 k y0 y1 y2 y3 y4) (impl_DeskRun.j0 (k + 1) y0 y1 y2 y3 y4)) ∧ (∀ y0 y1 y2 y3 y4 y5 y6, LeO (impl_DeskRun.l0 k y0 y1 y2 y3 y4 y5 y6) (impl_DeskRun.l0 (k + 1) y0 y1 y2 y3 y4 y5 y6))
 | 0 => ⟨fun _ _ _ _ _ r h => by simp [impl_DeskRun.j0] at h, fun _ _ _ _ _ _ _ r h => by simp [impl_DeskRun.l0] at h⟩
 | k + 1 => by
  obtain ⟨ih0, ih1⟩ := impl_DeskRun.mono_l k
  refine ⟨?_, ?_⟩
  ·intro y0 y1 y2 y3 y4
   unfold impl_DeskRun.j0
   repeat' first
   | (with_reducible exact ih0 _ _ _ _ _)
   | (with_reducible exact ih1 _ _ _ _ _ _ _)
   | (with_reducible exact impl_deskDo.mono _ _ _ _ _ _)
   | (with_reducible exact impl_isDesk.mono _ _ _ _)
   | (with_reducible exact LeO.refl _)
   | (with_reducible exact LeO.none _)
   | (with_reducible refine LeO.ite ?_ ?_)
   | (with_reducible refine LeO.bind ?_ (fun _ => ?_))
  ·intro y0 y1 y2 y3 y4 y5 y6
   unfold impl_DeskRun.l0
   repeat' first
   | (with_reducible exact ih0 _ _ _ _ _)
   | (with_reducible exact ih1 _ _ _ _ _ _ _)
   | (with_reducible exact impl_deskDo.mono _ _ _ _ _ _)
   | (with_reducible exact impl_isDesk.mono _ _ _ _)
   | (with_reducible exact LeO.refl _)
   | (with_reducible exact LeO.none _)
   | (with_reducible refine LeO.ite ?_ ?_)
   | (with_reducible refine LeO.bind ?_ (fun _ => ?_))
theorem impl_DeskRun.mono : ∀ a0 a1 a2 a3 k, LeO (impl_DeskRun.f k a0 a1 a2 a3) (impl_DeskRun.f (k + 1) a0 a1 a2 a3) := by
 intro a0 a1 a2 a3 k
 obtain ⟨ih0, ih1⟩ := impl_DeskRun.mono_l k
 unfold impl_DeskRun.f
 repeat' first
   | (with_reducible exact ih0 _ _ _ _ _)
   | (with_reducible exact ih1 _ _ _ _ _ _ _)
   | (with_reducible exact impl_deskDo.mono _ _ _ _ _ _)
   | (with_reducible exact impl_isDesk.mono _ _ _ _)
   | (with_reducible exact LeO.refl _)
   | (with_reducible exact LeO.none _)
   | (with_reducible refine LeO.ite ?_ ?_)
   | (with_reducible refine LeO.bind ?_ (fun _ => ?_))
set_option maxHeartbeats 8000000 in
set_option maxRecDepth 100000 in
theorem impl_DeskRun.calls (k : Nat) (a0_0 : Int) (a0_1 : Int) (A0_2 : Option Addr) (c0_2 : Nat) (l0_2 : List (S31)) (A1 : Option Addr) (c1 : Nat) (l1 : List (S38)) (r1 : Int) (r2 : Int) (r3 : List (S31)) (r4 : Int) (w : World) (hG : Glob w) (hr0_2 : Kd.C k31 w A0_2 l0_2.length l0_2) (hc0_2 : l0_2.length ≤ c0_2) (hr1 : Kd.C k38 w A1 l1.length l1) (hc1 : l1.length ≤ c1) (h : impl_DeskRun.f k a0_0 a0_1 l0_2 l1 = some (r1, r2, r3, r4)) :
  Calls Tryz.prog 28 #[.agg #[.int .i64 a0_0, .int .i64 a0_1, .slice A0_2 l0_2.length c0_2], .slice A1 l1.length c1] w fun e w' => ∃ v2_ : Value, e = .returned (.tuple #[.agg #[.int .i64 r1, .int .i64 r2, v2_], .int .i64 r4]) ∧ Kd.R k31 31 w' w.heap.size (fun _ => True) v2_ r3 ∧ Below w.heap.size w w' := by
 have hu34 := Tryz.underlying34
 have hu38 := Tryz.underlying38
 have HR0_2 := Aside0.mk hr0_2
 have HC0_2 := Aside0.mk hc0_2
 clear hr0_2 hc0_2
 have HR1 := Aside0.mk hr1
 have HC1 := Aside0.mk hc1
 clear hr1 hc1
 have HB := Aside0.mk (Below.refl w.heap.size w)
 have H : ((impl_isDesk.f k a0_0 a0_1 l0_2).bind fun t522 => (if t522 = true then (impl_DeskRun.j0 k l1 (decide ((l1.length : Int) > 40)) a0_0 a0_1 l0_2) else (impl_DeskRun.j0 k l1 true a0_0 a0_1 l0_2))) = some (r1, r2, r3, r4) := h
 clear h
 have HC3 := Aside0.mk H
 clear H
 go_enter Tryz.func28, Tryz.ntmps28
 go_upto_region 1 with (first | ((with_reducible refine gate_dst (N := 2) rfl ?_); (try (refine gate_guard (by rfl) ?_; dsimp only)); refine sqBox (N := 2) (cs := #[.int .i64 a0_0, .int .i64 a0_1, .slice A0_2 l0_2.length c0_2]) (t := 34) ?_; intro gb520 hg w4 BK520 hb; have GW520 := Aside0.mk ((sqG hg (sqB HB))); have GE520 := GW520; replace HB := sqS (sqB HB) hb; clear hb hg) | ((with_reducible refine gate_dst (N := 4) rfl ?_); (try (refine gate_guard (by rfl) ?_; dsimp only)); refine sqBox (N := 4) (cs := #[.int .i64 0, .int .i64 0, .slice none 0 0]) (t := 34) ?_; intro gb521 hg w5 BK521 hb; have GW521 := Aside0.mk ((sqG hg (sqB1 HB GE520))); have GE521 := GW521; replace HB := sqS (sqB1 HB GE520) hb; obtain ⟨NB520_521, NB521_520⟩ := sqM hg BK520; replace BK520 := sqT BK520 hb; clear hb hg))
 (try simp only [Act.put, List.setIfInBounds_toArray, List.set_cons_zero, List.set_cons_succ])
 go_cut [18] (fun v18 wc => ∃ (kq : Nat) (x18_2 : Bool), v18 = .bool x18_2 ∧ Aside0 (impl_DeskRun.j0 kq l1 x18_2 a0_0 a0_1 l0_2 = some (r1, r2, r3, r4)) ∧ Aside0 (kq ≤ k) ∧ Aside0 (wc.heap[gb520]? = some (.cells #[.int .i64 a0_0, .int .i64 a0_1, (.slice A0_2 l0_2.length c0_2)] 34 (0, 0))) ∧ Aside0 (wc.heap[gb521]? = some (.cells #[.int .i64 0, .int .i64 0, (.slice none 0 0)] 34 (0, 0))) ∧ Aside0 (Below w.heap.size w wc))
 case first =>
  have H := HC3.out
  clear HC3
  obtain ⟨t522, A6, H⟩ := sqD H
  by_cases c7 : t522 = true
  ·subst c7
   rw [if_pos rfl] at H
   have H' := Aside0.mk H
   clear H
   have hnb8 := NB520_521.out
   have hnc8 := NB521_520.out
   obtain ⟨hcz9_0, hcz9_1, hcz9_2, hfz9_0, hfz9_1, hfz9_2⟩ := sqY3 BK520
   go_wp2_with (first | ((with_reducible refine gate_callee (f := 60) rfl ?_); refine goesL_ (some 12) rfl rfl Tryz.func60 (by kernel_rfl) rfl #[.agg #[.int .i64 a0_0, .int .i64 a0_1, .slice A0_2 l0_2.length c0_2]] rfl sqA ?_; (with_reducible refine (impl_isDesk.calls k a0_0 a0_1 _ _ l0_2 true _ ?side1 ?side2 A6.out).mono ?_); (case side1 => exact Z1); (case side2 => exact HC0_2.out); rintro e w10 ⟨rfl, hb⟩; refine ⟨_, rfl, ?_⟩; replace BK520 := sqT BK520 hb; replace BK521 := sqT BK521 hb; replace HB := sqS (sqB2 HB GE520 GE521) hb; (try clear hb)))
   go_meet
   case rel => exact ⟨_, (decide ((l1.length : Int) > 40)), Z2, H', ⟨Z3⟩, ⟨sqK BK520⟩, ⟨sqK BK521⟩, ⟨sqB2 HB GE520 GE521⟩⟩
  ·replace c7 := Bool.eq_false_iff.mpr c7
   subst c7
   rw [if_neg sqF] at H
   have H' := Aside0.mk H
   clear H
   have hnb11 := NB520_521.out
   have hnc11 := NB521_520.out
   obtain ⟨hcz12_0, hcz12_1, hcz12_2, hfz12_0, hfz12_1, hfz12_2⟩ := sqY3 BK520
   go_wp2_with (first | ((with_reducible refine gate_callee (f := 60) rfl ?_); refine goesL_ (some 12) rfl rfl Tryz.func60 (by kernel_rfl) rfl #[.agg #[.int .i64 a0_0, .int .i64 a0_1, .slice A0_2 l0_2.length c0_2]] rfl sqA ?_; (with_reducible refine (impl_isDesk.calls k a0_0 a0_1 _ _ l0_2 false _ ?side1 ?side2 A6.out).mono ?_); (case side1 => exact Z1); (case side2 => exact HC0_2.out); rintro e w13 ⟨rfl, hb⟩; refine ⟨_, rfl, ?_⟩; replace BK520 := sqT BK520 hb; replace BK521 := sqT BK521 hb; replace HB := sqS (sqB2 HB GE520 GE521) hb; (try clear hb)))
   go_meet
   case rel => exact ⟨_, (true), Z2, H', ⟨Z3⟩, ⟨sqK BK520⟩, ⟨sqK BK521⟩, ⟨sqB2 HB GE520 GE521⟩⟩
 case rest =>
  clear HC3
  try clear c1; try clear c2; try clear p2; try clear c6; try clear c7; try clear c8; try clear c11; try clear hcz12_0; try clear hcz12_1; try clear hcz12_2; try clear hcz9_0; try clear hcz9_1; try clear hcz9_2; try clear hfz12_0; try clear hfz12_1; try clear hfz12_2; try clear hfz9_0; try clear hfz9_1; try clear hfz9_2
  obtain ⟨kq, x18_2, rfl, HA, HJ2, BK520, BK521, HB⟩ := hcut
  cases kq with
  | zero => exact absurd HA.out (by simp [impl_DeskRun.j0])
  | succ kj2 =>
   have H := HA.out
   clear HA
   simp only [impl_DeskRun.j0] at H
   by_cases c14 : x18_2 = true
   ·subst c14
    rw [if_pos rfl] at H
    simp only [Option.some.injEq, Prod.mk.injEq] at H
    obtain ⟨rfl, rfl, rfl, rfl⟩ := H
    have hnb15 := NB521_520.out
    have hnc15 := NB520_521.out
    obtain ⟨hcz16_0, hcz16_1, hcz16_2, hfz16_0, hfz16_1, hfz16_2⟩ := sqY3 BK521
    go_wp2
    refine bodyPost_ret (results_ct rfl _ _ gb521 34 #[.int .i64 0, .int .i64 0, .slice none 0 0] (0, 0) _ rfl (Z19 BK521) Tryz.underlying34 rfl (by kernel_rfl)) rfl ?_
    exact ⟨_, Z15, Z20, sqB2 HB GE520 GE521⟩
   ·replace c14 := Bool.eq_false_iff.mpr c14
    subst c14
    rw [if_neg sqF] at H
    obtain ⟨⟨t523, t524, t525⟩, A17, H⟩ := sqD H
    try dsimp only at H
    have H' := Aside0.mk H
    clear H
    have hnb18 := NB520_521.out
    have hnc18 := NB521_520.out
    obtain ⟨hcz19_0, hcz19_1, hcz19_2, hfz19_0, hfz19_1, hfz19_2⟩ := sqY3 BK520
    go_wp2_with (first | ((with_reducible refine gate_callee (f := 76) rfl ?_); refine goesL_ (some 21) rfl rfl Tryz.func76 (by kernel_rfl) rfl #[.agg #[.int .i64 a0_0, .int .i64 a0_1, .slice A0_2 l0_2.length c0_2]] rfl sqA ?_; (with_reducible refine (impl_copyDesk.calls a0_0 a0_1 _ _ l0_2 t523 t524 t525 _ ?side1 ?side2 A17.out).mono ?_); (case side1 => exact Z1); (case side2 => exact HC0_2.out); rintro e w20 ⟨v526, rfl, ho0, hb⟩; refine ⟨_, rfl, ?_⟩; have HO527 := sqL ho0 (sqB2 HB GE520 GE521); replace BK520 := sqT BK520 hb; replace BK521 := sqT BK521 hb; replace HB := sqS (sqB2 HB GE520 GE521) hb; (try clear hb); (try clear ho0); obtain ⟨hcz21_0, hcz21_1, hcz21_2, hfz21_0, hfz21_1, hfz21_2⟩ := sqY3 BK520; obtain ⟨Ao22, co22, eo22⟩ := Kd.R_slice HO527.out; subst eo22))
    go_loopg [6, 24] kj2 (fun kq v6 v24 w' => ∃ (x6_2 : Int) (x24_2 : Int) (x521000_2 : Int) (x521001_2 : Int) (x521002_2 : List (S31)) (u521002 : Value), v6 = .int .i64 x6_2 ∧ v24 = .int .i64 x24_2 ∧ Aside0 (impl_DeskRun.l0 kq x6_2 l1 (l1.length : Int) x24_2 x521000_2 x521001_2 x521002_2 = some (r1, r2, r3, r4)) ∧ Aside0 (kq ≤ kj2) ∧ Aside0 (Kd.R k31 31 w' w.heap.size (fun _ => True) u521002 x521002_2) ∧ Aside0 (w'.heap[gb520]? = some (.cells #[.int .i64 x521000_2, .int .i64 x521001_2, u521002] 34 (0, 0))) ∧ Aside0 (w'.heap[gb521]? = some (.cells #[.int .i64 0, .int .i64 0, (.slice none 0 0)] 34 (0, 0))) ∧ Aside0 (Below w.heap.size w w'))
    case atStart => exact ⟨(0), (0), (t523), (t524), (t525), (.slice Ao22 t525.length co22), Z2, Z2, H', ⟨Nat.le_refl _⟩, ⟨by (with_reducible repeat (first | apply Kd.R_alloc | apply Kd.R_drewN | apply Kd.R_drew)); exact Kd.R_mono (Kd.R_far (p := ⟨gb520, 2, none⟩) (Kd.R_far (p := ⟨gb520, 1, none⟩) (Kd.R_far (p := ⟨gb520, 0, none⟩) (Kd.R_types HO527.out BK520.out (by decide)) (fun _ hk => hk.2) (.int .i64 t523)) (fun _ hk => hk.2) (.int .i64 t524)) (fun _ hk => hk.2) (.slice Ao22 t525.length co22)) (fun _ hk => trivial)⟩, ⟨by refine sqPut (cs := #[.int .i64 t523, .int .i64 t524, .slice A0_2 l0_2.length c0_2]) ?_ 2; refine sqPut (cs := #[.int .i64 t523, .int .i64 a0_1, .slice A0_2 l0_2.length c0_2]) ?_ 1; refine sqPut (cs := #[.int .i64 a0_0, .int .i64 a0_1, .slice A0_2 l0_2.length c0_2]) ?_ 0; exact sqK BK520⟩, ⟨Z5 NB521_520 BK521⟩, ⟨sqB2 HB GE520 GE521⟩⟩
    case round =>
     clear H'
     try clear c1; try clear c2; try clear p2; try clear c6; try clear c7; try clear c8; try clear c11; try clear c14; try clear c15; try clear c18; try clear hcz12_0; try clear hcz12_1; try clear hcz12_2; try clear hcz16_0; try clear hcz16_1; try clear hcz16_2; try clear hcz19_0; try clear hcz19_1; try clear hcz19_2; try clear hcz21_0; try clear hcz21_1; try clear hcz21_2; try clear hcz9_0; try clear hcz9_1; try clear hcz9_2; try clear hfz12_0; try clear hfz12_1; try clear hfz12_2; try clear hfz16_0; try clear hfz16_1; try clear hfz16_2; try clear hfz19_0; try clear hfz19_1; try clear hfz19_2; try clear hfz21_0; try clear hfz21_1; try clear hfz21_2; try clear hfz9_0; try clear hfz9_1; try clear hfz9_2; try clear p2
     obtain ⟨x6_2, x24_2, x521000_2, x521001_2, x521002_2, u521002, rfl, rfl, HA, HK2, HO_521002, BK520, BK521, HB⟩ := hrel
     cases gk with
     | zero => exact absurd HA.out (by simp [impl_DeskRun.l0])
     | succ k2 =>
      have H := HA.out
      clear HA
      simp only [impl_DeskRun.l0] at H
      by_cases c23 : x24_2 < (l1.length : Int)
      ·rw [if_pos c23] at H
       have c23b0 : decide (x24_2 < (l1.length : Int)) = true := decide_eq_true c23
       clear c23
       obtain ⟨c24, H⟩ := sqI H
       have c24b0 : decide (0 ≤ x24_2) = true := decide_eq_true c24
       clear c24
       obtain ⟨c25, H⟩ := sqI H
       have c25b0 : decide (x24_2 < (l1.length : Int)) = true := decide_eq_true c25
       clear c25
       obtain ⟨⟨t530, t531, t532, t535⟩, A26, H⟩ := sqD H
       try dsimp only at H
       by_cases c27 : t535 = true
       ·subst c27
        rw [if_pos rfl] at H
        have H' := Aside0.mk H
        clear H
        have p528 : 0 ≤ (x24_2 : Int) := of_decide_eq_true Z7
        have q528 : x24_2 < (l1.length : Int) := of_decide_eq_true Z7
        obtain ⟨ad528, e528, hx528_0, hx528_1⟩ := at_T38 HR1.out x24_2 p528 q528
        cases e528
        replace hx528_0 := (HB.out.cell (World.block_lt_of_cell? w _ hx528_0)).trans hx528_0
        replace hx528_1 := (HB.out.cell (World.block_lt_of_cell? w _ hx528_1)).trans hx528_1
        replace p528 := eq_true p528
        replace q528 := eq_true q528
        go_wp2_with (first | ((with_reducible refine gate_dst (N := 8) rfl ?_); (try (refine gate_guard (by rfl) ?_; dsimp only)); refine sqBox (N := 8) (cs := #[.int .i64 0, .string (⟨#[]⟩ : ByteArray)]) (t := 38) ?_; intro gb529 hg w28 BK529 hb; replace HO_521002 := sqU HO_521002 hb; have GW529 := Aside0.mk ((sqG hg (sqB2 HB GE520 GE521))); have GE529 := GW529; replace HB := sqS (sqB2 HB GE520 GE521) hb; obtain ⟨NB520_529, NB529_520⟩ := sqM hg BK520; replace BK520 := sqT BK520 hb; obtain ⟨NB521_529, NB529_521⟩ := sqM hg BK521; replace BK521 := sqT BK521 hb; clear hb hg; have hnb29 := NB529_520.out; have hnc29 := NB520_529.out; have hnb30 := NB529_521.out; have hnc30 := NB521_529.out; obtain ⟨hcz31_0, hcz31_1, hfz31_0, hfz31_1⟩ := sqY2 BK529; have hnb32 := NB520_521.out; have hnc32 := NB521_520.out; obtain ⟨hcz33_0, hcz33_1, hcz33_2, hfz33_0, hfz33_1, hfz33_2⟩ := sqY3 BK520; obtain ⟨Ao34, co34, eo34⟩ := Kd.R_slice HO_521002.out; subst eo34) | ((with_reducible refine gate_callee (f := 61) rfl ?_); refine goesL_ (some 31) rfl rfl Tryz.func61 (by kernel_rfl) rfl #[.agg #[.int .i64 x521000_2, .int .i64 x521001_2, .slice Ao34 x521002_2.length co34], .agg #[.int .i64 ((rd_T38 l1 x24_2).f0), .string ((rd_T38 l1 x24_2).f1)]] rfl sqA ?_; (with_reducible refine (impl_deskDo.calls k2 x521000_2 x521001_2 _ _ x521002_2 ((rd_T38 l1 x24_2).f0) ((rd_T38 l1 x24_2).f1) t530 t531 t532 true _ ?sideG ?side1 ?side2 A26.out).mono ?_); (case sideG => exact Glob.below hG (sqB3 HB GE520 GE521 GE529)); (case side1 => refine (Kd.R_reads' (e := 31) (base := w.heap.size) (ok := fun k_ => True) (n := x521002_2.length) (c := co34) ?_).2.2; exact (Z46 HO_521002 BK529)); (case side2 => exact Z45 HO_521002); rintro e w35 ⟨v533, rfl, ho0, hb⟩; refine ⟨_, rfl, ?_⟩; have HO534 := Aside0.mk (Kd.R_lower (Kd.R_new' ho0 (Kd.R_lt (Z46 HO_521002 BK529))) (below_size (sqB3 HB GE520 GE521 GE529))); replace HO_521002 := Aside0.mk (Kd.R_elder' (Z46 HO_521002 BK529) (Kd.R_base ho0) hb); replace BK520 := Aside0.mk (blk_below (g := gb520) (o := .cells #[.int .i64 x521000_2, .int .i64 x521001_2, .slice Ao34 x521002_2.length co34] 34 (0, 0)) (Z9 NB520_529 BK520) hb); replace BK521 := Aside0.mk (blk_below (g := gb521) (o := .cells #[.int .i64 0, .int .i64 0, .slice none 0 0] 34 (0, 0)) (Z9 NB521_529 BK521) hb); replace BK529 := Aside0.mk (blk_below (g := gb529) (o := .cells #[.int .i64 ((rd_T38 l1 x24_2).f0), .string ((rd_T38 l1 x24_2).f1)] 38 (0, 0)) (Z47 BK529) hb); replace HB := sqS (sqB3 HB GE520 GE521 GE529) hb; (try clear hb); (try clear ho0)) | ((with_reducible refine gate_dst (N := 9) rfl ?_); (try (refine gate_guard (by rfl) ?_; dsimp only)); refine sqBox (N := 9) (cs := #[.int .i64 0, .int .i64 0, .slice none 0 0]) (t := 34) ?_; intro gb536 hg w36 BK536 hb; replace HO_521002 := sqU HO_521002 hb; replace HO534 := sqU HO534 hb; have GW536 := Aside0.mk ((sqG hg (sqB3 HB GE520 GE521 GE529))); have GE536 := GW536; replace HB := sqS (sqB3 HB GE520 GE521 GE529) hb; obtain ⟨NB520_536, NB536_520⟩ := sqM hg BK520; replace BK520 := sqT BK520 hb; obtain ⟨NB521_536, NB536_521⟩ := sqM hg BK521; replace BK521 := sqT BK521 hb; obtain ⟨NB529_536, NB536_529⟩ := sqM hg BK529; replace BK529 := sqT BK529 hb; clear hb hg; have hnb37 := NB536_520.out; have hnc37 := NB520_536.out; have hnb38 := NB536_521.out; have hnc38 := NB521_536.out; have hnb39 := NB536_529.out; have hnc39 := NB529_536.out; obtain ⟨hcz40_0, hcz40_1, hcz40_2, hfz40_0, hfz40_1, hfz40_2⟩ := sqY3 BK536; obtain ⟨Ao41, co41, eo41⟩ := Kd.R_slice HO534.out; subst eo41; obtain ⟨hcz42_0, hcz42_1, hcz42_2, hfz42_0, hfz42_1, hfz42_2⟩ := sqY3 BK520))
        go_roundg k2
        case measure => have := HJ2.out; have := HK2.out; omega
        case rel => exact ⟨(wrap64 (x6_2 + 1)), (wrap64 (x24_2 + 1)), (t530), (t531), (t532), (.slice Ao41 t532.length co41), Z2, Z2, H', ⟨Z48 HK2⟩, ⟨by (with_reducible repeat (first | apply Kd.R_alloc | apply Kd.R_drewN | apply Kd.R_drew)); exact Kd.R_mono (Kd.R_far (p := ⟨gb520, 2, none⟩) (Kd.R_far (p := ⟨gb520, 1, none⟩) (Kd.R_far (p := ⟨gb520, 0, none⟩) (Kd.R_far (p := ⟨gb536, 2, none⟩) (Kd.R_far (p := ⟨gb536, 1, none⟩) (Kd.R_far (p := ⟨gb536, 0, none⟩) (Kd.R_types (Kd.R_types HO534.out BK536.out (by decide)) BK520.out (by decide)) (fun _ hk => hk.1.2) (.int .i64 t530)) (fun _ hk => hk.1.2) (.int .i64 t531)) (fun _ hk => hk.1.2) (.slice Ao41 t532.length co41)) (fun _ hk => hk.2) (.int .i64 t530)) (fun _ hk => hk.2) (.int .i64 t531)) (fun _ hk => hk.2) (.slice Ao41 t532.length co41)) (fun _ hk => trivial)⟩, ⟨by refine sqPut (cs := #[.int .i64 t530, .int .i64 t531, .slice Ao34 x521002_2.length co34]) ?_ 2; refine sqPut (cs := #[.int .i64 t530, .int .i64 x521001_2, .slice Ao34 x521002_2.length co34]) ?_ 1; refine sqPut (cs := #[.int .i64 x521000_2, .int .i64 x521001_2, .slice Ao34 x521002_2.length co34]) ?_ 0; refine sqFar ?_ NB520_536; refine sqFar ?_ NB520_536; refine sqFar ?_ NB520_536; exact sqK BK520⟩, ⟨Z49 NB521_520 NB521_536 BK521⟩, ⟨sqB4 HB GE520 GE521 GE529 GE536⟩⟩
       ·replace c27 := Bool.eq_false_iff.mpr c27
        subst c27
        rw [if_neg sqF] at H
        have H' := Aside0.mk H
        clear H
        have p528 : 0 ≤ (x24_2 : Int) := of_decide_eq_true Z7
        have q528 : x24_2 < (l1.length : Int) := of_decide_eq_true Z7
        obtain ⟨ad528, e528, hx528_0, hx528_1⟩ := at_T38 HR1.out x24_2 p528 q528
        cases e528
        replace hx528_0 := (HB.out.cell (World.block_lt_of_cell? w _ hx528_0)).trans hx528_0
        replace hx528_1 := (HB.out.cell (World.block_lt_of_cell? w _ hx528_1)).trans hx528_1
        replace p528 := eq_true p528
        replace q528 := eq_true q528
        go_wp2_with (first | ((with_reducible refine gate_dst (N := 8) rfl ?_); (try (refine gate_guard (by rfl) ?_; dsimp only)); refine sqBox (N := 8) (cs := #[.int .i64 0, .string (⟨#[]⟩ : ByteArray)]) (t := 38) ?_; intro gb529 hg w43 BK529 hb; replace HO_521002 := sqU HO_521002 hb; have GW529 := Aside0.mk ((sqG hg (sqB2 HB GE520 GE521))); have GE529 := GW529; replace HB := sqS (sqB2 HB GE520 GE521) hb; obtain ⟨NB520_529, NB529_520⟩ := sqM hg BK520; replace BK520 := sqT BK520 hb; obtain ⟨NB521_529, NB529_521⟩ := sqM hg BK521; replace BK521 := sqT BK521 hb; clear hb hg; have hnb44 := NB529_520.out; have hnc44 := NB520_529.out; have hnb45 := NB529_521.out; have hnc45 := NB521_529.out; obtain ⟨hcz46_0, hcz46_1, hfz46_0, hfz46_1⟩ := sqY2 BK529; have hnb47 := NB520_521.out; have hnc47 := NB521_520.out; obtain ⟨hcz48_0, hcz48_1, hcz48_2, hfz48_0, hfz48_1, hfz48_2⟩ := sqY3 BK520; obtain ⟨Ao49, co49, eo49⟩ := Kd.R_slice HO_521002.out; subst eo49) | ((with_reducible refine gate_callee (f := 61) rfl ?_); refine goesL_ (some 31) rfl rfl Tryz.func61 (by kernel_rfl) rfl #[.agg #[.int .i64 x521000_2, .int .i64 x521001_2, .slice Ao49 x521002_2.length co49], .agg #[.int .i64 ((rd_T38 l1 x24_2).f0), .string ((rd_T38 l1 x24_2).f1)]] rfl sqA ?_; (with_reducible refine (impl_deskDo.calls k2 x521000_2 x521001_2 _ _ x521002_2 ((rd_T38 l1 x24_2).f0) ((rd_T38 l1 x24_2).f1) t530 t531 t532 false _ ?sideG ?side1 ?side2 A26.out).mono ?_); (case sideG => exact Glob.below hG (sqB3 HB GE520 GE521 GE529)); (case side1 => refine (Kd.R_reads' (e := 31) (base := w.heap.size) (ok := fun k_ => True) (n := x521002_2.length) (c := co49) ?_).2.2; exact (Z46 HO_521002 BK529)); (case side2 => exact Z45 HO_521002); rintro e w50 ⟨v533, rfl, ho0, hb⟩; refine ⟨_, rfl, ?_⟩; have HO534 := Aside0.mk (Kd.R_lower (Kd.R_new' ho0 (Kd.R_lt (Z46 HO_521002 BK529))) (below_size (sqB3 HB GE520 GE521 GE529))); replace HO_521002 := Aside0.mk (Kd.R_elder' (Z46 HO_521002 BK529) (Kd.R_base ho0) hb); replace BK520 := Aside0.mk (blk_below (g := gb520) (o := .cells #[.int .i64 x521000_2, .int .i64 x521001_2, .slice Ao49 x521002_2.length co49] 34 (0, 0)) (Z9 NB520_529 BK520) hb); replace BK521 := Aside0.mk (blk_below (g := gb521) (o := .cells #[.int .i64 0, .int .i64 0, .slice none 0 0] 34 (0, 0)) (Z9 NB521_529 BK521) hb); replace BK529 := Aside0.mk (blk_below (g := gb529) (o := .cells #[.int .i64 ((rd_T38 l1 x24_2).f0), .string ((rd_T38 l1 x24_2).f1)] 38 (0, 0)) (Z47 BK529) hb); replace HB := sqS (sqB3 HB GE520 GE521 GE529) hb; (try clear hb); (try clear ho0)) | ((with_reducible refine gate_dst (N := 9) rfl ?_); (try (refine gate_guard (by rfl) ?_; dsimp only)); refine sqBox (N := 9) (cs := #[.int .i64 0, .int .i64 0, .slice none 0 0]) (t := 34) ?_; intro gb536 hg w51 BK536 hb; replace HO_521002 := sqU HO_521002 hb; replace HO534 := sqU HO534 hb; have GW536 := Aside0.mk ((sqG hg (sqB3 HB GE520 GE521 GE529))); have GE536 := GW536; replace HB := sqS (sqB3 HB GE520 GE521 GE529) hb; obtain ⟨NB520_536, NB536_520⟩ := sqM hg BK520; replace BK520 := sqT BK520 hb; obtain ⟨NB521_536, NB536_521⟩ := sqM hg BK521; replace BK521 := sqT BK521 hb; obtain ⟨NB529_536, NB536_529⟩ := sqM hg BK529; replace BK529 := sqT BK529 hb; clear hb hg; have hnb52 := NB536_520.out; have hnc52 := NB520_536.out; have hnb53 := NB536_521.out; have hnc53 := NB521_536.out; have hnb54 := NB536_529.out; have hnc54 := NB529_536.out; obtain ⟨hcz55_0, hcz55_1, hcz55_2, hfz55_0, hfz55_1, hfz55_2⟩ := sqY3 BK536; obtain ⟨Ao56, co56, eo56⟩ := Kd.R_slice HO534.out; subst eo56))
        go_roundg k2
        case measure => have := HJ2.out; have := HK2.out; omega
        case rel => exact ⟨(x6_2), (wrap64 (x24_2 + 1)), (x521000_2), (x521001_2), (x521002_2), (.slice Ao49 x521002_2.length co49), Z2, Z2, H', ⟨Z48 HK2⟩, ⟨by (with_reducible repeat (first | apply Kd.R_alloc | apply Kd.R_drewN | apply Kd.R_drew)); exact Kd.R_mono (Kd.R_far (p := ⟨gb536, 2, none⟩) (Kd.R_far (p := ⟨gb536, 1, none⟩) (Kd.R_far (p := ⟨gb536, 0, none⟩) (Kd.R_types HO_521002.out BK536.out (by decide)) (fun _ hk => hk.2) (.int .i64 t530)) (fun _ hk => hk.2) (.int .i64 t531)) (fun _ hk => hk.2) (.slice Ao56 t532.length co56)) (fun _ hk => trivial)⟩, ⟨Z5 NB520_536 BK520⟩, ⟨Z5 NB521_536 BK521⟩, ⟨sqB4 HB GE520 GE521 GE529 GE536⟩⟩
      ·rw [if_neg c23] at H
       have c23b0 : decide (x24_2 < (l1.length : Int)) = false := decide_eq_false c23
       clear c23
       simp only [Option.some.injEq, Prod.mk.injEq] at H
       obtain ⟨rfl, rfl, rfl, rfl⟩ := H
       have hnb57 := NB520_521.out
       have hnc57 := NB521_520.out
       obtain ⟨hcz58_0, hcz58_1, hcz58_2, hfz58_0, hfz58_1, hfz58_2⟩ := sqY3 BK520
       obtain ⟨hcz59_0, hcz59_1, hcz59_2, hfz59_0, hfz59_1, hfz59_2⟩ := sqY3 BK521
       obtain ⟨Ao60, co60, eo60⟩ := Kd.R_slice HO_521002.out
       subst eo60
       go_wp2
       refine bodyPost_ret (results_ct rfl _ _ gb521 34 #[.int .i64 x521000_2, .int .i64 x521001_2, .slice Ao60 x521002_2.length co60] (0, 0) _ rfl (by refine sqPut (cs := #[.int .i64 x521000_2, .int .i64 x521001_2, .slice none 0 0]) ?_ 2; refine sqPut (cs := #[.int .i64 x521000_2, .int .i64 0, .slice none 0 0]) ?_ 1; refine sqPut (cs := #[.int .i64 0, .int .i64 0, .slice none 0 0]) ?_ 0; exact sqK BK521) Tryz.underlying34 rfl (by kernel_rfl)) rfl ?_
       exact ⟨_, Z15, by (with_reducible repeat (first | apply Kd.R_alloc | apply Kd.R_drewN | apply Kd.R_drew)); exact Kd.R_mono (Kd.R_far (p := ⟨gb521, 2, none⟩) (Kd.R_far (p := ⟨gb521, 1, none⟩) (Kd.R_far (p := ⟨gb521, 0, none⟩) (Kd.R_types HO_521002.out BK521.out (by decide)) (fun _ hk => hk.2) (.int .i64 x521000_2)) (fun _ hk => hk.2) (.int .i64 x521001_2)) (fun _ hk => hk.2) (.slice Ao60 x521002_2.length co60)) (fun _ hk => trivial), sqB2 HB GE520 GE521⟩

end Go.Proofs.YtofmlbgfcohhoaaGreatDoor.PFnDeskRun
