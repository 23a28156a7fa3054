/- Lean functions of the Go functions that the law FnExactDeskRun reaches, each with its contract: made by a program of this session. -/
import Derived.Test.YtofmlbgfcohhoaaGreatDoorPFnExactDeskRunx0
import Derived.Test.YtofmlbgfcohhoaaGreatDoorPFnExactDeskRunx4
import Derived.Test.YtofmlbgfcohhoaaGreatDoorPFnExactDeskRunx7
namespace Go.Proofs.YtofmlbgfcohhoaaGreatDoor.PFnExactDeskRun
open Go.RowKit Go.Proofs.YtofmlbgfcohhoaaGreatDoorW.PrintWords Go.Proofs.YtofmlbgfcohhoaaGreatDoorW.PrintLast Go.Proofs.YtofmlbgfcohhoaaGreatDoorW.PrintMore Go.Proofs.YtofmlbgfcohhoaaGreatDoor.Lib
attribute [local go_sem] max2_int min2_int max_two min_two max_three min_three max_four min_four   -- for this text's walks alone
set_option linter.unusedVariables false
set_option linter.unusedSimpArgs false

/-! ### impl_DeskRun: function 28 -/
mutual
def impl_DeskRun.j0 : Nat → List (S38) → Bool → Int → Int → List (S31) → Option (Int × Int × (List (S31)) × Int)
 | 0, _, _, _, _, _ => none
 | k + 1, x1, x18, x256000, x256001, x256002 => if x18 = true then (some (0, 0, ([] : List (S31)), 0)) else ((impl_copyDesk.f x256000 x256001 x256002).bind fun bt258 => (impl_DeskRun.l0 k 0 x1 (x1.length : Int) 0 bt258.1 bt258.2.1 bt258.2.2))
def impl_DeskRun.l0 : Nat → Int → List (S38) → Int → Int → Int → Int → List (S31) → Option (Int × Int × (List (S31)) × Int)
 | 0, _, _, _, _, _, _, _ => none
 | k + 1, x6, x22, x23, x24, x256000, x256001, x256002 => if x24 < x23 then (if 0 ≤ x24 then (if x24 < (x22.length : Int) then ((impl_deskDo.f k x256000 x256001 x256002 ((rd_T38 x22 x24).f0) ((rd_T38 x22 x24).f1)).bind fun bt265 => (if bt265.2.2.2 = true then (impl_DeskRun.l0 k (wrap64 (x6 + 1)) x22 x23 (wrap64 (x24 + 1)) bt265.1 bt265.2.1 bt265.2.2.1) else (impl_DeskRun.l0 k x6 x22 x23 (wrap64 (x24 + 1)) x256000 x256001 x256002))) else (none)) else (none)) else (some (x256000, x256001, x256002, x6))
end
def impl_DeskRun.f (k : Nat) (a0_0 : Int) (a0_1 : Int) (l0_2 : List (S31)) (l1 : List (S38)) : Option (Int × Int × (List (S31)) × Int) := (impl_isDesk.f k a0_0 a0_1 l0_2).bind fun t257 => (if t257 = true then (impl_DeskRun.j0 k l1 (decide ((l1.length : Int) > 40)) a0_0 a0_1 l0_2) else (impl_DeskRun.j0 k l1 true a0_0 a0_1 l0_2))
theorem impl_DeskRun.mono_l : ∀ k, (∀ y0 y1 y2 y3 y4, LeO (impl_DeskRun.j0 k y0 y1 y2 y3 y4) (impl_DeskRun.j0 (k + 1) y0 y1 y2 y3 y4)) ∧ (∀ y0 y1 y2 y3 y4 y5 y6, LeO (impl_DeskRun.l0 k y0 y1 y2 y3 y4 y5 y6) (impl_DeskRun.l0 (k + 1) y0 y1 y2 y3 y4 y5 y6))
 | 0 => ⟨fun _ _ _ _ _ r h => by simp [impl_DeskRun.j0] at h, fun _ _ _ _ _ _ _ r h => by simp [impl_DeskRun.l0] at h⟩
 | k + 1 => by
  obtain ⟨ih0, ih1⟩ := impl_DeskRun.mono_l k
  refine ⟨?_, ?_⟩
  ·intro y0 y1 y2 y3 y4
   unfold impl_DeskRun.j0
   repeat' first
   | (with_reducible exact ih0 _ _ _ _ _)
   | (with_reducible exact ih1 _ _ _ _ _ _ _)
   | (with_reducible exact impl_deskDo.mono _ _ _ _ _ _)
   | (with_reducible exact impl_isDesk.mono _ _ _ _)
   | (with_reducible exact LeO.refl _)
   | (with_reducible exact LeO.none _)
   | (with_reducible refine LeO.ite ?_ ?_)
   | (with_reducible refine LeO.bind ?_ (fun _ => ?_))
  ·intro y0 y1 y2 y3 y4 y5 y6
   unfold impl_DeskRun.l0
   repeat' first
   | (with_reducible exact ih0 _ _ _ _ _)
   | (with_reducible exact ih1 _ _ _ _ _ _ _)
   | (with_reducible exact impl_deskDo.mono _ _ _ _ _ _)
   | (with_reducible exact impl_isDesk.mono _ _ _ _)
   | (with_reducible exact LeO.refl _)
   | (with_reducible exact LeO.none _)
   | (with_reducible refine LeO.ite ?_ ?_)
   | (with_reducible refine LeO.bind ?_ (fun _ => ?_))
theorem impl_DeskRun.mono : ∀ a0 a1 a2 a3 k, LeO (impl_DeskRun.f k a0 a1 a2 a3) (impl_DeskRun.f (k + 1) a0 a1 a2 a3) := by
 intro a0 a1 a2 a3 k
 obtain ⟨ih0, ih1⟩ := impl_DeskRun.mono_l k
 unfold impl_DeskRun.f
 repeat' first
   | (with_reducible exact ih0 _ _ _ _ _)
   | (with_reducible exact ih1 _ _ _ _ _ _ _)
   | (with_reducible exact impl_deskDo.mono _ _ _ _ _ _)
   | (with_reducible exact impl_isDesk.mono _ _ _ _)
   | (with_reducible exact LeO.refl _)
   | (with_reducible exact LeO.none _)
   | (with_reducible refine LeO.ite ?_ ?_)
   | (with_reducible refine LeO.bind ?_ (fun _ => ?_))
set_option maxHeartbeats 8000000 in
set_option maxRecDepth 100000 in
theorem impl_DeskRun.calls (k : Nat) (a0_0 : Int) (a0_1 : Int) (A0_2 : Option Addr) (c0_2 : Nat) (l0_2 : List (S31)) (A1 : Option Addr) (c1 : Nat) (l1 : List (S38)) (r1 : Int) (r2 : Int) (r3 : List (S31)) (r4 : Int) (w : World) (hG : Glob w) (hr0_2 : Kd.C k31 w A0_2 l0_2.length l0_2) (hc0_2 : l0_2.length ≤ c0_2) (hr1 : Kd.C k38 w A1 l1.length l1) (hc1 : l1.length ≤ c1) (h : impl_DeskRun.f k a0_0 a0_1 l0_2 l1 = some (r1, r2, r3, r4)) :
  Calls Tryz.prog 28 #[.agg #[.int .i64 a0_0, .int .i64 a0_1, .slice A0_2 l0_2.length c0_2], .slice A1 l1.length c1] w fun e w' => ∃ v2_ : Value, e = .returned (.tuple #[.agg #[.int .i64 r1, .int .i64 r2, v2_], .int .i64 r4]) ∧ Kd.R k31 31 w' w.heap.size (fun _ => True) v2_ r3 ∧ Below w.heap.size w w' := by
 have hu34 := Tryz.underlying34
 have hu38 := Tryz.underlying38
 have HR0_2 := Aside0.mk hr0_2
 have HC0_2 := Aside0.mk hc0_2
 clear hr0_2 hc0_2
 have HR1 := Aside0.mk hr1
 have HC1 := Aside0.mk hc1
 clear hr1 hc1
 have HB := Aside0.mk (Below.refl w.heap.size w)
 have H : ((impl_isDesk.f k a0_0 a0_1 l0_2).bind fun t257 => (if t257 = true then (impl_DeskRun.j0 k l1 (decide ((l1.length : Int) > 40)) a0_0 a0_1 l0_2) else (impl_DeskRun.j0 k l1 true a0_0 a0_1 l0_2))) = some (r1, r2, r3, r4) := h
 clear h
 have HC3 := Aside0.mk H
 clear H
 go_enter Tryz.func28, Tryz.ntmps28
 go_upto_region 1 with (first | ((with_reducible refine gate_dst (N := 2) rfl ?_); (try (refine gate_guard (by rfl) ?_; dsimp only)); refine sqBox (N := 2) (cs := #[.int .i64 a0_0, .int .i64 a0_1, .slice A0_2 l0_2.length c0_2]) (t := 34) ?_; intro gb255 hg w4 BK255 hb; have GW255 := Aside0.mk ((sqG hg (sqB HB))); have GE255 := GW255; replace HB := sqS (sqB HB) hb; clear hb hg) | ((with_reducible refine gate_dst (N := 4) rfl ?_); (try (refine gate_guard (by rfl) ?_; dsimp only)); refine sqBox (N := 4) (cs := #[.int .i64 0, .int .i64 0, .slice none 0 0]) (t := 34) ?_; intro gb256 hg w5 BK256 hb; have GW256 := Aside0.mk ((sqG hg (sqB1 HB GE255))); have GE256 := GW256; replace HB := sqS (sqB1 HB GE255) hb; obtain ⟨NB255_256, NB256_255⟩ := sqM hg BK255; replace BK255 := sqT BK255 hb; clear hb hg))
 (try simp only [Act.put, List.setIfInBounds_toArray, List.set_cons_zero, List.set_cons_succ])
 go_cut [18] (fun v18 wc => ∃ (kq : Nat) (x18_2 : Bool), v18 = .bool x18_2 ∧ Aside0 (impl_DeskRun.j0 kq l1 x18_2 a0_0 a0_1 l0_2 = some (r1, r2, r3, r4)) ∧ Aside0 (kq ≤ k) ∧ Aside0 (wc.heap[gb255]? = some (.cells #[.int .i64 a0_0, .int .i64 a0_1, (.slice A0_2 l0_2.length c0_2)] 34 (0, 0))) ∧ Aside0 (wc.heap[gb256]? = some (.cells #[.int .i64 0, .int .i64 0, (.slice none 0 0)] 34 (0, 0))) ∧ Aside0 (Below w.heap.size w wc))
 case first =>
  have H := HC3.out
  clear HC3
  obtain ⟨t257, A6, H⟩ := sqD H
  by_cases c7 : t257 = true
  ·subst c7
   have H1 : (impl_DeskRun.j0 k l1 (decide ((l1.length : Int) > 40)) a0_0 a0_1 l0_2) = some (r1, r2, r3, r4) := by rw [if_pos rfl] at H; exact H
   clear H
   have H := H1
   clear H1
   have H' := Aside0.mk H
   clear H
   have hnb8 := NB255_256.out
   have hnc8 := NB256_255.out
   obtain ⟨hcz9_0, hcz9_1, hcz9_2, hfz9_0, hfz9_1, hfz9_2⟩ := sqY3 BK255
   go_wp2_with (first | ((with_reducible refine gate_callee (f := 60) rfl ?_); refine goesL_ (some 12) rfl rfl Tryz.func60 (by kernel_rfl) rfl #[.agg #[.int .i64 a0_0, .int .i64 a0_1, .slice A0_2 l0_2.length c0_2]] rfl sqA ?_; (with_reducible refine (impl_isDesk.calls k a0_0 a0_1 _ _ l0_2 true _ ?side1 ?side2 A6.out).mono ?_); (case side1 => exact Z27); (case side2 => exact Z28); rintro e w10 ⟨rfl, hb⟩; refine ⟨_, rfl, ?_⟩; replace BK255 := sqT BK255 hb; replace BK256 := sqT BK256 hb; replace HB := sqS (sqB2 HB GE255 GE256) hb; (try clear hb)))
   go_meet
   case rel => exact ⟨_, (decide ((l1.length : Int) > 40)), Z2, H', ⟨Z3⟩, ⟨sqK BK255⟩, ⟨sqK BK256⟩, ⟨sqB2 HB GE255 GE256⟩⟩
  ·replace c7 := Bool.eq_false_iff.mpr c7
   subst c7
   have H1 : (impl_DeskRun.j0 k l1 true a0_0 a0_1 l0_2) = some (r1, r2, r3, r4) := by rw [if_neg (show ¬ (false = true) by decide)] at H; exact H
   clear H
   have H := H1
   clear H1
   have H' := Aside0.mk H
   clear H
   have hnb11 := NB255_256.out
   have hnc11 := NB256_255.out
   obtain ⟨hcz12_0, hcz12_1, hcz12_2, hfz12_0, hfz12_1, hfz12_2⟩ := sqY3 BK255
   go_wp2_with (first | ((with_reducible refine gate_callee (f := 60) rfl ?_); refine goesL_ (some 12) rfl rfl Tryz.func60 (by kernel_rfl) rfl #[.agg #[.int .i64 a0_0, .int .i64 a0_1, .slice A0_2 l0_2.length c0_2]] rfl sqA ?_; (with_reducible refine (impl_isDesk.calls k a0_0 a0_1 _ _ l0_2 false _ ?side1 ?side2 A6.out).mono ?_); (case side1 => exact Z27); (case side2 => exact Z28); rintro e w13 ⟨rfl, hb⟩; refine ⟨_, rfl, ?_⟩; replace BK255 := sqT BK255 hb; replace BK256 := sqT BK256 hb; replace HB := sqS (sqB2 HB GE255 GE256) hb; (try clear hb)))
   go_meet
   case rel => exact ⟨_, (true), Z2, H', ⟨Z3⟩, ⟨sqK BK255⟩, ⟨sqK BK256⟩, ⟨sqB2 HB GE255 GE256⟩⟩
 case rest =>
  clear HC3
  try clear c1; try clear c2; try clear p2; try clear c6; try clear c7; try clear c8; try clear c11; try clear hcz12_0; try clear hcz12_1; try clear hcz12_2; try clear hcz9_0; try clear hcz9_1; try clear hcz9_2; try clear hfz12_0; try clear hfz12_1; try clear hfz12_2; try clear hfz9_0; try clear hfz9_1; try clear hfz9_2
  obtain ⟨kq, x18_2, rfl, HA, HJ2, BK255, BK256, HB⟩ := hcut
  cases kq with
  | zero => exact absurd HA.out (by simp [impl_DeskRun.j0])
  | succ kj2 =>
   have H := HA.out
   clear HA
   simp only [impl_DeskRun.j0] at H
   by_cases c14 : x18_2 = true
   ·subst c14
    have H1 : (some (0, 0, ([] : List (S31)), 0)) = some (r1, r2, r3, r4) := by rw [if_pos rfl] at H; exact H
    clear H
    have H := H1
    clear H1
    simp only [Option.some.injEq, Prod.mk.injEq] at H
    obtain ⟨rfl, rfl, rfl, rfl⟩ := H
    have hnb15 := NB256_255.out
    have hnc15 := NB255_256.out
    obtain ⟨hcz16_0, hcz16_1, hcz16_2, hfz16_0, hfz16_1, hfz16_2⟩ := sqY3 BK256
    go_wp2
    refine bodyPost_ret (results_ct rfl _ _ gb256 34 #[.int .i64 0, .int .i64 0, .slice none 0 0] (0, 0) _ rfl (Z37 BK256) Tryz.underlying34 rfl (by kernel_rfl)) rfl ?_
    exact ⟨_, Z4, Z38, sqB2 HB GE255 GE256⟩
   ·replace c14 := Bool.eq_false_iff.mpr c14
    subst c14
    have H1 : ((impl_copyDesk.f a0_0 a0_1 l0_2).bind fun bt258 => (impl_DeskRun.l0 kj2 0 l1 (l1.length : Int) 0 bt258.1 bt258.2.1 bt258.2.2)) = some (r1, r2, r3, r4) := by rw [if_neg (show ¬ (false = true) by decide)] at H; exact H
    clear H
    have H := H1
    clear H1
    replace H := Option.bind_eq_some_iff.mp H
    obtain ⟨⟨t258, t259, t260⟩, A170, H⟩ := H
    replace H : (impl_DeskRun.l0 kj2 0 l1 (l1.length : Int) 0 t258 t259 t260) = some (r1, r2, r3, r4) := H
    have A17 := Aside0.mk A170
    clear A170
    have H' := Aside0.mk H
    clear H
    have hnb18 := NB255_256.out
    have hnc18 := NB256_255.out
    obtain ⟨hcz19_0, hcz19_1, hcz19_2, hfz19_0, hfz19_1, hfz19_2⟩ := sqY3 BK255
    go_wp2_with (first | ((with_reducible refine gate_callee (f := 76) rfl ?_); refine goesL_ (some 21) rfl rfl Tryz.func76 (by kernel_rfl) rfl #[.agg #[.int .i64 a0_0, .int .i64 a0_1, .slice A0_2 l0_2.length c0_2]] rfl sqA ?_; (with_reducible refine (impl_copyDesk.calls a0_0 a0_1 _ _ l0_2 t258 t259 t260 _ ?side1 ?side2 A17.out).mono ?_); (case side1 => exact Z27); (case side2 => exact Z28); rintro e w20 ⟨v261, rfl, ho0, hb⟩; refine ⟨_, rfl, ?_⟩; have HO262 := sqL ho0 (sqB2 HB GE255 GE256); replace BK255 := sqT BK255 hb; replace BK256 := sqT BK256 hb; replace HB := sqS (sqB2 HB GE255 GE256) hb; (try clear hb); (try clear ho0); obtain ⟨hcz21_0, hcz21_1, hcz21_2, hfz21_0, hfz21_1, hfz21_2⟩ := sqY3 BK255; obtain ⟨Ao22, co22, eo22⟩ := Kd.R_slice HO262.out; subst eo22))
    go_loopg [6, 24] kj2 (fun kq v6 v24 w' => ∃ (x6_2 : Int) (x24_2 : Int) (x256000_2 : Int) (x256001_2 : Int) (x256002_2 : List (S31)) (u256002 : Value), v6 = .int .i64 x6_2 ∧ v24 = .int .i64 x24_2 ∧ Aside0 (impl_DeskRun.l0 kq x6_2 l1 (l1.length : Int) x24_2 x256000_2 x256001_2 x256002_2 = some (r1, r2, r3, r4)) ∧ Aside0 (kq ≤ kj2) ∧ Aside0 (Kd.R k31 31 w' w.heap.size (fun _ => True) u256002 x256002_2) ∧ Aside0 (w'.heap[gb255]? = some (.cells #[.int .i64 x256000_2, .int .i64 x256001_2, u256002] 34 (0, 0))) ∧ Aside0 (w'.heap[gb256]? = some (.cells #[.int .i64 0, .int .i64 0, (.slice none 0 0)] 34 (0, 0))) ∧ Aside0 (Below w.heap.size w w'))
    case atStart => exact ⟨(0), (0), (t258), (t259), (t260), (.slice Ao22 t260.length co22), Z2, Z2, H', ⟨Nat.le_refl _⟩, ⟨by (with_reducible repeat (first | apply Kd.R_alloc | apply Kd.R_drewN | apply Kd.R_drew)); exact Kd.R_mono (Kd.R_far (p := ⟨gb255, 2, none⟩) (Kd.R_far (p := ⟨gb255, 1, none⟩) (Kd.R_far (p := ⟨gb255, 0, none⟩) (Kd.R_types HO262.out BK255.out (by decide)) (fun _ hk => hk.2) (.int .i64 t258)) (fun _ hk => hk.2) (.int .i64 t259)) (fun _ hk => hk.2) (.slice Ao22 t260.length co22)) (fun _ hk => trivial)⟩, ⟨by refine sqPut (cs := #[.int .i64 t258, .int .i64 t259, .slice A0_2 l0_2.length c0_2]) ?_ 2; refine sqPut (cs := #[.int .i64 t258, .int .i64 a0_1, .slice A0_2 l0_2.length c0_2]) ?_ 1; refine sqPut (cs := #[.int .i64 a0_0, .int .i64 a0_1, .slice A0_2 l0_2.length c0_2]) ?_ 0; exact sqK BK255⟩, ⟨Z30 NB256_255 BK256⟩, ⟨sqB2 HB GE255 GE256⟩⟩
    case round =>
     clear H'
     try clear c1; try clear c2; try clear p2; try clear c6; try clear c7; try clear c8; try clear c11; try clear c14; try clear c15; try clear c18; try clear hcz12_0; try clear hcz12_1; try clear hcz12_2; try clear hcz16_0; try clear hcz16_1; try clear hcz16_2; try clear hcz19_0; try clear hcz19_1; try clear hcz19_2; try clear hcz21_0; try clear hcz21_1; try clear hcz21_2; try clear hcz9_0; try clear hcz9_1; try clear hcz9_2; try clear hfz12_0; try clear hfz12_1; try clear hfz12_2; try clear hfz16_0; try clear hfz16_1; try clear hfz16_2; try clear hfz19_0; try clear hfz19_1; try clear hfz19_2; try clear hfz21_0; try clear hfz21_1; try clear hfz21_2; try clear hfz9_0; try clear hfz9_1; try clear hfz9_2; try clear p2
     obtain ⟨x6_2, x24_2, x256000_2, x256001_2, x256002_2, u256002, rfl, rfl, HA, HK2, HO_256002, BK255, BK256, HB⟩ := hrel
     cases gk with
     | zero => exact absurd HA.out (by simp [impl_DeskRun.l0])
     | succ k2 =>
      have H := HA.out
      clear HA
      simp only [impl_DeskRun.l0] at H
      by_cases c23 : x24_2 < (l1.length : Int)
      ·rw [if_pos c23] at H
       have c23b0 : decide (x24_2 < (l1.length : Int)) = true := decide_eq_true c23
       clear c23
       by_cases c24 : 0 ≤ x24_2
       ·rw [if_pos c24] at H
        have c24b0 : decide (0 ≤ x24_2) = true := decide_eq_true c24
        clear c24
        by_cases c25 : x24_2 < (l1.length : Int)
        ·rw [if_pos c25] at H
         have c25b0 : decide (x24_2 < (l1.length : Int)) = true := decide_eq_true c25
         clear c25
         replace H := Option.bind_eq_some_iff.mp H
         obtain ⟨⟨t265, t266, t267, t270⟩, A260, H⟩ := H
         replace H : (if t270 = true then (impl_DeskRun.l0 k2 (wrap64 (x6_2 + 1)) l1 (l1.length : Int) (wrap64 (x24_2 + 1)) t265 t266 t267) else (impl_DeskRun.l0 k2 x6_2 l1 (l1.length : Int) (wrap64 (x24_2 + 1)) x256000_2 x256001_2 x256002_2)) = some (r1, r2, r3, r4) := H
         have A26 := Aside0.mk A260
         clear A260
         by_cases c27 : t270 = true
         ·subst c27
          have H1 : (impl_DeskRun.l0 k2 (wrap64 (x6_2 + 1)) l1 (l1.length : Int) (wrap64 (x24_2 + 1)) t265 t266 t267) = some (r1, r2, r3, r4) := by rw [if_pos rfl] at H; exact H
          clear H
          have H := H1
          clear H1
          have H' := Aside0.mk H
          clear H
          have p263 : 0 ≤ (x24_2 : Int) := of_decide_eq_true Z8
          have q263 : x24_2 < (l1.length : Int) := of_decide_eq_true Z8
          obtain ⟨ad263, e263, hx263_0, hx263_1⟩ := at_T38 HR1.out x24_2 p263 q263
          cases e263
          replace hx263_0 := (HB.out.cell (World.block_lt_of_cell? w _ hx263_0)).trans hx263_0
          replace hx263_1 := (HB.out.cell (World.block_lt_of_cell? w _ hx263_1)).trans hx263_1
          replace p263 := eq_true p263
          replace q263 := eq_true q263
          go_wp2_with (first | ((with_reducible refine gate_dst (N := 8) rfl ?_); (try (refine gate_guard (by rfl) ?_; dsimp only)); refine sqBox (N := 8) (cs := #[.int .i64 0, .string (⟨#[]⟩ : ByteArray)]) (t := 38) ?_; intro gb264 hg w28 BK264 hb; replace HO_256002 := sqU HO_256002 hb; have GW264 := Aside0.mk ((sqG hg (sqB2 HB GE255 GE256))); have GE264 := GW264; replace HB := sqS (sqB2 HB GE255 GE256) hb; obtain ⟨NB255_264, NB264_255⟩ := sqM hg BK255; replace BK255 := sqT BK255 hb; obtain ⟨NB256_264, NB264_256⟩ := sqM hg BK256; replace BK256 := sqT BK256 hb; clear hb hg; have hnb29 := NB264_255.out; have hnc29 := NB255_264.out; have hnb30 := NB264_256.out; have hnc30 := NB256_264.out; obtain ⟨hcz31_0, hcz31_1, hfz31_0, hfz31_1⟩ := sqY2 BK264; have hnb32 := NB255_256.out; have hnc32 := NB256_255.out; obtain ⟨hcz33_0, hcz33_1, hcz33_2, hfz33_0, hfz33_1, hfz33_2⟩ := sqY3 BK255; obtain ⟨Ao34, co34, eo34⟩ := Kd.R_slice HO_256002.out; subst eo34) | ((with_reducible refine gate_callee (f := 61) rfl ?_); refine goesL_ (some 31) rfl rfl Tryz.func61 (by kernel_rfl) rfl #[.agg #[.int .i64 x256000_2, .int .i64 x256001_2, .slice Ao34 x256002_2.length co34], .agg #[.int .i64 ((rd_T38 l1 x24_2).f0), .string ((rd_T38 l1 x24_2).f1)]] rfl sqA ?_; (with_reducible refine (impl_deskDo.calls k2 x256000_2 x256001_2 _ _ x256002_2 ((rd_T38 l1 x24_2).f0) ((rd_T38 l1 x24_2).f1) t265 t266 t267 true _ ?sideG ?side1 ?side2 A26.out).mono ?_); (case sideG => exact Glob.below hG (sqB3 HB GE255 GE256 GE264)); (case side1 => refine (Kd.R_reads' (e := 31) (base := w.heap.size) (ok := fun k_ => True) (n := x256002_2.length) (c := co34) ?_).2.2; exact (Z63 HO_256002 BK264)); (case side2 => exact Z62 HO_256002); rintro e w35 ⟨v268, rfl, ho0, hb⟩; refine ⟨_, rfl, ?_⟩; have HO269 := Aside0.mk (Kd.R_lower (Kd.R_new' ho0 (Kd.R_lt (Z63 HO_256002 BK264))) (below_size (sqB3 HB GE255 GE256 GE264))); replace HO_256002 := Aside0.mk (Kd.R_elder' (Z63 HO_256002 BK264) (Kd.R_base ho0) hb); replace BK255 := Aside0.mk (blk_below (g := gb255) (o := .cells #[.int .i64 x256000_2, .int .i64 x256001_2, .slice Ao34 x256002_2.length co34] 34 (0, 0)) (Z5 NB255_264 BK255) hb); replace BK256 := Aside0.mk (blk_below (g := gb256) (o := .cells #[.int .i64 0, .int .i64 0, .slice none 0 0] 34 (0, 0)) (Z5 NB256_264 BK256) hb); replace BK264 := Aside0.mk (blk_below (g := gb264) (o := .cells #[.int .i64 ((rd_T38 l1 x24_2).f0), .string ((rd_T38 l1 x24_2).f1)] 38 (0, 0)) (Z64 BK264) hb); replace HB := sqS (sqB3 HB GE255 GE256 GE264) hb; (try clear hb); (try clear ho0)) | ((with_reducible refine gate_dst (N := 9) rfl ?_); (try (refine gate_guard (by rfl) ?_; dsimp only)); refine sqBox (N := 9) (cs := #[.int .i64 0, .int .i64 0, .slice none 0 0]) (t := 34) ?_; intro gb271 hg w36 BK271 hb; replace HO_256002 := sqU HO_256002 hb; replace HO269 := sqU HO269 hb; have GW271 := Aside0.mk ((sqG hg (sqB3 HB GE255 GE256 GE264))); have GE271 := GW271; replace HB := sqS (sqB3 HB GE255 GE256 GE264) hb; obtain ⟨NB255_271, NB271_255⟩ := sqM hg BK255; replace BK255 := sqT BK255 hb; obtain ⟨NB256_271, NB271_256⟩ := sqM hg BK256; replace BK256 := sqT BK256 hb; obtain ⟨NB264_271, NB271_264⟩ := sqM hg BK264; replace BK264 := sqT BK264 hb; clear hb hg; have hnb37 := NB271_255.out; have hnc37 := NB255_271.out; have hnb38 := NB271_256.out; have hnc38 := NB256_271.out; have hnb39 := NB271_264.out; have hnc39 := NB264_271.out; obtain ⟨hcz40_0, hcz40_1, hcz40_2, hfz40_0, hfz40_1, hfz40_2⟩ := sqY3 BK271; obtain ⟨Ao41, co41, eo41⟩ := Kd.R_slice HO269.out; subst eo41; obtain ⟨hcz42_0, hcz42_1, hcz42_2, hfz42_0, hfz42_1, hfz42_2⟩ := sqY3 BK255))
          go_roundg k2
          case measure => have := HJ2.out; have := HK2.out; omega
          case rel => exact ⟨(wrap64 (x6_2 + 1)), (wrap64 (x24_2 + 1)), (t265), (t266), (t267), (.slice Ao41 t267.length co41), Z2, Z2, H', ⟨Z15 HK2⟩, ⟨by (with_reducible repeat (first | apply Kd.R_alloc | apply Kd.R_drewN | apply Kd.R_drew)); exact Kd.R_mono (Kd.R_far (p := ⟨gb255, 2, none⟩) (Kd.R_far (p := ⟨gb255, 1, none⟩) (Kd.R_far (p := ⟨gb255, 0, none⟩) (Kd.R_far (p := ⟨gb271, 2, none⟩) (Kd.R_far (p := ⟨gb271, 1, none⟩) (Kd.R_far (p := ⟨gb271, 0, none⟩) (Kd.R_types (Kd.R_types HO269.out BK271.out (by decide)) BK255.out (by decide)) (fun _ hk => hk.1.2) (.int .i64 t265)) (fun _ hk => hk.1.2) (.int .i64 t266)) (fun _ hk => hk.1.2) (.slice Ao41 t267.length co41)) (fun _ hk => hk.2) (.int .i64 t265)) (fun _ hk => hk.2) (.int .i64 t266)) (fun _ hk => hk.2) (.slice Ao41 t267.length co41)) (fun _ hk => trivial)⟩, ⟨by refine sqPut (cs := #[.int .i64 t265, .int .i64 t266, .slice Ao34 x256002_2.length co34]) ?_ 2; refine sqPut (cs := #[.int .i64 t265, .int .i64 x256001_2, .slice Ao34 x256002_2.length co34]) ?_ 1; refine sqPut (cs := #[.int .i64 x256000_2, .int .i64 x256001_2, .slice Ao34 x256002_2.length co34]) ?_ 0; refine sqFar ?_ NB255_271; refine sqFar ?_ NB255_271; refine sqFar ?_ NB255_271; exact sqK BK255⟩, ⟨Z44 NB256_255 NB256_271 BK256⟩, ⟨sqB4 HB GE255 GE256 GE264 GE271⟩⟩
         ·replace c27 := Bool.eq_false_iff.mpr c27
          subst c27
          have H1 : (impl_DeskRun.l0 k2 x6_2 l1 (l1.length : Int) (wrap64 (x24_2 + 1)) x256000_2 x256001_2 x256002_2) = some (r1, r2, r3, r4) := by rw [if_neg (show ¬ (false = true) by decide)] at H; exact H
          clear H
          have H := H1
          clear H1
          have H' := Aside0.mk H
          clear H
          have p263 : 0 ≤ (x24_2 : Int) := of_decide_eq_true Z8
          have q263 : x24_2 < (l1.length : Int) := of_decide_eq_true Z8
          obtain ⟨ad263, e263, hx263_0, hx263_1⟩ := at_T38 HR1.out x24_2 p263 q263
          cases e263
          replace hx263_0 := (HB.out.cell (World.block_lt_of_cell? w _ hx263_0)).trans hx263_0
          replace hx263_1 := (HB.out.cell (World.block_lt_of_cell? w _ hx263_1)).trans hx263_1
          replace p263 := eq_true p263
          replace q263 := eq_true q263
          go_wp2_with (first | ((with_reducible refine gate_dst (N := 8) rfl ?_); (try (refine gate_guard (by rfl) ?_; dsimp only)); refine sqBox (N := 8) (cs := #[.int .i64 0, .string (⟨#[]⟩ : ByteArray)]) (t := 38) ?_; intro gb264 hg w43 BK264 hb; replace HO_256002 := sqU HO_256002 hb; have GW264 := Aside0.mk ((sqG hg (sqB2 HB GE255 GE256))); have GE264 := GW264; replace HB := sqS (sqB2 HB GE255 GE256) hb; obtain ⟨NB255_264, NB264_255⟩ := sqM hg BK255; replace BK255 := sqT BK255 hb; obtain ⟨NB256_264, NB264_256⟩ := sqM hg BK256; replace BK256 := sqT BK256 hb; clear hb hg; have hnb44 := NB264_255.out; have hnc44 := NB255_264.out; have hnb45 := NB264_256.out; have hnc45 := NB256_264.out; obtain ⟨hcz46_0, hcz46_1, hfz46_0, hfz46_1⟩ := sqY2 BK264; have hnb47 := NB255_256.out; have hnc47 := NB256_255.out; obtain ⟨hcz48_0, hcz48_1, hcz48_2, hfz48_0, hfz48_1, hfz48_2⟩ := sqY3 BK255; obtain ⟨Ao49, co49, eo49⟩ := Kd.R_slice HO_256002.out; subst eo49) | ((with_reducible refine gate_callee (f := 61) rfl ?_); refine goesL_ (some 31) rfl rfl Tryz.func61 (by kernel_rfl) rfl #[.agg #[.int .i64 x256000_2, .int .i64 x256001_2, .slice Ao49 x256002_2.length co49], .agg #[.int .i64 ((rd_T38 l1 x24_2).f0), .string ((rd_T38 l1 x24_2).f1)]] rfl sqA ?_; (with_reducible refine (impl_deskDo.calls k2 x256000_2 x256001_2 _ _ x256002_2 ((rd_T38 l1 x24_2).f0) ((rd_T38 l1 x24_2).f1) t265 t266 t267 false _ ?sideG ?side1 ?side2 A26.out).mono ?_); (case sideG => exact Glob.below hG (sqB3 HB GE255 GE256 GE264)); (case side1 => refine (Kd.R_reads' (e := 31) (base := w.heap.size) (ok := fun k_ => True) (n := x256002_2.length) (c := co49) ?_).2.2; exact (Z63 HO_256002 BK264)); (case side2 => exact Z62 HO_256002); rintro e w50 ⟨v268, rfl, ho0, hb⟩; refine ⟨_, rfl, ?_⟩; have HO269 := Aside0.mk (Kd.R_lower (Kd.R_new' ho0 (Kd.R_lt (Z63 HO_256002 BK264))) (below_size (sqB3 HB GE255 GE256 GE264))); replace HO_256002 := Aside0.mk (Kd.R_elder' (Z63 HO_256002 BK264) (Kd.R_base ho0) hb); replace BK255 := Aside0.mk (blk_below (g := gb255) (o := .cells #[.int .i64 x256000_2, .int .i64 x256001_2, .slice Ao49 x256002_2.length co49] 34 (0, 0)) (Z5 NB255_264 BK255) hb); replace BK256 := Aside0.mk (blk_below (g := gb256) (o := .cells #[.int .i64 0, .int .i64 0, .slice none 0 0] 34 (0, 0)) (Z5 NB256_264 BK256) hb); replace BK264 := Aside0.mk (blk_below (g := gb264) (o := .cells #[.int .i64 ((rd_T38 l1 x24_2).f0), .string ((rd_T38 l1 x24_2).f1)] 38 (0, 0)) (Z64 BK264) hb); replace HB := sqS (sqB3 HB GE255 GE256 GE264) hb; (try clear hb); (try clear ho0)) | ((with_reducible refine gate_dst (N := 9) rfl ?_); (try (refine gate_guard (by rfl) ?_; dsimp only)); refine sqBox (N := 9) (cs := #[.int .i64 0, .int .i64 0, .slice none 0 0]) (t := 34) ?_; intro gb271 hg w51 BK271 hb; replace HO_256002 := sqU HO_256002 hb; replace HO269 := sqU HO269 hb; have GW271 := Aside0.mk ((sqG hg (sqB3 HB GE255 GE256 GE264))); have GE271 := GW271; replace HB := sqS (sqB3 HB GE255 GE256 GE264) hb; obtain ⟨NB255_271, NB271_255⟩ := sqM hg BK255; replace BK255 := sqT BK255 hb; obtain ⟨NB256_271, NB271_256⟩ := sqM hg BK256; replace BK256 := sqT BK256 hb; obtain ⟨NB264_271, NB271_264⟩ := sqM hg BK264; replace BK264 := sqT BK264 hb; clear hb hg; have hnb52 := NB271_255.out; have hnc52 := NB255_271.out; have hnb53 := NB271_256.out; have hnc53 := NB256_271.out; have hnb54 := NB271_264.out; have hnc54 := NB264_271.out; obtain ⟨hcz55_0, hcz55_1, hcz55_2, hfz55_0, hfz55_1, hfz55_2⟩ := sqY3 BK271; obtain ⟨Ao56, co56, eo56⟩ := Kd.R_slice HO269.out; subst eo56))
          go_roundg k2
          case measure => have := HJ2.out; have := HK2.out; omega
          case rel => exact ⟨(x6_2), (wrap64 (x24_2 + 1)), (x256000_2), (x256001_2), (x256002_2), (.slice Ao49 x256002_2.length co49), Z2, Z2, H', ⟨Z15 HK2⟩, ⟨by (with_reducible repeat (first | apply Kd.R_alloc | apply Kd.R_drewN | apply Kd.R_drew)); exact Kd.R_mono (Kd.R_far (p := ⟨gb271, 2, none⟩) (Kd.R_far (p := ⟨gb271, 1, none⟩) (Kd.R_far (p := ⟨gb271, 0, none⟩) (Kd.R_types HO_256002.out BK271.out (by decide)) (fun _ hk => hk.2) (.int .i64 t265)) (fun _ hk => hk.2) (.int .i64 t266)) (fun _ hk => hk.2) (.slice Ao56 t267.length co56)) (fun _ hk => trivial)⟩, ⟨Z30 NB255_271 BK255⟩, ⟨Z30 NB256_271 BK256⟩, ⟨sqB4 HB GE255 GE256 GE264 GE271⟩⟩
        ·rw [if_neg c25] at H
         exact absurd H (by simp)
       ·rw [if_neg c24] at H
        exact absurd H (by simp)
      ·rw [if_neg c23] at H
       have c23b0 : decide (x24_2 < (l1.length : Int)) = false := decide_eq_false c23
       clear c23
       simp only [Option.some.injEq, Prod.mk.injEq] at H
       obtain ⟨rfl, rfl, rfl, rfl⟩ := H
       have hnb57 := NB255_256.out
       have hnc57 := NB256_255.out
       obtain ⟨hcz58_0, hcz58_1, hcz58_2, hfz58_0, hfz58_1, hfz58_2⟩ := sqY3 BK255
       obtain ⟨hcz59_0, hcz59_1, hcz59_2, hfz59_0, hfz59_1, hfz59_2⟩ := sqY3 BK256
       obtain ⟨Ao60, co60, eo60⟩ := Kd.R_slice HO_256002.out
       subst eo60
       go_wp2
       refine bodyPost_ret (results_ct rfl _ _ gb256 34 #[.int .i64 x256000_2, .int .i64 x256001_2, .slice Ao60 x256002_2.length co60] (0, 0) _ rfl (by refine sqPut (cs := #[.int .i64 x256000_2, .int .i64 x256001_2, .slice none 0 0]) ?_ 2; refine sqPut (cs := #[.int .i64 x256000_2, .int .i64 0, .slice none 0 0]) ?_ 1; refine sqPut (cs := #[.int .i64 0, .int .i64 0, .slice none 0 0]) ?_ 0; exact sqK BK256) Tryz.underlying34 rfl (by kernel_rfl)) rfl ?_
       exact ⟨_, Z4, by (with_reducible repeat (first | apply Kd.R_alloc | apply Kd.R_drewN | apply Kd.R_drew)); exact Kd.R_mono (Kd.R_far (p := ⟨gb256, 2, none⟩) (Kd.R_far (p := ⟨gb256, 1, none⟩) (Kd.R_far (p := ⟨gb256, 0, none⟩) (Kd.R_types HO_256002.out BK256.out (by decide)) (fun _ hk => hk.2) (.int .i64 x256000_2)) (fun _ hk => hk.2) (.int .i64 x256001_2)) (fun _ hk => hk.2) (.slice Ao60 x256002_2.length co60)) (fun _ hk => trivial), sqB2 HB GE255 GE256⟩

/-! ### spec_l1In: function 101 -/
def spec_l1In.f (a0 : Int) (a1 : Int) (a2 : Int) : Option (Bool) := if a0 ≥ a1 then (some (decide (a0 ≤ a2))) else (some false)
set_option maxHeartbeats 8000000 in
set_option maxRecDepth 100000 in
theorem spec_l1In.calls (a0 : Int) (a1 : Int) (a2 : Int) (r : Bool) (w : World) (h : spec_l1In.f a0 a1 a2 = some r) :
  Calls Tryz.prog 101 #[.int .i64 a0, .int .i64 a1, .int .i64 a2] w fun e w' => e = .returned (.bool r) ∧ Drawn0 w w' := by
 have H : (if a0 ≥ a1 then (some (decide (a0 ≤ a2))) else (some false)) = some r := h
 clear h
 by_cases c4 : a0 ≥ a1
 ·rw [if_pos c4] at H
  have c4b0 : decide (a1 ≤ a0) = true := decide_eq_true c4
  clear c4
  obtain rfl := Option.some.inj H
  go_enter Tryz.func101, Tryz.ntmps101
  go_wp2
  go_ret
  exact ⟨Z2, Z7⟩
 ·rw [if_neg c4] at H
  have c4b0 : decide (a1 ≤ a0) = false := decide_eq_false c4
  clear c4
  obtain rfl := Option.some.inj H
  go_enter Tryz.func101, Tryz.ntmps101
  go_wp2
  go_ret
  exact ⟨Z2, Z7⟩

/-! ### spec_l1Common: function 121 -/
def spec_l1Common.l0 : Nat → Int → Int → Option (Int)
 | 0, _, _ => none
 | k + 1, x0, x1 => if x1 > 0 then (if x1 = 0 then (none) else (spec_l1Common.l0 k x1 (Int.tmod x0 x1))) else (some x0)
def spec_l1Common.f (k : Nat) (a0 : Int) (a1 : Int) : Option (Int) := spec_l1Common.l0 k (mx a0 (wrap64 (-a0))) (mx a1 (wrap64 (-a1)))
theorem spec_l1Common.mono_l : ∀ k, (∀ y0 y1, LeO (spec_l1Common.l0 k y0 y1) (spec_l1Common.l0 (k + 1) y0 y1))
 | 0 => fun _ _ r h => by simp [spec_l1Common.l0] at h
 | k + 1 => by
  have ih0 := spec_l1Common.mono_l k
  ·intro y0 y1
   unfold spec_l1Common.l0
   repeat' first
   | (with_reducible exact ih0 _ _)
   | (with_reducible exact LeO.refl _)
   | (with_reducible exact LeO.none _)
   | (with_reducible refine LeO.ite ?_ ?_)
   | (with_reducible refine LeO.bind ?_ (fun _ => ?_))
theorem spec_l1Common.mono : ∀ a0 a1 k, LeO (spec_l1Common.f k a0 a1) (spec_l1Common.f (k + 1) a0 a1) := by
 intro a0 a1 k
 have ih0 := spec_l1Common.mono_l k
 unfold spec_l1Common.f
 repeat' first
   | (with_reducible exact ih0 _ _)
   | (with_reducible exact LeO.refl _)
   | (with_reducible exact LeO.none _)
   | (with_reducible refine LeO.ite ?_ ?_)
   | (with_reducible refine LeO.bind ?_ (fun _ => ?_))
set_option maxHeartbeats 8000000 in
set_option maxRecDepth 100000 in
theorem spec_l1Common.calls (k : Nat) (a0 : Int) (a1 : Int) (r : Int) (w : World) (h : spec_l1Common.f k a0 a1 = some r) :
  Calls Tryz.prog 121 #[.int .i64 a0, .int .i64 a1] w fun e w' => e = .returned (.int .i64 r) ∧ Below w.heap.size w w' := by
 have HB := Aside0.mk (Below.refl w.heap.size w)
 have H : (spec_l1Common.l0 k (mx a0 (wrap64 (-a0))) (mx a1 (wrap64 (-a1)))) = some r := h
 clear h
 obtain ⟨ji3, hji3⟩ : ∃ j_ : Int, (mx a0 (wrap64 (-a0))) = j_ := ⟨_, rfl⟩
 replace H : (spec_l1Common.l0 k ji3 (mx a1 (wrap64 (-a1)))) = some r := by first | (rw [hji3] at H; exact H) | (simp only [hji3] at H ⊢; exact H)
 have hji3_ : (if a0 < (wrap64 (-a0)) then (wrap64 (-a0)) else a0) = ji3 := hji3
 obtain ⟨ji4, hji4⟩ : ∃ j_ : Int, (mx a1 (wrap64 (-a1))) = j_ := ⟨_, rfl⟩
 replace H : (spec_l1Common.l0 k ji3 ji4) = some r := by first | (rw [hji4] at H; exact H) | (simp only [hji4] at H ⊢; exact H)
 have hji4_ : (if a1 < (wrap64 (-a1)) then (wrap64 (-a1)) else a1) = ji4 := hji4
 have H' := Aside0.mk H
 clear H
 go_enter Tryz.func121, Tryz.ntmps121
 go_wp2
 go_loopg [0, 1] k (fun kq v0 v1 w' => ∃ (x0_1 : Int) (x1_1 : Int), v0 = .int .i64 x0_1 ∧ v1 = .int .i64 x1_1 ∧ Aside0 (spec_l1Common.l0 kq x0_1 x1_1 = some r) ∧ Aside0 (kq ≤ k) ∧ Aside0 (Below w.heap.size w w'))
 case atStart => exact ⟨(ji3), (ji4), (by first | rfl | (simp; done) | (simp only [← hji3] <;> (first | rfl | simp)) | (simp [*]; done)), (by first | rfl | (simp; done) | (simp only [← hji4] <;> (first | rfl | simp)) | (simp [*]; done)), H', ⟨Nat.le_refl _⟩, ⟨sqB HB⟩⟩
 case round =>
  clear H'
  try clear c1; try clear p2
  obtain ⟨x0_1, x1_1, rfl, rfl, HA, HK1, HB⟩ := hrel
  cases gk with
  | zero => exact absurd HA.out (by simp [spec_l1Common.l0])
  | succ k1 =>
   have H := HA.out
   clear HA
   simp only [spec_l1Common.l0] at H
   by_cases c5 : x1_1 > 0
   ·rw [if_pos c5] at H
    have c5b0 : decide (0 < x1_1) = true := decide_eq_true c5
    clear c5
    by_cases c6 : x1_1 = 0
    ·rw [if_pos c6] at H
     exact absurd H (by simp)
    ·rw [if_neg c6] at H
     have c6b0 : (x1_1 == 0) = false := beq_eq_false_iff_ne.mpr c6
     have c6b1 : (x1_1 != 0) = true := bne_iff_ne.mpr c6
     have H' := Aside0.mk H
     clear H
     go_wp2
     go_roundg k1
     case measure => have := HK1.out; omega
     case rel => exact ⟨(x1_1), (Int.tmod x0_1 x1_1), Z2, Z2, H', ⟨Z9 HK1⟩, ⟨sqB HB⟩⟩
   ·rw [if_neg c5] at H
    have c5b0 : decide (0 < x1_1) = false := decide_eq_false c5
    clear c5
    obtain rfl := Option.some.inj H
    go_wp2
    go_ret
    exact ⟨by first | rfl | (simp [errP_none, errP_some] <;> rfl) | (simp only [← hji3, ← hji4]; first | rfl | (simp [errP_none, errP_some] <;> rfl)) | (simp [*, errP_none, errP_some] <;> rfl), sqB HB⟩

/-! ### spec_FractionOk: function 77 -/
def spec_FractionOk.f (k : Nat) (a0_0 : Int) (a0_1 : Int) : Option (Bool) := (spec_l1In.f a0_0 (-1000000) 1000000).bind fun t273 => (if t273 = true then ((spec_l1In.f a0_1 0 1000000).bind fun t274 => (if t274 = true then ((spec_l1Common.f k a0_0 a0_1).bind fun t275 => (if t275 = 1 then (if a0_1 > 0 then (some true) else (some (a0_0 == 1))) else (some false))) else (some false))) else (some false))
theorem spec_FractionOk.mono : ∀ a0 a1 k, LeO (spec_FractionOk.f k a0 a1) (spec_FractionOk.f (k + 1) a0 a1) := by
 intro a0 a1 k
 unfold spec_FractionOk.f
 repeat' first
   | (with_reducible exact spec_l1Common.mono _ _ _)
   | (with_reducible exact LeO.refl _)
   | (with_reducible exact LeO.none _)
   | (with_reducible refine LeO.ite ?_ ?_)
   | (with_reducible refine LeO.bind ?_ (fun _ => ?_))
set_option maxHeartbeats 8000000 in
set_option maxRecDepth 100000 in
theorem spec_FractionOk.calls (k : Nat) (a0_0 : Int) (a0_1 : Int) (r : Bool) (w : World) (h : spec_FractionOk.f k a0_0 a0_1 = some r) :
  Calls Tryz.prog 77 #[.agg #[.int .i64 a0_0, .int .i64 a0_1]] w fun e w' => e = .returned (.bool r) ∧ Below w.heap.size w w' := by
 have hu31 := Tryz.underlying31
 have HB := Aside0.mk (Below.refl w.heap.size w)
 have H : ((spec_l1In.f a0_0 (-1000000) 1000000).bind fun t273 => (if t273 = true then ((spec_l1In.f a0_1 0 1000000).bind fun t274 => (if t274 = true then ((spec_l1Common.f k a0_0 a0_1).bind fun t275 => (if t275 = 1 then (if a0_1 > 0 then (some true) else (some (a0_0 == 1))) else (some false))) else (some false))) else (some false))) = some r := h
 clear h
 obtain ⟨t273, A2, H⟩ := sqD H
 by_cases c3 : t273 = true
 ·subst c3
  have H1 : ((spec_l1In.f a0_1 0 1000000).bind fun t274 => (if t274 = true then ((spec_l1Common.f k a0_0 a0_1).bind fun t275 => (if t275 = 1 then (if a0_1 > 0 then (some true) else (some (a0_0 == 1))) else (some false))) else (some false))) = some r := by rw [if_pos rfl] at H; exact H
  clear H
  have H := H1
  clear H1
  obtain ⟨t274, A4, H⟩ := sqD H
  by_cases c5 : t274 = true
  ·subst c5
   have H1 : ((spec_l1Common.f k a0_0 a0_1).bind fun t275 => (if t275 = 1 then (if a0_1 > 0 then (some true) else (some (a0_0 == 1))) else (some false))) = some r := by rw [if_pos rfl] at H; exact H
   clear H
   have H := H1
   clear H1
   obtain ⟨t275, A6, H⟩ := sqD H
   by_cases c7 : t275 = 1
   ·rw [if_pos c7] at H
    have c7b0 : (t275 == 1) = true := beq_iff_eq.mpr c7
    have c7b1 : (t275 != 1) = false := bne_eq_false_iff_eq.mpr c7
    clear c7
    by_cases c8 : a0_1 > 0
    ·rw [if_pos c8] at H
     have c8b0 : decide (0 < a0_1) = true := decide_eq_true c8
     clear c8
     obtain rfl := Option.some.inj H
     go_enter Tryz.func77, Tryz.ntmps77
     go_wp2_with (first | ((with_reducible refine gate_dst (N := 1) rfl ?_); refine sqBox (N := 1) (cs := #[.int .i64 a0_0, .int .i64 a0_1]) (t := 31) ?_; intro gb272 hg w9 BK272 hb; have GW272 := Aside0.mk ((sqG hg (sqB HB))); have GE272 := GW272; replace HB := sqS (sqB HB) hb; clear hb hg; obtain ⟨hcz10_0, hcz10_1, hfz10_0, hfz10_1⟩ := sqY2 BK272) | ((with_reducible refine gate_callee (f := 101) rfl ?_); refine goesL_ (some 5) rfl rfl Tryz.func101 (by kernel_rfl) rfl #[.int .i64 a0_0, .int .i64 (-1000000), .int .i64 1000000] rfl sqA ?_; (with_reducible refine (spec_l1In.calls a0_0 (-1000000) 1000000 true _ A2.out).mono ?_); rintro e w' ⟨rfl, ⟨nd, rfl⟩⟩; refine ⟨_, rfl, ?_⟩) | (go_at_call 101; (with_reducible refine (spec_l1In.calls a0_1 0 1000000 true _ A4.out).mono ?_); rintro e w' ⟨rfl, ⟨nd, rfl⟩⟩) | ((with_reducible refine gate_callee (f := 121) rfl ?_); refine goesL_ (some 17) rfl rfl Tryz.func121 (by kernel_rfl) rfl #[.int .i64 a0_0, .int .i64 a0_1] rfl sqA ?_; (with_reducible refine (spec_l1Common.calls k a0_0 a0_1 t275 _ A6.out).mono ?_); rintro e w11 ⟨rfl, hb⟩; refine ⟨_, rfl, ?_⟩; replace BK272 := sqT BK272 hb; replace HB := sqS (sqB1 HB GE272) hb; (try clear hb); obtain ⟨hcz12_0, hcz12_1, hfz12_0, hfz12_1⟩ := sqY2 BK272))
     go_ret
     exact ⟨Z4, sqB1 HB GE272⟩
    ·rw [if_neg c8] at H
     have c8b0 : decide (0 < a0_1) = false := decide_eq_false c8
     clear c8
     obtain rfl := Option.some.inj H
     go_enter Tryz.func77, Tryz.ntmps77
     go_wp2_with (first | ((with_reducible refine gate_dst (N := 1) rfl ?_); refine sqBox (N := 1) (cs := #[.int .i64 a0_0, .int .i64 a0_1]) (t := 31) ?_; intro gb272 hg w13 BK272 hb; have GW272 := Aside0.mk ((sqG hg (sqB HB))); have GE272 := GW272; replace HB := sqS (sqB HB) hb; clear hb hg; obtain ⟨hcz14_0, hcz14_1, hfz14_0, hfz14_1⟩ := sqY2 BK272) | ((with_reducible refine gate_callee (f := 101) rfl ?_); refine goesL_ (some 5) rfl rfl Tryz.func101 (by kernel_rfl) rfl #[.int .i64 a0_0, .int .i64 (-1000000), .int .i64 1000000] rfl sqA ?_; (with_reducible refine (spec_l1In.calls a0_0 (-1000000) 1000000 true _ A2.out).mono ?_); rintro e w' ⟨rfl, ⟨nd, rfl⟩⟩; refine ⟨_, rfl, ?_⟩) | (go_at_call 101; (with_reducible refine (spec_l1In.calls a0_1 0 1000000 true _ A4.out).mono ?_); rintro e w' ⟨rfl, ⟨nd, rfl⟩⟩) | ((with_reducible refine gate_callee (f := 121) rfl ?_); refine goesL_ (some 17) rfl rfl Tryz.func121 (by kernel_rfl) rfl #[.int .i64 a0_0, .int .i64 a0_1] rfl sqA ?_; (with_reducible refine (spec_l1Common.calls k a0_0 a0_1 t275 _ A6.out).mono ?_); rintro e w15 ⟨rfl, hb⟩; refine ⟨_, rfl, ?_⟩; replace BK272 := sqT BK272 hb; replace HB := sqS (sqB1 HB GE272) hb; (try clear hb); obtain ⟨hcz16_0, hcz16_1, hfz16_0, hfz16_1⟩ := sqY2 BK272))
     go_ret
     exact ⟨Z4, sqB1 HB GE272⟩
   ·rw [if_neg c7] at H
    have c7b0 : (t275 == 1) = false := beq_eq_false_iff_ne.mpr c7
    have c7b1 : (t275 != 1) = true := bne_iff_ne.mpr c7
    obtain rfl := Option.some.inj H
    go_enter Tryz.func77, Tryz.ntmps77
    go_wp2_with (first | ((with_reducible refine gate_dst (N := 1) rfl ?_); refine sqBox (N := 1) (cs := #[.int .i64 a0_0, .int .i64 a0_1]) (t := 31) ?_; intro gb272 hg w17 BK272 hb; have GW272 := Aside0.mk ((sqG hg (sqB HB))); have GE272 := GW272; replace HB := sqS (sqB HB) hb; clear hb hg; obtain ⟨hcz18_0, hcz18_1, hfz18_0, hfz18_1⟩ := sqY2 BK272) | ((with_reducible refine gate_callee (f := 101) rfl ?_); refine goesL_ (some 5) rfl rfl Tryz.func101 (by kernel_rfl) rfl #[.int .i64 a0_0, .int .i64 (-1000000), .int .i64 1000000] rfl sqA ?_; (with_reducible refine (spec_l1In.calls a0_0 (-1000000) 1000000 true _ A2.out).mono ?_); rintro e w' ⟨rfl, ⟨nd, rfl⟩⟩; refine ⟨_, rfl, ?_⟩) | (go_at_call 101; (with_reducible refine (spec_l1In.calls a0_1 0 1000000 true _ A4.out).mono ?_); rintro e w' ⟨rfl, ⟨nd, rfl⟩⟩) | ((with_reducible refine gate_callee (f := 121) rfl ?_); refine goesL_ (some 17) rfl rfl Tryz.func121 (by kernel_rfl) rfl #[.int .i64 a0_0, .int .i64 a0_1] rfl sqA ?_; (with_reducible refine (spec_l1Common.calls k a0_0 a0_1 t275 _ A6.out).mono ?_); rintro e w19 ⟨rfl, hb⟩; refine ⟨_, rfl, ?_⟩; replace BK272 := sqT BK272 hb; replace HB := sqS (sqB1 HB GE272) hb; (try clear hb)))
    go_ret
    exact ⟨Z4, sqB1 HB GE272⟩
  ·replace c5 := Bool.eq_false_iff.mpr c5
   subst c5
   have H1 : (some false) = some r := by rw [if_neg (show ¬ (false = true) by decide)] at H; exact H
   clear H
   have H := H1
   clear H1
   obtain rfl := Option.some.inj H
   go_enter Tryz.func77, Tryz.ntmps77
   go_wp2_with (first | ((with_reducible refine gate_dst (N := 1) rfl ?_); refine sqBox (N := 1) (cs := #[.int .i64 a0_0, .int .i64 a0_1]) (t := 31) ?_; intro gb272 hg w20 BK272 hb; have GW272 := Aside0.mk ((sqG hg (sqB HB))); have GE272 := GW272; replace HB := sqS (sqB HB) hb; clear hb hg; obtain ⟨hcz21_0, hcz21_1, hfz21_0, hfz21_1⟩ := sqY2 BK272) | ((with_reducible refine gate_callee (f := 101) rfl ?_); refine goesL_ (some 5) rfl rfl Tryz.func101 (by kernel_rfl) rfl #[.int .i64 a0_0, .int .i64 (-1000000), .int .i64 1000000] rfl sqA ?_; (with_reducible refine (spec_l1In.calls a0_0 (-1000000) 1000000 true _ A2.out).mono ?_); rintro e w' ⟨rfl, ⟨nd, rfl⟩⟩; refine ⟨_, rfl, ?_⟩) | (go_at_call 101; (with_reducible refine (spec_l1In.calls a0_1 0 1000000 false _ A4.out).mono ?_); rintro e w' ⟨rfl, ⟨nd, rfl⟩⟩))
   go_ret
   exact ⟨Z4, sqB1 HB GE272⟩
 ·replace c3 := Bool.eq_false_iff.mpr c3
  subst c3
  have H1 : (some false) = some r := by rw [if_neg (show ¬ (false = true) by decide)] at H; exact H
  clear H
  have H := H1
  clear H1
  obtain rfl := Option.some.inj H
  go_enter Tryz.func77, Tryz.ntmps77
  go_wp2_with (first | ((with_reducible refine gate_dst (N := 1) rfl ?_); refine sqBox (N := 1) (cs := #[.int .i64 a0_0, .int .i64 a0_1]) (t := 31) ?_; intro gb272 hg w22 BK272 hb; have GW272 := Aside0.mk ((sqG hg (sqB HB))); have GE272 := GW272; replace HB := sqS (sqB HB) hb; clear hb hg; obtain ⟨hcz23_0, hcz23_1, hfz23_0, hfz23_1⟩ := sqY2 BK272) | ((with_reducible refine gate_callee (f := 101) rfl ?_); refine goesL_ (some 5) rfl rfl Tryz.func101 (by kernel_rfl) rfl #[.int .i64 a0_0, .int .i64 (-1000000), .int .i64 1000000] rfl sqA ?_; (with_reducible refine (spec_l1In.calls a0_0 (-1000000) 1000000 false _ A2.out).mono ?_); rintro e w' ⟨rfl, ⟨nd, rfl⟩⟩; refine ⟨_, rfl, ?_⟩))
  go_ret
  exact ⟨Z4, sqB1 HB GE272⟩

/-! ### spec_DeskOk: function 30 -/
def spec_DeskOk.l0 : Nat → Int → Int → Int → List (S31) → Option (Bool)
 | 0, _, _, _, _ => none
 | k + 1, x3, x277000, x277001, x277002 => if x3 < (x277002.length : Int) then (if 0 ≤ x3 then ((spec_FractionOk.f k ((rd_T31 x277002 x3).f0) ((rd_T31 x277002 x3).f1)).bind fun t278 => (if t278 = true then (spec_DeskOk.l0 k (wrap64 (x3 + 1)) x277000 x277001 x277002) else (some false))) else (none)) else ((spec_FractionOk.f k x277000 x277001).bind fun t279 => (if t279 = true then (some (decide ((x277002.length : Int) ≤ 8))) else (some false)))
def spec_DeskOk.f (k : Nat) (a0_0 : Int) (a0_1 : Int) (l0_2 : List (S31)) : Option (Bool) := spec_DeskOk.l0 k 0 a0_0 a0_1 l0_2
theorem spec_DeskOk.mono_l : ∀ k, (∀ y0 y1 y2 y3, LeO (spec_DeskOk.l0 k y0 y1 y2 y3) (spec_DeskOk.l0 (k + 1) y0 y1 y2 y3))
 | 0 => fun _ _ _ _ r h => by simp [spec_DeskOk.l0] at h
 | k + 1 => by
  have ih0 := spec_DeskOk.mono_l k
  ·intro y0 y1 y2 y3
   unfold spec_DeskOk.l0
   repeat' first
   | (with_reducible exact ih0 _ _ _ _)
   | (with_reducible exact spec_FractionOk.mono _ _ _)
   | (with_reducible exact LeO.refl _)
   | (with_reducible exact LeO.none _)
   | (with_reducible refine LeO.ite ?_ ?_)
   | (with_reducible refine LeO.bind ?_ (fun _ => ?_))
theorem spec_DeskOk.mono : ∀ a0 a1 a2 k, LeO (spec_DeskOk.f k a0 a1 a2) (spec_DeskOk.f (k + 1) a0 a1 a2) := by
 intro a0 a1 a2 k
 have ih0 := spec_DeskOk.mono_l k
 unfold spec_DeskOk.f
 repeat' first
   | (with_reducible exact ih0 _ _ _ _)
   | (with_reducible exact spec_FractionOk.mono _ _ _)
   | (with_reducible exact LeO.refl _)
   | (with_reducible exact LeO.none _)
   | (with_reducible refine LeO.ite ?_ ?_)
   | (with_reducible refine LeO.bind ?_ (fun _ => ?_))
set_option maxHeartbeats 8000000 in
set_option maxRecDepth 100000 in
theorem spec_DeskOk.calls (k : Nat) (a0_0 : Int) (a0_1 : Int) (A0_2 : Option Addr) (c0_2 : Nat) (l0_2 : List (S31)) (r : Bool) (w : World) (hr0_2 : Kd.C k31 w A0_2 l0_2.length l0_2) (hc0_2 : l0_2.length ≤ c0_2) (h : spec_DeskOk.f k a0_0 a0_1 l0_2 = some r) :
  Calls Tryz.prog 30 #[.agg #[.int .i64 a0_0, .int .i64 a0_1, .slice A0_2 l0_2.length c0_2]] w fun e w' => e = .returned (.bool r) ∧ Below w.heap.size w w' := by
 have hu34 := Tryz.underlying34
 have hu31 := Tryz.underlying31
 have HR0_2 := Aside0.mk hr0_2
 have HC0_2 := Aside0.mk hc0_2
 clear hr0_2 hc0_2
 have HB := Aside0.mk (Below.refl w.heap.size w)
 have H : (spec_DeskOk.l0 k 0 a0_0 a0_1 l0_2) = some r := h
 clear h
 have H' := Aside0.mk H
 clear H
 go_enter Tryz.func30, Tryz.ntmps30
 go_wp2_with (first | ((with_reducible refine gate_dst (N := 1) rfl ?_); (try (refine gate_guard (by rfl) ?_; dsimp only)); refine sqBox (N := 1) (cs := #[.int .i64 a0_0, .int .i64 a0_1, .slice A0_2 l0_2.length c0_2]) (t := 34) ?_; intro gb276 hg w2 BK276 hb; have GW276 := Aside0.mk ((sqG hg (sqB HB))); have GE276 := GW276; replace HB := sqS (sqB HB) hb; clear hb hg))
 go_loopg [3] k (fun kq v3 w' => ∃ (x3_1 : Int), v3 = .int .i64 x3_1 ∧ Aside0 (spec_DeskOk.l0 kq x3_1 a0_0 a0_1 l0_2 = some r) ∧ Aside0 (kq ≤ k) ∧ Aside0 (w'.heap[gb276]? = some (.cells #[.int .i64 a0_0, .int .i64 a0_1, (.slice A0_2 l0_2.length c0_2)] 34 (0, 0))) ∧ Aside0 (Below w.heap.size w w'))
 case atStart => exact ⟨(0), Z2, H', ⟨Nat.le_refl _⟩, ⟨sqK BK276⟩, ⟨sqB1 HB GE276⟩⟩
 case round =>
  clear H'
  try clear p2
  obtain ⟨x3_1, rfl, HA, HK1, BK276, HB⟩ := hrel
  cases gk with
  | zero => exact absurd HA.out (by simp [spec_DeskOk.l0])
  | succ k1 =>
   have H := HA.out
   clear HA
   simp only [spec_DeskOk.l0] at H
   by_cases c3 : x3_1 < (l0_2.length : Int)
   ·rw [if_pos c3] at H
    have c3b0 : decide (x3_1 < (l0_2.length : Int)) = true := decide_eq_true c3
    clear c3
    by_cases c4 : 0 ≤ x3_1
    ·rw [if_pos c4] at H
     have c4b0 : decide (0 ≤ x3_1) = true := decide_eq_true c4
     clear c4
     obtain ⟨t278, A5, H⟩ := sqD H
     by_cases c6 : t278 = true
     ·subst c6
      have H1 : (spec_DeskOk.l0 k1 (wrap64 (x3_1 + 1)) a0_0 a0_1 l0_2) = some r := by rw [if_pos rfl] at H; exact H
      clear H
      have H := H1
      clear H1
      have H' := Aside0.mk H
      clear H
      obtain ⟨hcz7_0, hcz7_1, hcz7_2, hfz7_0, hfz7_1, hfz7_2⟩ := sqY3 BK276
      have p277 : 0 ≤ (x3_1 : Int) := of_decide_eq_true Z8
      have q277 : x3_1 < (l0_2.length : Int) := of_decide_eq_true Z8
      obtain ⟨ad277, e277, hx277_0, hx277_1⟩ := at_T31 HR0_2.out x3_1 p277 q277
      cases e277
      replace hx277_0 := (HB.out.cell (World.block_lt_of_cell? w _ hx277_0)).trans hx277_0
      replace hx277_1 := (HB.out.cell (World.block_lt_of_cell? w _ hx277_1)).trans hx277_1
      replace p277 := eq_true p277
      replace q277 := eq_true q277
      go_wp2_with (first | ((with_reducible refine gate_callee (f := 77) rfl ?_); refine goesL_ (some 16) rfl rfl Tryz.func77 (by kernel_rfl) rfl #[.agg #[.int .i64 ((rd_T31 l0_2 x3_1).f0), .int .i64 ((rd_T31 l0_2 x3_1).f1)]] rfl sqA ?_; (with_reducible refine (spec_FractionOk.calls k1 ((rd_T31 l0_2 x3_1).f0) ((rd_T31 l0_2 x3_1).f1) true _ A5.out).mono ?_); rintro e w8 ⟨rfl, hb⟩; refine ⟨_, rfl, ?_⟩; replace BK276 := sqT BK276 hb; replace HB := sqS (sqB1 HB GE276) hb; (try clear hb)))
      go_roundg k1
      case measure => have := HK1.out; omega
      case rel => exact ⟨(wrap64 (x3_1 + 1)), Z2, H', ⟨Z9 HK1⟩, ⟨sqK BK276⟩, ⟨sqB1 HB GE276⟩⟩
     ·replace c6 := Bool.eq_false_iff.mpr c6
      subst c6
      have H1 : (some false) = some r := by rw [if_neg (show ¬ (false = true) by decide)] at H; exact H
      clear H
      have H := H1
      clear H1
      obtain rfl := Option.some.inj H
      obtain ⟨hcz9_0, hcz9_1, hcz9_2, hfz9_0, hfz9_1, hfz9_2⟩ := sqY3 BK276
      have p277 : 0 ≤ (x3_1 : Int) := of_decide_eq_true Z8
      have q277 : x3_1 < (l0_2.length : Int) := of_decide_eq_true Z8
      obtain ⟨ad277, e277, hx277_0, hx277_1⟩ := at_T31 HR0_2.out x3_1 p277 q277
      cases e277
      replace hx277_0 := (HB.out.cell (World.block_lt_of_cell? w _ hx277_0)).trans hx277_0
      replace hx277_1 := (HB.out.cell (World.block_lt_of_cell? w _ hx277_1)).trans hx277_1
      replace p277 := eq_true p277
      replace q277 := eq_true q277
      go_wp2_with (first | ((with_reducible refine gate_callee (f := 77) rfl ?_); refine goesL_ (some 16) rfl rfl Tryz.func77 (by kernel_rfl) rfl #[.agg #[.int .i64 ((rd_T31 l0_2 x3_1).f0), .int .i64 ((rd_T31 l0_2 x3_1).f1)]] rfl sqA ?_; (with_reducible refine (spec_FractionOk.calls k1 ((rd_T31 l0_2 x3_1).f0) ((rd_T31 l0_2 x3_1).f1) false _ A5.out).mono ?_); rintro e w10 ⟨rfl, hb⟩; refine ⟨_, rfl, ?_⟩; replace BK276 := sqT BK276 hb; replace HB := sqS (sqB1 HB GE276) hb; (try clear hb)))
      go_ret
      exact ⟨Z4, sqB1 HB GE276⟩
    ·rw [if_neg c4] at H
     exact absurd H (by simp)
   ·rw [if_neg c3] at H
    have c3b0 : decide (x3_1 < (l0_2.length : Int)) = false := decide_eq_false c3
    clear c3
    obtain ⟨t279, A11, H⟩ := sqD H
    by_cases c12 : t279 = true
    ·subst c12
     have H1 : (some (decide ((l0_2.length : Int) ≤ 8))) = some r := by rw [if_pos rfl] at H; exact H
     clear H
     have H := H1
     clear H1
     obtain rfl := Option.some.inj H
     obtain ⟨hcz13_0, hcz13_1, hcz13_2, hfz13_0, hfz13_1, hfz13_2⟩ := sqY3 BK276
     go_wp2_with (first | ((with_reducible refine gate_callee (f := 77) rfl ?_); refine goesL_ (some 20) rfl rfl Tryz.func77 (by kernel_rfl) rfl #[.agg #[.int .i64 a0_0, .int .i64 a0_1]] rfl sqA ?_; (with_reducible refine (spec_FractionOk.calls k1 a0_0 a0_1 true _ A11.out).mono ?_); rintro e w14 ⟨rfl, hb⟩; refine ⟨_, rfl, ?_⟩; replace BK276 := sqT BK276 hb; replace HB := sqS (sqB1 HB GE276) hb; (try clear hb); obtain ⟨hcz15_0, hcz15_1, hcz15_2, hfz15_0, hfz15_1, hfz15_2⟩ := sqY3 BK276))
     go_ret
     exact ⟨Z4, sqB1 HB GE276⟩
    ·replace c12 := Bool.eq_false_iff.mpr c12
     subst c12
     have H1 : (some false) = some r := by rw [if_neg (show ¬ (false = true) by decide)] at H; exact H
     clear H
     have H := H1
     clear H1
     obtain rfl := Option.some.inj H
     obtain ⟨hcz16_0, hcz16_1, hcz16_2, hfz16_0, hfz16_1, hfz16_2⟩ := sqY3 BK276
     go_wp2_with (first | ((with_reducible refine gate_callee (f := 77) rfl ?_); refine goesL_ (some 20) rfl rfl Tryz.func77 (by kernel_rfl) rfl #[.agg #[.int .i64 a0_0, .int .i64 a0_1]] rfl sqA ?_; (with_reducible refine (spec_FractionOk.calls k1 a0_0 a0_1 false _ A11.out).mono ?_); rintro e w17 ⟨rfl, hb⟩; refine ⟨_, rfl, ?_⟩; replace BK276 := sqT BK276 hb; replace HB := sqS (sqB1 HB GE276) hb; (try clear hb)))
     go_ret
     exact ⟨Z4, sqB1 HB GE276⟩

/-! ### spec_l11Copy: function 56 -/
def spec_l11Copy.f (a0_0 : Int) (a0_1 : Int) (l0_2 : List (S31)) : Option (Int × Int × (List (S31))) := (some (([] : List (S31)) : List (S31))).bind fun y282 => (if y282.length + l0_2.length < 8796093022208 then (some (a0_0, a0_1, (y282 ++ l0_2))) else (none))
def spec_l11Copy.T1 : Bool × List (List Nat × List Nat) := (true, [([], []), ([0], [0]), ([], []), ([], []), ([3], [3]), ([2, 4], [2, 4]), ([1, 5], [1, 5]), ([6, 5, 0, 1, 2, 3, 4, 5, 6], [6])])
def spec_l11Copy.B1 : List Nat := [0, 1, 0, 0, 8, 28, 63, 127]
theorem spec_l11Copy.tab1 : rtab .any (opsOf Tryz.f56 1) = spec_l11Copy.T1 := by kernel_rfl
theorem spec_l11Copy.bits1 : waitsOk spec_l11Copy.T1.2 spec_l11Copy.B1 = true := by kernel_rfl
set_option maxHeartbeats 8000000 in
set_option maxRecDepth 100000 in
theorem spec_l11Copy.calls (a0_0 : Int) (a0_1 : Int) (A0_2 : Option Addr) (c0_2 : Nat) (l0_2 : List (S31)) (r1 : Int) (r2 : Int) (r3 : List (S31)) (w : World) (hr0_2 : Kd.C k31 w A0_2 l0_2.length l0_2) (hc0_2 : l0_2.length ≤ c0_2) (h : spec_l11Copy.f a0_0 a0_1 l0_2 = some (r1, r2, r3)) :
  Calls Tryz.prog 56 #[.agg #[.int .i64 a0_0, .int .i64 a0_1, .slice A0_2 l0_2.length c0_2]] w fun e w' => ∃ v2_ : Value, e = .returned (.agg #[.int .i64 r1, .int .i64 r2, v2_]) ∧ Kd.R k31 31 w' w.heap.size (fun _ => True) v2_ r3 ∧ Below w.heap.size w w' := by
 have hu34 := Tryz.underlying34
 have hu31 := Tryz.underlying31
 have HR0_2 := Aside0.mk hr0_2
 have HC0_2 := Aside0.mk hc0_2
 clear hr0_2 hc0_2
 have HB := Aside0.mk (Below.refl w.heap.size w)
 have H : ((some (([] : List (S31)) : List (S31))).bind fun y282 => (if y282.length + l0_2.length < 8796093022208 then (some (a0_0, a0_1, (y282 ++ l0_2))) else (none))) = some (r1, r2, r3) := h
 clear h
 obtain ⟨y282, hy282⟩ : ∃ y_ : List (S31), y_ = (([] : List (S31))) := ⟨_, rfl⟩
 replace H : (if y282.length + l0_2.length < 8796093022208 then (some (a0_0, a0_1, (y282 ++ l0_2))) else (none)) = some (r1, r2, r3) := by first | (rw [hy282]; with_reducible exact H) | (have H2_ := (Option.bind_some _ _).symm.trans H; rw [hy282]; with_reducible exact H2_) | (have H2_ := (Option.bind_some _ _).symm.trans H; with_reducible exact H2_) | with_reducible exact H | (rw [hy282]; exact H) | exact H
 have Ny282 := Aside0.mk hy282
 clear hy282
 by_cases c2 : y282.length + l0_2.length < 8796093022208
 ·rw [if_pos c2] at H
  have LMc2 := Aside0.mk c2
  clear c2
  obtain ⟨y285, hy285⟩ : ∃ y_ : List (S31), y_ = (y282 ++ l0_2) := ⟨_, rfl⟩
  replace H : (some (a0_0, a0_1, y285)) = some (r1, r2, r3) := by first | (rw [hy285]; with_reducible exact H) | (have H2_ := (Option.bind_some _ _).symm.trans H; rw [hy285]; with_reducible exact H2_) | (have H2_ := (Option.bind_some _ _).symm.trans H; with_reducible exact H2_) | with_reducible exact H | (rw [hy285]; exact H) | exact H
  have Ny285 := Aside0.mk hy285
  clear hy285
  simp only [Option.some.injEq, Prod.mk.injEq] at H
  obtain ⟨rfl, rfl, rfl⟩ := H
  go_enter Tryz.func56, Tryz.ntmps56
  try go_wp2_with (first | ((with_reducible refine gate_dst (N := 1) rfl ?_); refine sqBox (N := 1) (cs := #[.int .i64 a0_0, .int .i64 a0_1, .slice A0_2 l0_2.length c0_2]) (t := 34) ?_; intro gb280 hg w3 BK280 hb; have GW280 := Aside0.mk ((sqG hg (sqB HB))); have GE280 := GW280; replace HB := sqS (sqB HB) hb; clear hb hg) | ((with_reducible refine gate_dst (N := 2) rfl ?_); refine sqBox (N := 2) (cs := #[.int .i64 0, .int .i64 0, .slice none 0 0]) (t := 34) ?_; intro gb281 hg w4 BK281 hb; have GW281 := Aside0.mk ((sqG hg (sqB1 HB GE280))); have GE281 := GW281; replace HB := sqS (sqB1 HB GE280) hb; obtain ⟨NB280_281, NB281_280⟩ := sqM hg BK280; replace BK280 := sqT BK280 hb; clear hb hg))
  replace BK280 := Aside0.mk (blk_drew BK280.out)
  replace BK281 := Aside0.mk (blk_drew BK281.out)
  replace HB := Aside0.mk (below_drew1 HB.out)
  refine start_ (n := 8) (S := fun w' => w'.cell? ⟨gb280, 0, none⟩ = some (.int .i64 a0_0) ∧ w'.cell? ⟨gb280, 1, none⟩ = some (.int .i64 a0_1) ∧ w'.cell? ⟨gb280, 2, none⟩ = some (.slice A0_2 l0_2.length c0_2)) (ds := []) #[false, false, false, false, false, false, false, false] (by kernel_rfl) rfl rfl ⟨(blk_cell BK280.out 0).trans rfl, (blk_cell BK280.out 1).trans rfl, (blk_cell BK280.out 2).trans rfl⟩ (fun hHeld => ?_); refine with_tabW spec_l11Copy.tab1 spec_l11Copy.bits1 (fun HT_ HW_ => ?_)
  generalize w4.drew = w5 at BK280 BK281 HB hHeld ⊢
  refine sqP (i := 0) (N := some 3) (h := ?_)
  refine sqP (i := 3) (N := some 6) (h := ?_)
  refine take_ (i := 1) (N := some 4) (v := ?_) (a' := ?_) #[true, true, false, true, false, false, false, false] rfl rfl (take_ofW HT_.out HW_.out (by kernel_rfl)) (fun _ _ _ h => h) (Or.inl ⟨by rfl, ?_⟩) hHeld ?_ ?_
  rotate_left
  ·rintro w' ⟨s0, s1, s2⟩
   go_simp
   with_reducible rfl
  rotate_left
  ·simp only [Act.put, List.setIfInBounds_toArray, List.set_cons_zero, List.set_cons_succ, i64_w, i32_w]
   rfl
  refine take_ (i := 4) (N := some 7) (v := ?_) (a' := ?_) #[true, true, false, true, true, false, false, false] rfl rfl (take_ofW HT_.out HW_.out (by kernel_rfl)) (fun _ _ _ h => h) (Or.inl ⟨by rfl, ?_⟩) hHeld ?_ ?_
  rotate_left
  ·rintro w' ⟨s0, s1, s2⟩
   go_simp
   with_reducible rfl
  rotate_left
  ·simp only [Act.put, List.setIfInBounds_toArray, List.set_cons_zero, List.set_cons_succ, i64_w, i32_w]
   rfl
  refine one_ (i := 2) (N := some 5) #[true, true, true, true, true, false, false, false] rfl rfl (one_of HT_.out (by kernel_rfl)) (by decide) (fun K hK => ?_)
  refine Kd.R_lit_step k31 _ 31 ?hg (N := 5) ?hd (xs := ([] : List (S31))) (inner := []) (ok := fun _ => True) (okp := fun _ => True) ?hr ?hp (fun _ hk => hk) trivial (Below.refl _ _) (Nat.le_refl _) (by simp) ?_; (case hd => rfl); (case hg => rfl); (case hr => exact Z11); (case hp => exact (Reps.none _ _))
  intro v283 w6 ho7 hb hg_ hnew_
  clear hg_ hnew_
  (first | rw [← Ny282.out] at ho7 | (simp only [Int.reduceToNat] at ho7; rw [← Ny282.out] at ho7))
  have HO284 := sqL ho7 (sqB2 HB GE280 GE281)
  replace BK280 := sqT BK280 hb
  replace BK281 := sqT BK281 hb
  replace HB := sqS (sqB2 HB GE280 GE281) hb
  clear hb ho7
  refine hK.out _ _ ⟨(blk_cell BK280.out 0).trans rfl, (blk_cell BK280.out 1).trans rfl, (blk_cell BK280.out 2).trans rfl⟩ (fun hHeld => ?_)
  clear hK K
  refine sqN (some 5) ?_
  refine one_ (i := 5) (N := some 8) #[true, true, true, true, true, true, false, false] rfl rfl (one_of HT_.out (by kernel_rfl)) (by decide) (fun K hK => ?_)
  refine Kd.R_append_rows_step k31 (w0 := w) w.heap.size (by rfl) (.tmp 5) (.tmp 7) 32 31 (.agg #[(.int .i64 0), (.int .i64 0)]) 16 rfl Tryz.underlying32 info31 rfl (by decide) (by omega) v283 y282 l0_2 _ _ _ (fun _ => True) (fun _ => False) rfl rfl ?aO ?aR (fun _ _ h => h) (fun _ h => h.elim) ?aF ?aB ?aS ?aL ?_
  (case aR => exact Z27)
  (case aB => exact (sqB2 HB GE280 GE281))
  (case aF => exact (fun _ _ => trivial))
  (case aO => exact (sqR HO284))
  (case aS => exact (below_size (sqB2 HB GE280 GE281)))
  (case aL => exact Z9 LMc2)
  intro v286 w8 ho hb hg hat
  rw [← Ny285.out] at ho
  replace BK280 := Aside0.mk (blk_grown (sqK BK280) hg (Kd.R_ne HO284.out BK280.out (by decide)))
  replace BK281 := Aside0.mk (blk_grown (sqK BK281) hg (Kd.R_ne HO284.out BK281.out (by decide)))
  replace HB := Aside0.mk (hb)
  have HO287 := Aside0.mk (ho)
  clear HO284
  clear ho hb hg hat
  obtain ⟨Ao9, co9, eo9⟩ := Kd.R_slice HO287.out
  (first | subst eo9 | (injection eo9 with f1_ f2_ f3_; have f4_ := f1_.symm; have f5_ := f3_.symm; clear f1_ f2_ f3_; subst f4_; subst f5_))
  refine hK.out _ _ ⟨(blk_cell BK280.out 0).trans rfl, (blk_cell BK280.out 1).trans rfl, (blk_cell BK280.out 2).trans rfl⟩ (fun hHeld => ?_)
  clear hK K
  refine sqN (some 8) ?_
  refine sqP (i := 6) (N := some 9) (h := ?_)
  refine one_ (i := 7) (N := none) #[true, true, true, true, true, true, true, true] rfl rfl (one_of HT_.out (by kernel_rfl)) (by decide) (fun K hK => ?_)
  have hs10 : w8.cell? ⟨gb281, 0, none⟩ = some (.int .i64 0) := (blk_cell BK281.out 0).trans rfl
  have hfs10 := blk_frozen BK281.out 0
  have hns10_0 := NB280_281.out
  have hms10_0 := NB281_280.out
  have hs11 : w8.cell? ⟨gb281, 1, none⟩ = some (.int .i64 0) := (blk_cell BK281.out 1).trans rfl
  have hfs11 := blk_frozen BK281.out 1
  have hns11_0 := NB280_281.out
  have hms11_0 := NB281_280.out
  have hs12 : w8.cell? ⟨gb281, 2, none⟩ = some (.slice none 0 0) := (blk_cell BK281.out 2).trans rfl
  have hfs12 := blk_frozen BK281.out 2
  have hns12_0 := NB280_281.out
  have hms12_0 := NB281_280.out
  refine skip_ (w1 := ?_) (by rfl) rfl ?_ ?_
  rotate_left
  ·go_simp
   rfl
  refine hK.out _ _ ⟨((cell_far (p := ⟨gb281, _, none⟩) NB280_281.out _).trans (((cell_far (p := ⟨gb281, _, none⟩) NB280_281.out _).trans (((cell_far (p := ⟨gb281, _, none⟩) NB280_281.out _).trans (hHeld.1)))))), ((cell_far (p := ⟨gb281, _, none⟩) NB280_281.out _).trans (((cell_far (p := ⟨gb281, _, none⟩) NB280_281.out _).trans (((cell_far (p := ⟨gb281, _, none⟩) NB280_281.out _).trans (hHeld.2.1)))))), ((cell_far (p := ⟨gb281, _, none⟩) NB280_281.out _).trans (((cell_far (p := ⟨gb281, _, none⟩) NB280_281.out _).trans (((cell_far (p := ⟨gb281, _, none⟩) NB280_281.out _).trans (hHeld.2.2))))))⟩ (fun hHeld => ?_)
  clear hK K
  refine done_ (done_of HT_.out (by kernel_rfl)) ?_
  try go_wp2
  refine bodyPost_ret (results_cell_row rfl _ _ gb281 34 #[.int .i64 a0_0, .int .i64 a0_1, .slice Ao9 y285.length co9] (0, 0) _ rfl (Z49 BK281) Tryz.underlying34 rfl (by kernel_rfl)) rfl ?_
  exact ⟨_, Z4, by (with_reducible repeat (first | apply Kd.R_alloc | apply Kd.R_drewN | apply Kd.R_drew)); exact Kd.R_mono (Kd.R_far (p := ⟨gb281, 2, none⟩) (Kd.R_far (p := ⟨gb281, 1, none⟩) (Kd.R_far (p := ⟨gb281, 0, none⟩) (Kd.R_types HO287.out BK281.out (by decide)) (fun _ hk => hk.2) (.int .i64 a0_0)) (fun _ hk => hk.2) (.int .i64 a0_1)) (fun _ hk => hk.2) (.slice Ao9 y285.length co9)) (fun _ hk => trivial), sqB2 HB GE280 GE281⟩
 ·rw [if_neg c2] at H
  exact absurd H (by simp)

end Go.Proofs.YtofmlbgfcohhoaaGreatDoor.PFnExactDeskRun
