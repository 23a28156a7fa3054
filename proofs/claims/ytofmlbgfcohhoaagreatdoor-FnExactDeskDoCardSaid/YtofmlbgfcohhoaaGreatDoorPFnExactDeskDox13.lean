/- Lean functions of the Go functions that the law FnExactDeskDo reaches, each with its contract: made by a program of this session. -/
import Derived.Test.YtofmlbgfcohhoaaGreatDoorPFnExactDeskDox0
import Derived.Test.YtofmlbgfcohhoaaGreatDoorPFnExactDeskDox1
import Derived.Test.YtofmlbgfcohhoaaGreatDoorPFnExactDeskDox2
import Derived.Test.YtofmlbgfcohhoaaGreatDoorPFnExactDeskDox10
import Derived.Test.YtofmlbgfcohhoaaGreatDoorPFnExactDeskDox12
namespace Go.Proofs.YtofmlbgfcohhoaaGreatDoor.PFnExactDeskDo
open Go.RowKit Go.Proofs.YtofmlbgfcohhoaaGreatDoorW.PrintWords Go.Proofs.YtofmlbgfcohhoaaGreatDoorW.PrintLast Go.Proofs.YtofmlbgfcohhoaaGreatDoorW.PrintMore Go.Proofs.YtofmlbgfcohhoaaGreatDoor.Lib
attribute [local go_sem] max2_int min2_int max_two min_two max_three min_three max_four min_four   -- for this text's walks alone
set_option linter.unusedVariables false
set_option linter.unusedSimpArgs false

attribute [local go_sem high] eqA31 eqA38
/-! ### impl_deskDo: function 61 -/
def impl_deskDo.j0 : Nat → Bool → Int → Int → List (S31) → Int → Int → Option (Int × Int × (List (S31)) × Bool)
 | 0, _, _, _, _, _, _ => none
 | k + 1, x48, x357000, x357001, x357002, x371000, x371001 => if x48 = true then (some (x357000, x357001, x357002, false)) else (if x357002.length < 8796093022208 then ((some (x357002 ++ [(⟨x357000, x357001⟩ : S31)] : List (S31))).bind fun y371 => (if (y371.length : Int) > 8 then (if 1 ≤ (y371.length : Int) then ((impl_copyDesk.f x371000 x371001 (y371.drop (1 : Int).toNat)).bind fun bt377 => (some (bt377.1, bt377.2.1, bt377.2.2, true))) else (none)) else ((impl_copyDesk.f x371000 x371001 y371).bind fun bt382 => (some (bt382.1, bt382.2.1, bt382.2.2, true))))) else (none))
def impl_deskDo.f (k : Nat) (a0_0 : Int) (a0_1 : Int) (l0_2 : List (S31)) (a1_0 : Int) (a1_1 : ByteArray) : Option (Int × Int × (List (S31)) × Bool) := (impl_copyDesk.f a0_0 a0_1 l0_2).bind fun bt351 => (if (a1_0 == 4 && (a1_1.toList == ([] : List UInt8))) = true then (if (wrap64 ((bt351.2.2.length : Int) - 1)) < 0 then (some (bt351.1, bt351.2.1, bt351.2.2, false)) else (if 0 ≤ (wrap64 ((bt351.2.2.length : Int) - 1)) then (if (wrap64 ((bt351.2.2.length : Int) - 1)) < (bt351.2.2.length : Int) then (if (wrap64 ((bt351.2.2.length : Int) - 1)) ≤ (bt351.2.2.length : Int) then ((impl_copyDesk.f ((rd_T31 bt351.2.2 (wrap64 ((bt351.2.2.length : Int) - 1))).f0) ((rd_T31 bt351.2.2 (wrap64 ((bt351.2.2.length : Int) - 1))).f1) (bt351.2.2.take ((wrap64 ((bt351.2.2.length : Int) - 1)) : Int).toNat)).bind fun bt362 => (some (bt362.1, bt362.2.1, bt362.2.2, true))) else (none)) else (none)) else (none))) else ((impl_nextFraction.f k a0_0 a0_1 a1_0 a1_1).bind fun bt367 => (if bt367.2.2 = true then (impl_deskDo.j0 k (bt367.1 == a0_0 && (bt367.2.1 == a0_1)) bt351.1 bt351.2.1 bt351.2.2 bt367.1 bt367.2.1) else (impl_deskDo.j0 k true bt351.1 bt351.2.1 bt351.2.2 bt367.1 bt367.2.1))))
theorem impl_deskDo.mono_l : ∀ k, (∀ y0 y1 y2 y3 y4 y5, LeO (impl_deskDo.j0 k y0 y1 y2 y3 y4 y5) (impl_deskDo.j0 (k + 1) y0 y1 y2 y3 y4 y5))
 | 0 => fun _ _ _ _ _ _ r h => by simp [impl_deskDo.j0] at h
 | k + 1 => by
  have ih0 := impl_deskDo.mono_l k
  ·intro y0 y1 y2 y3 y4 y5
   unfold impl_deskDo.j0
   repeat' first
   | (with_reducible exact ih0 _ _ _ _ _ _)
   | (with_reducible exact impl_nextFraction.mono _ _ _ _ _)
   | (with_reducible exact LeO.refl _)
   | (with_reducible exact LeO.none _)
   | (with_reducible refine LeO.ite ?_ ?_)
   | (with_reducible refine LeO.bind ?_ (fun _ => ?_))
theorem impl_deskDo.mono : ∀ a0 a1 a2 a3 a4 k, LeO (impl_deskDo.f k a0 a1 a2 a3 a4) (impl_deskDo.f (k + 1) a0 a1 a2 a3 a4) := by
 intro a0 a1 a2 a3 a4 k
 have ih0 := impl_deskDo.mono_l k
 unfold impl_deskDo.f
 repeat' first
   | (with_reducible exact ih0 _ _ _ _ _ _)
   | (with_reducible exact impl_nextFraction.mono _ _ _ _ _)
   | (with_reducible exact LeO.refl _)
   | (with_reducible exact LeO.none _)
   | (with_reducible refine LeO.ite ?_ ?_)
   | (with_reducible refine LeO.bind ?_ (fun _ => ?_))
def impl_deskDo.T6 : Bool × List (List Nat × List Nat) := (true, [([], []), ([0], [0]), ([], []), ([1, 2], [1, 2]), ([3], [3]), ([], []), ([5], [5]), ([], []), ([6, 7], [6, 7]), ([4, 8], [4, 8]), ([9], [9]), ([10, 10, 0, 1, 2, 3, 4, 5, 6, 7, 8, 9, 10], [10]), ([11, 0, 1, 2, 3, 4, 5, 6, 7, 8, 9, 10, 11], [])])
def impl_deskDo.B6 : List Nat := [0, 1, 0, 7, 15, 0, 32, 0, 224, 511, 1023, 2047, 4095]
theorem impl_deskDo.tab6 : rtab .any (opsOf Tryz.f61 6) = impl_deskDo.T6 := by kernel_rfl
theorem impl_deskDo.bits6 : waitsOk impl_deskDo.T6.2 impl_deskDo.B6 = true := by kernel_rfl
set_option maxHeartbeats 8000000 in
set_option maxRecDepth 100000 in
theorem impl_deskDo.calls (k : Nat) (a0_0 : Int) (a0_1 : Int) (A0_2 : Option Addr) (c0_2 : Nat) (l0_2 : List (S31)) (a1_0 : Int) (a1_1 : ByteArray) (r1 : Int) (r2 : Int) (r3 : List (S31)) (r4 : Bool) (w : World) (hG : Glob w) (hr0_2 : Kd.C k31 w A0_2 l0_2.length l0_2) (hc0_2 : l0_2.length ≤ c0_2) (h : impl_deskDo.f k a0_0 a0_1 l0_2 a1_0 a1_1 = some (r1, r2, r3, r4)) :
  Calls Tryz.prog 61 #[.agg #[.int .i64 a0_0, .int .i64 a0_1, .slice A0_2 l0_2.length c0_2], .agg #[.int .i64 a1_0, .string a1_1]] w fun e w' => ∃ v2_ : Value, e = .returned (.tuple #[.agg #[.int .i64 r1, .int .i64 r2, v2_], .bool r4]) ∧ Kd.R k31 31 w' w.heap.size (fun _ => True) v2_ r3 ∧ Below w.heap.size w w' := by
 have hu34 := Tryz.underlying34
 have hu38 := Tryz.underlying38
 have hu31 := Tryz.underlying31
 have HR0_2 := Aside0.mk hr0_2
 have HC0_2 := Aside0.mk hc0_2
 clear hr0_2 hc0_2
 have HB := Aside0.mk (Below.refl w.heap.size w)
 have H : ((impl_copyDesk.f a0_0 a0_1 l0_2).bind fun bt351 => (if (a1_0 == 4 && (a1_1.toList == ([] : List UInt8))) = true then (if (wrap64 ((bt351.2.2.length : Int) - 1)) < 0 then (some (bt351.1, bt351.2.1, bt351.2.2, false)) else (if 0 ≤ (wrap64 ((bt351.2.2.length : Int) - 1)) then (if (wrap64 ((bt351.2.2.length : Int) - 1)) < (bt351.2.2.length : Int) then (if (wrap64 ((bt351.2.2.length : Int) - 1)) ≤ (bt351.2.2.length : Int) then ((impl_copyDesk.f ((rd_T31 bt351.2.2 (wrap64 ((bt351.2.2.length : Int) - 1))).f0) ((rd_T31 bt351.2.2 (wrap64 ((bt351.2.2.length : Int) - 1))).f1) (bt351.2.2.take ((wrap64 ((bt351.2.2.length : Int) - 1)) : Int).toNat)).bind fun bt362 => (some (bt362.1, bt362.2.1, bt362.2.2, true))) else (none)) else (none)) else (none))) else ((impl_nextFraction.f k a0_0 a0_1 a1_0 a1_1).bind fun bt367 => (if bt367.2.2 = true then (impl_deskDo.j0 k (bt367.1 == a0_0 && (bt367.2.1 == a0_1)) bt351.1 bt351.2.1 bt351.2.2 bt367.1 bt367.2.1) else (impl_deskDo.j0 k true bt351.1 bt351.2.1 bt351.2.2 bt367.1 bt367.2.1))))) = some (r1, r2, r3, r4) := h
 clear h
 replace H := Option.bind_eq_some_iff.mp H
 obtain ⟨⟨t351, t352, t353⟩, A30, H⟩ := H
 replace H : (if (a1_0 == 4 && (a1_1.toList == ([] : List UInt8))) = true then (if (wrap64 ((t353.length : Int) - 1)) < 0 then (some (t351, t352, t353, false)) else (if 0 ≤ (wrap64 ((t353.length : Int) - 1)) then (if (wrap64 ((t353.length : Int) - 1)) < (t353.length : Int) then (if (wrap64 ((t353.length : Int) - 1)) ≤ (t353.length : Int) then ((impl_copyDesk.f ((rd_T31 t353 (wrap64 ((t353.length : Int) - 1))).f0) ((rd_T31 t353 (wrap64 ((t353.length : Int) - 1))).f1) (t353.take ((wrap64 ((t353.length : Int) - 1)) : Int).toNat)).bind fun bt362 => (some (bt362.1, bt362.2.1, bt362.2.2, true))) else (none)) else (none)) else (none))) else ((impl_nextFraction.f k a0_0 a0_1 a1_0 a1_1).bind fun bt367 => (if bt367.2.2 = true then (impl_deskDo.j0 k (bt367.1 == a0_0 && (bt367.2.1 == a0_1)) t351 t352 t353 bt367.1 bt367.2.1) else (impl_deskDo.j0 k true t351 t352 t353 bt367.1 bt367.2.1)))) = some (r1, r2, r3, r4) := H
 have A3 := Aside0.mk A30
 clear A30
 by_cases c4 : (a1_0 == 4 && (a1_1.toList == ([] : List UInt8))) = true
 ·rw [if_pos c4] at H
  have c4b0 : (a1_0 == 4 && (a1_1.toList == ([] : List UInt8))) = true := c4
  try have c4b8 : (a1_0 == 4 && a1_1.toList.isEmpty) = true := by (have h_ := c4b0; (repeat rw [show ∀ z : List UInt8, (z == ([] : List UInt8)) = z.isEmpty from fun z => by cases z <;> rfl] at h_); exact h_)
  (try (have c4b1 : decide (a1_0 = 4 && (a1_1.toList == ([] : List UInt8))) = true := by simpa using c4))
  (try (have c4b2 : (a1_0 == 4 && (a1_1.toList == ([] : List UInt8))) = true := by simpa using c4))
  clear c4
  by_cases c5 : (wrap64 ((t353.length : Int) - 1)) < 0
  ·rw [if_pos c5] at H
   have c5b0 : decide ((wrap64 ((t353.length : Int) - 1)) < 0) = true := decide_eq_true c5
   clear c5
   simp only [Option.some.injEq, Prod.mk.injEq] at H
   obtain ⟨rfl, rfl, rfl, rfl⟩ := H
   go_enter Tryz.func61, Tryz.ntmps61
   go_wp2_with (first | ((with_reducible refine gate_dst (N := 2) rfl ?_); refine sqBox (N := 2) (cs := #[.int .i64 a0_0, .int .i64 a0_1, .slice A0_2 l0_2.length c0_2]) (t := 34) ?_; intro gb348 hg w6 BK348 hb; have GW348 := Aside0.mk ((sqG hg (sqB HB))); have GE348 := GW348; replace HB := sqS (sqB HB) hb; clear hb hg) | ((with_reducible refine gate_dst (N := 3) rfl ?_); refine sqBox (N := 3) (cs := #[.int .i64 a1_0, .string a1_1]) (t := 38) ?_; intro gb349 hg w7 BK349 hb; have GW349 := Aside0.mk ((sqG hg (sqB1 HB GE348))); have GE349 := GW349; replace HB := sqS (sqB1 HB GE348) hb; obtain ⟨NB348_349, NB349_348⟩ := sqM hg BK348; replace BK348 := sqT BK348 hb; clear hb hg) | ((with_reducible refine gate_dst (N := 4) rfl ?_); refine sqBox (N := 4) (cs := #[.int .i64 0, .int .i64 0, .slice none 0 0]) (t := 34) ?_; intro gb350 hg w8 BK350 hb; have GW350 := Aside0.mk ((sqG hg (sqB2 HB GE348 GE349))); have GE350 := GW350; replace HB := sqS (sqB2 HB GE348 GE349) hb; obtain ⟨NB348_350, NB350_348⟩ := sqM hg BK348; replace BK348 := sqT BK348 hb; obtain ⟨NB349_350, NB350_349⟩ := sqM hg BK349; replace BK349 := sqT BK349 hb; clear hb hg; have hnb9 := NB348_349.out; have hnc9 := NB349_348.out; have hnb10 := NB348_350.out; have hnc10 := NB350_348.out; obtain ⟨hcz11_0, hcz11_1, hcz11_2, hfz11_0, hfz11_1, hfz11_2⟩ := sqY3 BK348) | ((with_reducible refine gate_callee (f := 76) rfl ?_); refine goesL_ (some 12) rfl rfl Tryz.func76 (by kernel_rfl) rfl #[.agg #[.int .i64 a0_0, .int .i64 a0_1, .slice A0_2 l0_2.length c0_2]] rfl sqA ?_; (with_reducible refine (impl_copyDesk.calls a0_0 a0_1 _ _ l0_2 t351 t352 t353 _ ?side1 ?side2 A3.out).mono ?_); (case side1 => exact Z5); (case side2 => exact Z6); rintro e w12 ⟨v354, rfl, ho0, hb⟩; refine ⟨_, rfl, ?_⟩; have HO355 := sqL ho0 (sqB3 HB GE348 GE349 GE350); replace BK348 := sqT BK348 hb; replace BK349 := sqT BK349 hb; replace BK350 := sqT BK350 hb; replace HB := sqS (sqB3 HB GE348 GE349 GE350) hb; (try clear hb); (try clear ho0)) | ((with_reducible refine gate_dst (N := 6) rfl ?_); refine sqBox (N := 6) (cs := #[.int .i64 0, .int .i64 0, .slice none 0 0]) (t := 34) ?_; intro gb356 hg w13 BK356 hb; replace HO355 := sqU HO355 hb; have GW356 := Aside0.mk ((sqG hg (sqB3 HB GE348 GE349 GE350))); have GE356 := GW356; replace HB := sqS (sqB3 HB GE348 GE349 GE350) hb; obtain ⟨NB348_356, NB356_348⟩ := sqM hg BK348; replace BK348 := sqT BK348 hb; obtain ⟨NB349_356, NB356_349⟩ := sqM hg BK349; replace BK349 := sqT BK349 hb; obtain ⟨NB350_356, NB356_350⟩ := sqM hg BK350; replace BK350 := sqT BK350 hb; clear hb hg; have hnb14 := NB356_348.out; have hnc14 := NB348_356.out; have hnb15 := NB356_349.out; have hnc15 := NB349_356.out; have hnb16 := NB356_350.out; have hnc16 := NB350_356.out; obtain ⟨hcz17_0, hcz17_1, hcz17_2, hfz17_0, hfz17_1, hfz17_2⟩ := sqY3 BK356; obtain ⟨Ao18, co18, eo18⟩ := Kd.R_slice HO355.out; subst eo18; have hnb19 := NB349_350.out; have hnc19 := NB350_349.out; obtain ⟨hcz20_0, hcz20_1, hfz20_0, hfz20_1⟩ := sqY2 BK349; obtain ⟨hcz21_0, hcz21_1, hcz21_2, hfz21_0, hfz21_1, hfz21_2⟩ := sqY3 BK350))
   refine bodyPost_ret (results_ct rfl _ _ gb350 34 #[.int .i64 t351, .int .i64 t352, .slice Ao18 t353.length co18] (0, 0) _ rfl (by refine sqPut (cs := #[.int .i64 t351, .int .i64 t352, .slice none 0 0]) ?_ 2; refine sqPut (cs := #[.int .i64 t351, .int .i64 0, .slice none 0 0]) ?_ 1; refine sqPut (cs := #[.int .i64 0, .int .i64 0, .slice none 0 0]) ?_ 0; refine sqFar ?_ NB350_356; refine sqFar ?_ NB350_356; refine sqFar ?_ NB350_356; exact sqK BK350) Tryz.underlying34 rfl (by kernel_rfl)) rfl ?_
   exact ⟨_, Z3, by (with_reducible repeat (first | apply Kd.R_alloc | apply Kd.R_drewN | apply Kd.R_drew)); exact Kd.R_mono (Kd.R_far (p := ⟨gb350, 2, none⟩) (Kd.R_far (p := ⟨gb350, 1, none⟩) (Kd.R_far (p := ⟨gb350, 0, none⟩) (Kd.R_far (p := ⟨gb356, 2, none⟩) (Kd.R_far (p := ⟨gb356, 1, none⟩) (Kd.R_far (p := ⟨gb356, 0, none⟩) (Kd.R_types (Kd.R_types HO355.out BK356.out (by decide)) BK350.out (by decide)) (fun _ hk => hk.1.2) (.int .i64 t351)) (fun _ hk => hk.1.2) (.int .i64 t352)) (fun _ hk => hk.1.2) (.slice Ao18 t353.length co18)) (fun _ hk => hk.2) (.int .i64 t351)) (fun _ hk => hk.2) (.int .i64 t352)) (fun _ hk => hk.2) (.slice Ao18 t353.length co18)) (fun _ hk => trivial), sqB4 HB GE348 GE349 GE350 GE356⟩
  ·rw [if_neg c5] at H
   have c5b0 : decide ((wrap64 ((t353.length : Int) - 1)) < 0) = false := decide_eq_false c5
   clear c5
   obtain ⟨ji22, hji22⟩ : ∃ j_ : Int, (wrap64 ((t353.length : Int) - 1)) = j_ := ⟨_, rfl⟩
   replace H : (if 0 ≤ (ji22) then (if (ji22) < (t353.length : Int) then (if (ji22) ≤ (t353.length : Int) then ((impl_copyDesk.f ((rd_T31 t353 (ji22)).f0) ((rd_T31 t353 (ji22)).f1) (t353.take ((ji22) : Int).toNat)).bind fun bt362 => (some (bt362.1, bt362.2.1, bt362.2.2, true))) else (none)) else (none)) else (none)) = some (r1, r2, r3, r4) := by first | (rw [hji22] at H; exact H) | (simp only [hji22] at H ⊢; exact H)
   (try rw [hji22] at c5b0)
   (try rw [hji22] at A3)
   have hji22w : (IntKind.i64.wrap ((t353.length : Int) - 1)) = ji22 := (i64_w _).trans hji22
   by_cases c23 : 0 ≤ (ji22)
   ·rw [if_pos c23] at H
    have c23b0 : decide (0 ≤ (ji22)) = true := decide_eq_true c23
    clear c23
    by_cases c24 : (ji22) < (t353.length : Int)
    ·rw [if_pos c24] at H
     have c24b0 : decide ((ji22) < (t353.length : Int)) = true := decide_eq_true c24
     clear c24
     have c25b0 := eq_true (of_decide_eq_true Z4 : 0 ≤ (ji22))
     by_cases c26 : (ji22) ≤ (t353.length : Int)
     ·rw [if_pos c26] at H
      have c26b0 := eq_true c26
      have c26b1 : decide ((ji22) ≤ (t353.length : Int)) = true := decide_eq_true c26
      clear c26
      obtain ⟨y358, hy358⟩ : ∃ y_ : List (S31), y_ = (t353.take ((ji22) : Int).toNat) := ⟨_, rfl⟩
      replace H : ((impl_copyDesk.f ((rd_T31 t353 (ji22)).f0) ((rd_T31 t353 (ji22)).f1) y358).bind fun bt362 => (some (bt362.1, bt362.2.1, bt362.2.2, true))) = some (r1, r2, r3, r4) := by first | (rw [hy358]; with_reducible exact H) | (have H2_ := (Option.bind_some _ _).symm.trans H; rw [hy358]; with_reducible exact H2_) | (have H2_ := (Option.bind_some _ _).symm.trans H; with_reducible exact H2_) | with_reducible exact H | (rw [hy358]; exact H) | exact H
      have Ny358 := Aside0.mk hy358
      clear hy358
      replace H := Option.bind_eq_some_iff.mp H
      obtain ⟨⟨t362, t363, t364⟩, A270, H⟩ := H
      replace H : (some (t362, t363, t364, true)) = some (r1, r2, r3, r4) := H
      have A27 := Aside0.mk A270
      clear A270
      simp only [Option.some.injEq, Prod.mk.injEq] at H
      obtain ⟨rfl, rfl, rfl, rfl⟩ := H
      go_enter Tryz.func61, Tryz.ntmps61
      try go_wp2_with (first | ((with_reducible refine gate_dst (N := 2) rfl ?_); refine sqBox (N := 2) (cs := #[.int .i64 a0_0, .int .i64 a0_1, .slice A0_2 l0_2.length c0_2]) (t := 34) ?_; intro gb348 hg w28 BK348 hb; have GW348 := Aside0.mk ((sqG hg (sqB HB))); have GE348 := GW348; replace HB := sqS (sqB HB) hb; clear hb hg) | ((with_reducible refine gate_dst (N := 3) rfl ?_); refine sqBox (N := 3) (cs := #[.int .i64 a1_0, .string a1_1]) (t := 38) ?_; intro gb349 hg w29 BK349 hb; have GW349 := Aside0.mk ((sqG hg (sqB1 HB GE348))); have GE349 := GW349; replace HB := sqS (sqB1 HB GE348) hb; obtain ⟨NB348_349, NB349_348⟩ := sqM hg BK348; replace BK348 := sqT BK348 hb; clear hb hg) | ((with_reducible refine gate_dst (N := 4) rfl ?_); refine sqBox (N := 4) (cs := #[.int .i64 0, .int .i64 0, .slice none 0 0]) (t := 34) ?_; intro gb350 hg w30 BK350 hb; have GW350 := Aside0.mk ((sqG hg (sqB2 HB GE348 GE349))); have GE350 := GW350; replace HB := sqS (sqB2 HB GE348 GE349) hb; obtain ⟨NB348_350, NB350_348⟩ := sqM hg BK348; replace BK348 := sqT BK348 hb; obtain ⟨NB349_350, NB350_349⟩ := sqM hg BK349; replace BK349 := sqT BK349 hb; clear hb hg; have hnb31 := NB348_349.out; have hnc31 := NB349_348.out; have hnb32 := NB348_350.out; have hnc32 := NB350_348.out; obtain ⟨hcz33_0, hcz33_1, hcz33_2, hfz33_0, hfz33_1, hfz33_2⟩ := sqY3 BK348) | ((with_reducible refine gate_callee (f := 76) rfl ?_); refine goesL_ (some 12) rfl rfl Tryz.func76 (by kernel_rfl) rfl #[.agg #[.int .i64 a0_0, .int .i64 a0_1, .slice A0_2 l0_2.length c0_2]] rfl sqA ?_; (with_reducible refine (impl_copyDesk.calls a0_0 a0_1 _ _ l0_2 t351 t352 t353 _ ?side1 ?side2 A3.out).mono ?_); (case side1 => exact Z5); (case side2 => exact Z6); rintro e w34 ⟨v354, rfl, ho0, hb⟩; refine ⟨_, rfl, ?_⟩; have HO355 := sqL ho0 (sqB3 HB GE348 GE349 GE350); replace BK348 := sqT BK348 hb; replace BK349 := sqT BK349 hb; replace BK350 := sqT BK350 hb; replace HB := sqS (sqB3 HB GE348 GE349 GE350) hb; (try clear hb); (try clear ho0)) | ((with_reducible refine gate_dst (N := 6) rfl ?_); refine sqBox (N := 6) (cs := #[.int .i64 0, .int .i64 0, .slice none 0 0]) (t := 34) ?_; intro gb356 hg w35 BK356 hb; replace HO355 := sqU HO355 hb; have GW356 := Aside0.mk ((sqG hg (sqB3 HB GE348 GE349 GE350))); have GE356 := GW356; replace HB := sqS (sqB3 HB GE348 GE349 GE350) hb; obtain ⟨NB348_356, NB356_348⟩ := sqM hg BK348; replace BK348 := sqT BK348 hb; obtain ⟨NB349_356, NB356_349⟩ := sqM hg BK349; replace BK349 := sqT BK349 hb; obtain ⟨NB350_356, NB356_350⟩ := sqM hg BK350; replace BK350 := sqT BK350 hb; clear hb hg; have hnb36 := NB356_348.out; have hnc36 := NB348_356.out; have hnb37 := NB356_349.out; have hnc37 := NB349_356.out; have hnb38 := NB356_350.out; have hnc38 := NB350_356.out; obtain ⟨hcz39_0, hcz39_1, hcz39_2, hfz39_0, hfz39_1, hfz39_2⟩ := sqY3 BK356; obtain ⟨Ao40, co40, eo40⟩ := Kd.R_slice HO355.out; subst eo40; have hnb41 := NB349_350.out; have hnc41 := NB350_349.out; obtain ⟨hcz42_0, hcz42_1, hfz42_0, hfz42_1⟩ := sqY2 BK349))
      have n0_ : Aside0 (Kd.R k31 31 (((w35.setCell ⟨gb356, 0, none⟩ (.int .i64 t351)).setCell ⟨gb356, 1, none⟩ (.int .i64 t352)).setCell ⟨gb356, 2, none⟩ (.slice Ao40 t353.length co40)) w.heap.size (fun _ => True) (.slice Ao40 t353.length co40) t353) := ⟨by (with_reducible repeat (first | apply Kd.R_alloc | apply Kd.R_drewN | apply Kd.R_drew)); exact Kd.R_mono (Kd.R_far (p := ⟨gb356, 2, none⟩) (Kd.R_far (p := ⟨gb356, 1, none⟩) (Kd.R_far (p := ⟨gb356, 0, none⟩) (Kd.R_types HO355.out BK356.out (by decide)) (fun _ hk => hk.2) (.int .i64 t351)) (fun _ hk => hk.2) (.int .i64 t352)) (fun _ hk => hk.2) (.slice Ao40 t353.length co40)) (fun _ hk => trivial)⟩
      have n1_ : Aside0 ((((w35.setCell ⟨gb356, 0, none⟩ (.int .i64 t351)).setCell ⟨gb356, 1, none⟩ (.int .i64 t352)).setCell ⟨gb356, 2, none⟩ (.slice Ao40 t353.length co40)).heap[gb348]? = some (.cells #[.int .i64 a0_0, .int .i64 a0_1, .slice A0_2 l0_2.length c0_2] 34 (0, 0))) := ⟨Z19 NB348_356 BK348⟩
      have n2_ : Aside0 ((((w35.setCell ⟨gb356, 0, none⟩ (.int .i64 t351)).setCell ⟨gb356, 1, none⟩ (.int .i64 t352)).setCell ⟨gb356, 2, none⟩ (.slice Ao40 t353.length co40)).heap[gb349]? = some (.cells #[.int .i64 a1_0, .string a1_1] 38 (0, 0))) := ⟨Z19 NB349_356 BK349⟩
      have n3_ : Aside0 ((((w35.setCell ⟨gb356, 0, none⟩ (.int .i64 t351)).setCell ⟨gb356, 1, none⟩ (.int .i64 t352)).setCell ⟨gb356, 2, none⟩ (.slice Ao40 t353.length co40)).heap[gb350]? = some (.cells #[.int .i64 0, .int .i64 0, .slice none 0 0] 34 (0, 0))) := ⟨Z19 NB350_356 BK350⟩
      have n4_ : Aside0 ((((w35.setCell ⟨gb356, 0, none⟩ (.int .i64 t351)).setCell ⟨gb356, 1, none⟩ (.int .i64 t352)).setCell ⟨gb356, 2, none⟩ (.slice Ao40 t353.length co40)).heap[gb356]? = some (.cells #[.int .i64 t351, .int .i64 t352, .slice Ao40 t353.length co40] 34 (0, 0))) := ⟨Z20 BK356⟩
      have n5_ : Aside0 (Below w.heap.size w (((w35.setCell ⟨gb356, 0, none⟩ (.int .i64 t351)).setCell ⟨gb356, 1, none⟩ (.int .i64 t352)).setCell ⟨gb356, 2, none⟩ (.slice Ao40 t353.length co40))) := ⟨sqB4 HB GE348 GE349 GE350 GE356⟩
      (try clear HO355)
      (try clear BK348)
      (try clear BK349)
      (try clear BK350)
      (try clear BK356)
      (try clear HB)
      generalize (((w35.setCell ⟨gb356, 0, none⟩ (.int .i64 t351)).setCell ⟨gb356, 1, none⟩ (.int .i64 t352)).setCell ⟨gb356, 2, none⟩ (.slice Ao40 t353.length co40)) = w43 at n0_ n1_ n2_ n3_ n4_ n5_ ⊢
      have HO355 := n0_
      have BK348 := n1_
      have BK349 := n2_
      have BK350 := n3_
      have BK356 := n4_
      have HB := n5_
      clear n0_ n1_ n2_ n3_ n4_ n5_
      replace HO355 := Aside0.mk (Kd.R_drew HO355.out)
      replace BK348 := Aside0.mk (blk_drew BK348.out)
      replace BK349 := Aside0.mk (blk_drew BK349.out)
      replace BK350 := Aside0.mk (blk_drew BK350.out)
      replace BK356 := Aside0.mk (blk_drew BK356.out)
      replace HB := Aside0.mk (below_drew1 HB.out)
      have p357 : 0 ≤ ((ji22) : Int) := of_decide_eq_true Z4
      have q357 : (ji22) < (t353.length : Int) := of_decide_eq_true Z4
      obtain ⟨ad357, e357, hx357_0, hx357_1⟩ := at_T31 (Kd.R_reads' HO355.out).2.2 (ji22) p357 q357
      cases e357
      replace p357 := eq_true p357
      replace q357 := eq_true q357
      have q45 : ((ji22) : Int) ≤ ((t353.length : Int) : Int) := of_decide_eq_true Z4
      obtain ⟨i045, hi045, _, hsz45, _⟩ := info_parts info31
      have hroom45 : t353.length ≤ co40 := (Kd.R_reads' HO355.out).2.1
      have hC45 : Kd.C k31 _ (some ad357) t353.length t353 := (Kd.R_reads' HO355.out).2.2
      have hcut45 := cut_to (P := Tryz.prog) 32 31 .i64 Tryz.underlying32 hi045 (some ad357) t353.length co40 (ji22) (of_decide_eq_true Z4) q45 hroom45
      have hr45 := Kd.C_take (m := ((ji22) : Int).toNat) hC45 (by omega)
      have hy45 : y358.length = ((ji22) : Int).toNat := (by rw [Ny358.out, List.length_take]; omega)
      rw [← Ny358.out] at hr45
      rw [← hy45] at hcut45
      have HR361 := Aside0.mk hr45
      have HC361 := Aside0.mk (show y358.length ≤ co40 from by omega)
      clear hr45 hC45 hroom45 hi045 hsz45
      have KY45 := Aside0.mk hy45
      clear hy45
      have KL45 := Aside0.mk (show ((ji22) : Int).toNat ≤ t353.length from by omega)
      replace q45 := eq_true q45
      refine start_ (n := 13) (S := fun w' => w'.cell? ⟨gb356, 0, none⟩ = some (.int .i64 t351) ∧ w'.cell? ⟨gb356, 1, none⟩ = some (.int .i64 t352) ∧ w'.cell? ⟨gb356, 2, none⟩ = some (.slice (some ad357) t353.length co40) ∧ w'.cell? (ad357.add (((ji22)).toNat * 2)) = some (.int .i64 ((rd_T31 t353 (ji22)).f0)) ∧ w'.cell? ⟨(ad357.add (((ji22)).toNat * 2)).block, (ad357.add (((ji22)).toNat * 2)).off + 1, none⟩ = some (.int .i64 ((rd_T31 t353 (ji22)).f1))) (ds := []) #[false, false, false, false, false, false, false, false, false, false, false, false, false] (by kernel_rfl) rfl rfl ⟨(blk_cell BK356.out 0).trans rfl, (blk_cell BK356.out 1).trans rfl, (blk_cell BK356.out 2).trans rfl, hx357_0, hx357_1⟩ (fun hHeld => ?_); refine with_tabW impl_deskDo.tab6 impl_deskDo.bits6 (fun HT_ HW_ => ?_)
      generalize w43.drew = w44 at HO355 BK348 BK349 BK350 BK356 HB HR361 hx357_0 hx357_1 hHeld ⊢
      refine sqP (i := 0) (N := some 23) (h := ?_)
      refine sqP (i := 2) (N := some 25) (h := ?_)
      refine sqP (i := 5) (N := some 28) (h := ?_)
      refine sqP (i := 7) (N := some 30) (h := ?_)
      refine take_ (i := 1) (N := some 24) (v := ?_) (a' := ?_) #[true, true, true, false, false, true, false, true, false, false, false, false, false] rfl rfl (take_ofW HT_.out HW_.out (by kernel_rfl)) (fun _ _ _ h => h) (Or.inl ⟨by rfl, ?_⟩) hHeld ?_ ?_
      rotate_left
      ·rintro w' ⟨s0, s1, s2, s3, s4⟩
       go_simp
       with_reducible rfl
      rotate_left
      ·simp only [Act.put, List.setIfInBounds_toArray, List.set_cons_zero, List.set_cons_succ, i64_w, i32_w]
       rfl
      refine sqP (i := 3) (N := some 26) (h := ?_)
      refine take_ (i := 4) (N := some 27) (v := ?_) (a' := ?_) #[true, true, true, true, true, true, false, true, false, false, false, false, false] rfl rfl (take_ofW HT_.out HW_.out (by kernel_rfl)) (fun _ _ _ h => h) (Or.inl ⟨by rfl, ?_⟩) hHeld ?_ ?_
      rotate_left
      ·rintro w' ⟨s0, s1, s2, s3, s4⟩
       go_simp
       with_reducible rfl
      rotate_left
      ·simp only [Act.put, List.setIfInBounds_toArray, List.set_cons_zero, List.set_cons_succ, i64_w, i32_w]
       rfl
      refine take_ (i := 6) (N := some 29) (v := ?_) (a' := ?_) #[true, true, true, true, true, true, true, true, false, false, false, false, false] rfl rfl (take_ofW HT_.out HW_.out (by kernel_rfl)) (fun _ _ _ h => h) (Or.inl ⟨by rfl, ?_⟩) hHeld ?_ ?_
      rotate_left
      ·rintro w' ⟨s0, s1, s2, s3, s4⟩
       go_simp
       with_reducible rfl
      rotate_left
      ·simp only [Act.put, List.setIfInBounds_toArray, List.set_cons_zero, List.set_cons_succ, i64_w, i32_w]
       rfl
      refine sqP (i := 8) (N := some 31) (h := ?_)
      refine sqP (i := 9) (N := some 32) (h := ?_)
      refine one_ (i := 10) (N := some 33) #[true, true, true, true, true, true, true, true, true, true, true, false, false] rfl rfl (one_of HT_.out (by kernel_rfl)) (by decide) (fun K hK => ?_)
      refine goes_ Tryz.func76 (by kernel_rfl) rfl #[.agg #[.int .i64 ((rd_T31 t353 (ji22)).f0), .int .i64 ((rd_T31 t353 (ji22)).f1), .slice (some ad357) y358.length co40]] (by rfl) rfl rfl (by (try simp only [List.map_toArray, List.map_cons, List.map_nil]); first | done | (simp only [hji22]; rfl) | rfl | (simp only [List.length_drop, List.length_take]; rfl)) ?_
      with_reducible refine (impl_copyDesk.calls ((rd_T31 t353 (ji22)).f0) ((rd_T31 t353 (ji22)).f1) _ _ y358 t362 t363 t364 _ ?side1 ?side2 A27.out).mono ?_
      (case side1 => repeat (first | exact (Z21 HR361) | (with_reducible refine Kd.C_alloc ?_ _) | (with_reducible refine Kd.C_drewN ?_ _) | (with_reducible refine Kd.C_drew ?_)))
      (case side2 => exact HC361.out)
      rintro e w46 ⟨v365, rfl, ho0, hb⟩
      have HS3_ := (hb.cell (World.block_lt_of_cell? _ _ (hHeld.2.2.2.1))).trans (hHeld.2.2.2.1)
      have HS4_ := (hb.cell (World.block_lt_of_cell? _ _ (hHeld.2.2.2.2))).trans (hHeld.2.2.2.2)
      refine ⟨_, rfl, ?_⟩
      have HO366 := Aside0.mk (Kd.R_lower (Kd.R_new' ho0 (Kd.R_lt (sqR HO355))) (below_size (sqB4 HB GE348 GE349 GE350 GE356)))
      replace HO355 := Aside0.mk (Kd.R_elder' (sqR HO355) (Kd.R_base ho0) hb)
      replace BK348 := sqT BK348 hb
      replace BK349 := sqT BK349 hb
      replace BK350 := sqT BK350 hb
      replace BK356 := sqT BK356 hb
      replace HR361 := Aside0.mk (Kd.C_below (Z21 HR361) hb)
      replace HB := sqS (sqB4 HB GE348 GE349 GE350 GE356) hb
      (try clear hb)
      (try clear hb2)
      (try clear hk)
      (try clear hi)
      (try clear ho0)
      obtain ⟨Ao49, co49, eo49⟩ := Kd.R_slice HO366.out
      (first | subst eo49 | (injection eo49 with f1_ f2_ f3_; have f4_ := f1_.symm; have f5_ := f3_.symm; clear f1_ f2_ f3_; subst f4_; subst f5_))
      refine hK.out _ _ ⟨(blk_cell BK356.out 0).trans rfl, (blk_cell BK356.out 1).trans rfl, (blk_cell BK356.out 2).trans rfl, HS3_, HS4_⟩ (fun hHeld => ?_)
      clear hK K
      refine sqN (some 33) ?_
      refine one_ (i := 11) (N := none) #[true, true, true, true, true, true, true, true, true, true, true, true, false] rfl rfl (one_of HT_.out (by kernel_rfl)) (by decide) (fun K hK => ?_)
      have hs47 : w46.cell? ⟨gb350, 0, none⟩ = some (.int .i64 0) := (blk_cell BK350.out 0).trans rfl
      have hfs47 := blk_frozen BK350.out 0
      have hns47_0 := NB348_350.out
      have hns47_1 := NB349_350.out
      have hns47_3 := NB356_350.out
      have hms47_0 := NB350_348.out
      have hms47_1 := NB350_349.out
      have hms47_3 := NB350_356.out
      have hs48 : w46.cell? ⟨gb350, 1, none⟩ = some (.int .i64 0) := (blk_cell BK350.out 1).trans rfl
      have hfs48 := blk_frozen BK350.out 1
      have hns48_0 := NB348_350.out
      have hns48_1 := NB349_350.out
      have hns48_3 := NB356_350.out
      have hms48_0 := NB350_348.out
      have hms48_1 := NB350_349.out
      have hms48_3 := NB350_356.out
      have hs50 : w46.cell? ⟨gb350, 2, none⟩ = some (.slice none 0 0) := (blk_cell BK350.out 2).trans rfl
      have hfs50 := blk_frozen BK350.out 2
      have hns50_0 := NB348_350.out
      have hns50_1 := NB349_350.out
      have hns50_3 := NB356_350.out
      have hms50_0 := NB350_348.out
      have hms50_1 := NB350_349.out
      have hms50_3 := NB350_356.out
      refine skip_ (w1 := ?_) (by rfl) rfl ?_ ?_
      rotate_left
      ·go_simp
       rfl
      refine hK.out _ _ ⟨((cell_far (p := ⟨gb350, _, none⟩) NB356_350.out _).trans (((cell_far (p := ⟨gb350, _, none⟩) NB356_350.out _).trans (((cell_far (p := ⟨gb350, _, none⟩) NB356_350.out _).trans (hHeld.1)))))), ((cell_far (p := ⟨gb350, _, none⟩) NB356_350.out _).trans (((cell_far (p := ⟨gb350, _, none⟩) NB356_350.out _).trans (((cell_far (p := ⟨gb350, _, none⟩) NB356_350.out _).trans (hHeld.2.1)))))), ((cell_far (p := ⟨gb350, _, none⟩) NB356_350.out _).trans (((cell_far (p := ⟨gb350, _, none⟩) NB356_350.out _).trans (((cell_far (p := ⟨gb350, _, none⟩) NB356_350.out _).trans (hHeld.2.2.1)))))), ((cell_far (p := ⟨gb350, _, none⟩) (Z22 HO355 BK350) _).trans (((cell_far (p := ⟨gb350, _, none⟩) (Z22 HO355 BK350) _).trans (((cell_far (p := ⟨gb350, _, none⟩) (Z22 HO355 BK350) _).trans (hHeld.2.2.2.1)))))), ((cell_far (p := ⟨gb350, _, none⟩) (Z22 HO355 BK350) _).trans (((cell_far (p := ⟨gb350, _, none⟩) (Z22 HO355 BK350) _).trans (((cell_far (p := ⟨gb350, _, none⟩) (Z22 HO355 BK350) _).trans (hHeld.2.2.2.2))))))⟩ (fun hHeld => ?_)
      clear hK K
      refine sqP (i := 12) (N := some 5) (h := ?_)
      refine done_ (done_of HT_.out (by kernel_rfl)) ?_
      try go_wp2
      refine bodyPost_ret (results_ct rfl _ _ gb350 34 #[.int .i64 t362, .int .i64 t363, .slice Ao49 t364.length co49] (0, 0) _ rfl (by refine sqPut (cs := #[.int .i64 t362, .int .i64 t363, .slice none 0 0]) ?_ 2; refine sqPut (cs := #[.int .i64 t362, .int .i64 0, .slice none 0 0]) ?_ 1; refine sqPut (cs := #[.int .i64 0, .int .i64 0, .slice none 0 0]) ?_ 0; exact sqK BK350) Tryz.underlying34 rfl (by kernel_rfl)) rfl ?_
      exact ⟨_, by first | rfl | (simp [errP_none, errP_some] <;> rfl) | (simp only [← hji22]; first | rfl | (simp [errP_none, errP_some] <;> rfl)) | (simp [*, errP_none, errP_some] <;> rfl), by (with_reducible repeat (first | apply Kd.R_alloc | apply Kd.R_drewN | apply Kd.R_drew)); exact Kd.R_mono (Kd.R_far (p := ⟨gb350, 2, none⟩) (Kd.R_far (p := ⟨gb350, 1, none⟩) (Kd.R_far (p := ⟨gb350, 0, none⟩) (Kd.R_types HO366.out BK350.out (by decide)) (fun _ hk => hk.2) (.int .i64 t362)) (fun _ hk => hk.2) (.int .i64 t363)) (fun _ hk => hk.2) (.slice Ao49 t364.length co49)) (fun _ hk => trivial), sqB4 HB GE348 GE349 GE350 GE356⟩
     ·rw [if_neg c26] at H
      exact absurd H (by simp)
    ·rw [if_neg c24] at H
     exact absurd H (by simp)
   ·rw [if_neg c23] at H
    exact absurd H (by simp)
 ·rw [if_neg c4] at H
  have c4b0 : (a1_0 == 4 && (a1_1.toList == ([] : List UInt8))) = false := by simpa using c4
  try have c4b8 : (a1_0 == 4 && a1_1.toList.isEmpty) = false := by (have h_ := c4b0; (repeat rw [show ∀ z : List UInt8, (z == ([] : List UInt8)) = z.isEmpty from fun z => by cases z <;> rfl] at h_); exact h_)
  (try (have c4b1 : decide (a1_0 = 4 && (a1_1.toList == ([] : List UInt8))) = false := by simpa using c4))
  (try (have c4b2 : (a1_0 == 4 && (a1_1.toList == ([] : List UInt8))) = false := by simpa using c4))
  (try (have c4b3 : ¬ (a1_0 = 4 && (a1_1.toList == ([] : List UInt8))) := by simpa using c4))
  clear c4
  replace H := Option.bind_eq_some_iff.mp H
  obtain ⟨⟨t367, t368, t369⟩, A510, H⟩ := H
  replace H : (if t369 = true then (impl_deskDo.j0 k (t367 == a0_0 && (t368 == a0_1)) t351 t352 t353 t367 t368) else (impl_deskDo.j0 k true t351 t352 t353 t367 t368)) = some (r1, r2, r3, r4) := H
  have A51 := Aside0.mk A510
  clear A510
  have HC52 := Aside0.mk H
  clear H
  go_enter Tryz.func61, Tryz.ntmps61
  go_upto_region 8 with (first | ((with_reducible refine gate_dst (N := 2) rfl ?_); refine sqBox (N := 2) (cs := #[.int .i64 a0_0, .int .i64 a0_1, .slice A0_2 l0_2.length c0_2]) (t := 34) ?_; intro gb348 hg w53 BK348 hb; have GW348 := Aside0.mk ((sqG hg (sqB HB))); have GE348 := GW348; replace HB := sqS (sqB HB) hb; clear hb hg) | ((with_reducible refine gate_dst (N := 3) rfl ?_); refine sqBox (N := 3) (cs := #[.int .i64 a1_0, .string a1_1]) (t := 38) ?_; intro gb349 hg w54 BK349 hb; have GW349 := Aside0.mk ((sqG hg (sqB1 HB GE348))); have GE349 := GW349; replace HB := sqS (sqB1 HB GE348) hb; obtain ⟨NB348_349, NB349_348⟩ := sqM hg BK348; replace BK348 := sqT BK348 hb; clear hb hg) | ((with_reducible refine gate_dst (N := 4) rfl ?_); refine sqBox (N := 4) (cs := #[.int .i64 0, .int .i64 0, .slice none 0 0]) (t := 34) ?_; intro gb350 hg w55 BK350 hb; have GW350 := Aside0.mk ((sqG hg (sqB2 HB GE348 GE349))); have GE350 := GW350; replace HB := sqS (sqB2 HB GE348 GE349) hb; obtain ⟨NB348_350, NB350_348⟩ := sqM hg BK348; replace BK348 := sqT BK348 hb; obtain ⟨NB349_350, NB350_349⟩ := sqM hg BK349; replace BK349 := sqT BK349 hb; clear hb hg; have hnb56 := NB348_349.out; have hnc56 := NB349_348.out; have hnb57 := NB348_350.out; have hnc57 := NB350_348.out; obtain ⟨hcz58_0, hcz58_1, hcz58_2, hfz58_0, hfz58_1, hfz58_2⟩ := sqY3 BK348) | ((with_reducible refine gate_callee (f := 76) rfl ?_); refine goesL_ (some 12) rfl rfl Tryz.func76 (by kernel_rfl) rfl #[.agg #[.int .i64 a0_0, .int .i64 a0_1, .slice A0_2 l0_2.length c0_2]] rfl sqA ?_; (with_reducible refine (impl_copyDesk.calls a0_0 a0_1 _ _ l0_2 t351 t352 t353 _ ?side1 ?side2 A3.out).mono ?_); (case side1 => exact Z5); (case side2 => exact Z6); rintro e w59 ⟨v354, rfl, ho0, hb⟩; refine ⟨_, rfl, ?_⟩; have HO355 := sqL ho0 (sqB3 HB GE348 GE349 GE350); replace BK348 := sqT BK348 hb; replace BK349 := sqT BK349 hb; replace BK350 := sqT BK350 hb; replace HB := sqS (sqB3 HB GE348 GE349 GE350) hb; (try clear hb); (try clear ho0)) | ((with_reducible refine gate_dst (N := 6) rfl ?_); refine sqBox (N := 6) (cs := #[.int .i64 0, .int .i64 0, .slice none 0 0]) (t := 34) ?_; intro gb356 hg w60 BK356 hb; replace HO355 := sqU HO355 hb; have GW356 := Aside0.mk ((sqG hg (sqB3 HB GE348 GE349 GE350))); have GE356 := GW356; replace HB := sqS (sqB3 HB GE348 GE349 GE350) hb; obtain ⟨NB348_356, NB356_348⟩ := sqM hg BK348; replace BK348 := sqT BK348 hb; obtain ⟨NB349_356, NB356_349⟩ := sqM hg BK349; replace BK349 := sqT BK349 hb; obtain ⟨NB350_356, NB356_350⟩ := sqM hg BK350; replace BK350 := sqT BK350 hb; clear hb hg; have hnb61 := NB356_348.out; have hnc61 := NB348_356.out; have hnb62 := NB356_349.out; have hnc62 := NB349_356.out; have hnb63 := NB356_350.out; have hnc63 := NB350_356.out; obtain ⟨hcz64_0, hcz64_1, hcz64_2, hfz64_0, hfz64_1, hfz64_2⟩ := sqY3 BK356; obtain ⟨Ao65, co65, eo65⟩ := Kd.R_slice HO355.out; subst eo65; have hnb66 := NB349_350.out; have hnc66 := NB350_349.out; obtain ⟨hcz67_0, hcz67_1, hfz67_0, hfz67_1⟩ := sqY2 BK349; obtain ⟨hcz68_0, hcz68_1, hcz68_2, hfz68_0, hfz68_1, hfz68_2⟩ := sqY3 BK348) | ((with_reducible refine gate_callee (f := 111) rfl ?_); refine goesL_ (some 38) rfl rfl Tryz.func111 (by kernel_rfl) rfl #[.agg #[.int .i64 a0_0, .int .i64 a0_1], .agg #[.int .i64 a1_0, .string a1_1]] rfl sqA ?_; (with_reducible refine (impl_nextFraction.calls k a0_0 a0_1 a1_0 a1_1 t367 t368 t369 _ ?sideG A51.out).mono ?_); (case sideG => exact Glob.below hG (sqB4 HB GE348 GE349 GE350 GE356)); rintro e w69 ⟨rfl, hb⟩; refine ⟨_, rfl, ?_⟩; replace HO355 := Aside0.mk (Kd.R_below (by (with_reducible repeat (first | apply Kd.R_alloc | apply Kd.R_drewN | apply Kd.R_drew)); exact (Kd.R_mono (Kd.R_far (p := ⟨gb356, 2, none⟩) (Kd.R_far (p := ⟨gb356, 1, none⟩) (Kd.R_far (p := ⟨gb356, 0, none⟩) (Kd.R_types HO355.out BK356.out (by decide)) (fun _ hk => hk.2) (.int .i64 t351)) (fun _ hk => hk.2) (.int .i64 t352)) (fun _ hk => hk.2) (.slice Ao65 t353.length co65)) (fun _ h_ => h_.1))) hb); replace BK348 := Aside0.mk (blk_below (g := gb348) (o := .cells #[.int .i64 a0_0, .int .i64 a0_1, .slice A0_2 l0_2.length c0_2] 34 (0, 0)) (Z19 NB348_356 BK348) hb); replace BK349 := Aside0.mk (blk_below (g := gb349) (o := .cells #[.int .i64 a1_0, .string a1_1] 38 (0, 0)) (Z19 NB349_356 BK349) hb); replace BK350 := Aside0.mk (blk_below (g := gb350) (o := .cells #[.int .i64 0, .int .i64 0, .slice none 0 0] 34 (0, 0)) (Z19 NB350_356 BK350) hb); replace BK356 := Aside0.mk (blk_below (g := gb356) (o := .cells #[.int .i64 t351, .int .i64 t352, .slice Ao65 t353.length co65] 34 (0, 0)) (Z20 BK356) hb); replace HB := sqS (sqB4 HB GE348 GE349 GE350 GE356) hb; (try clear hb)) | ((with_reducible refine gate_dst (N := 8) rfl ?_); refine sqBox (N := 8) (cs := #[.int .i64 0, .int .i64 0]) (t := 31) ?_; intro gb370 hg w70 BK370 hb; replace HO355 := Aside0.mk (Kd.R_below (Kd.R_elderB (sqR HO355) gb370 (Nat.le_of_eq hg.symm)) hb); have GW370 := Aside0.mk ((sqG hg (sqB4 HB GE348 GE349 GE350 GE356))); have GE370 := GW370; replace HB := sqS (sqB4 HB GE348 GE349 GE350 GE356) hb; obtain ⟨NB348_370, NB370_348⟩ := sqM hg BK348; replace BK348 := sqT BK348 hb; obtain ⟨NB349_370, NB370_349⟩ := sqM hg BK349; replace BK349 := sqT BK349 hb; obtain ⟨NB350_370, NB370_350⟩ := sqM hg BK350; replace BK350 := sqT BK350 hb; obtain ⟨NB356_370, NB370_356⟩ := sqM hg BK356; replace BK356 := sqT BK356 hb; clear hb hg; have hnb71 := NB370_348.out; have hnc71 := NB348_370.out; have hnb72 := NB370_349.out; have hnc72 := NB349_370.out; have hnb73 := NB370_350.out; have hnc73 := NB350_370.out; have hnb74 := NB370_356.out; have hnc74 := NB356_370.out; obtain ⟨hcz75_0, hcz75_1, hfz75_0, hfz75_1⟩ := sqY2 BK370))
  (try simp only [Act.put, List.setIfInBounds_toArray, List.set_cons_zero, List.set_cons_succ])
  go_cut [48] (fun v48 wc => ∃ (kq : Nat) (x48_51 : Bool), v48 = .bool x48_51 ∧ Aside0 (impl_deskDo.j0 kq x48_51 t351 t352 t353 t367 t368 = some (r1, r2, r3, r4)) ∧ Aside0 (kq ≤ k) ∧ Aside0 (Kd.R k31 31 wc w.heap.size (fun k_ => k_ ≠ gb370) (.slice Ao65 t353.length co65) t353) ∧ Aside0 (wc.heap[gb348]? = some (.cells #[.int .i64 a0_0, .int .i64 a0_1, (.slice A0_2 l0_2.length c0_2)] 34 (0, 0))) ∧ Aside0 (wc.heap[gb349]? = some (.cells #[.int .i64 a1_0, .string a1_1] 38 (0, 0))) ∧ Aside0 (wc.heap[gb350]? = some (.cells #[.int .i64 0, .int .i64 0, (.slice none 0 0)] 34 (0, 0))) ∧ Aside0 (wc.heap[gb356]? = some (.cells #[.int .i64 t351, .int .i64 t352, (.slice Ao65 t353.length co65)] 34 (0, 0))) ∧ Aside0 (wc.heap[gb370]? = some (.cells #[.int .i64 t367, .int .i64 t368] 31 (0, 0))) ∧ Aside0 (Below w.heap.size w wc))
  case first =>
   have H := HC52.out
   clear HC52
   by_cases c76 : t369 = true
   ·subst c76
    have H1 : (impl_deskDo.j0 k (t367 == a0_0 && (t368 == a0_1)) t351 t352 t353 t367 t368) = some (r1, r2, r3, r4) := by rw [if_pos rfl] at H; exact H
    clear H
    have H := H1
    clear H1
    have H' := Aside0.mk H
    clear H
    have hnb77 := NB370_348.out
    have hnc77 := NB348_370.out
    have hnb78 := NB370_349.out
    have hnc78 := NB349_370.out
    have hnb79 := NB370_350.out
    have hnc79 := NB350_370.out
    have hnb80 := NB370_356.out
    have hnc80 := NB356_370.out
    obtain ⟨hcz81_0, hcz81_1, hfz81_0, hfz81_1⟩ := sqY2 BK370
    have hnb82 := NB348_349.out
    have hnc82 := NB349_348.out
    have hnb83 := NB348_350.out
    have hnc83 := NB350_348.out
    have hnb84 := NB348_356.out
    have hnc84 := NB356_348.out
    obtain ⟨hcz85_0, hcz85_1, hcz85_2, hfz85_0, hfz85_1, hfz85_2⟩ := sqY3 BK348
    go_wp2
    go_meet
    case rel => exact ⟨_, ((t367 == a0_0 && (t368 == a0_1))), Z1, H', ⟨Z15⟩, ⟨Z23 HO355⟩, ⟨Z13 NB348_370 BK348⟩, ⟨Z13 NB349_370 BK349⟩, ⟨Z13 NB350_370 BK350⟩, ⟨Z13 NB356_370 BK356⟩, ⟨Z24 BK370⟩, ⟨Z25 GE348 GE349 GE350 GE356 GE370⟩⟩
   ·replace c76 := Bool.eq_false_iff.mpr c76
    subst c76
    have H1 : (impl_deskDo.j0 k true t351 t352 t353 t367 t368) = some (r1, r2, r3, r4) := by rw [if_neg (show ¬ (false = true) by decide)] at H; exact H
    clear H
    have H := H1
    clear H1
    have H' := Aside0.mk H
    clear H
    go_wp2
    go_meet
    case rel => exact ⟨_, (true), Z1, H', ⟨Z15⟩, ⟨Z23 HO355⟩, ⟨Z13 NB348_370 BK348⟩, ⟨Z13 NB349_370 BK349⟩, ⟨Z13 NB350_370 BK350⟩, ⟨Z13 NB356_370 BK356⟩, ⟨Z24 BK370⟩, ⟨Z25 GE348 GE349 GE350 GE356 GE370⟩⟩
  case rest =>
   clear HC52
   try clear c1; try clear c2; try clear p2; try clear c3; try clear p3; try clear q3; try clear hx3; try clear c4; try clear c4b0; try clear c4b1; try clear c4b2; try clear q4; try clear c5; try clear c5b0; try clear c6; try clear p6; try clear c7; try clear c8; try clear c9; try clear c10; try clear c11; try clear c14; try clear c15; try clear c16; try clear c19; try clear c23; try clear c23b0; try clear c24; try clear c24b0; try clear c25; try clear c25b0; try clear c26; try clear c26b0; try clear c26b1; try clear c31; try clear c32; try clear p35; try clear q35; try clear hx35; try clear c36; try clear c37; try clear c38; try clear c41; try clear q45; try clear c56; try clear c57; try clear c61; try clear c62; try clear c63; try clear p64; try clear c66; try clear c71; try clear c72; try clear c73; try clear c74; try clear c76; try clear c77; try clear c78; try clear c79; try clear c80; try clear c82; try clear c83; try clear c84; try clear hcz11_0; try clear hcz11_1; try clear hcz11_2; try clear hcz17_0; try clear hcz17_1; try clear hcz17_2; try clear hcz20_0; try clear hcz20_1; try clear hcz21_0; try clear hcz21_1; try clear hcz21_2; try clear hcz33_0; try clear hcz33_1; try clear hcz33_2; try clear hcz39_0; try clear hcz39_1; try clear hcz39_2; try clear hcz42_0; try clear hcz42_1; try clear hcz58_0; try clear hcz58_1; try clear hcz58_2; try clear hcz64_0; try clear hcz64_1; try clear hcz64_2; try clear hcz67_0; try clear hcz67_1; try clear hcz68_0; try clear hcz68_1; try clear hcz68_2; try clear hcz75_0; try clear hcz75_1; try clear hcz81_0; try clear hcz81_1; try clear hcz85_0; try clear hcz85_1; try clear hcz85_2; try clear hfz11_0; try clear hfz11_1; try clear hfz11_2; try clear hfz17_0; try clear hfz17_1; try clear hfz17_2; try clear hfz20_0; try clear hfz20_1; try clear hfz21_0; try clear hfz21_1; try clear hfz21_2; try clear hfz33_0; try clear hfz33_1; try clear hfz33_2; try clear hfz39_0; try clear hfz39_1; try clear hfz39_2; try clear hfz42_0; try clear hfz42_1; try clear hfz58_0; try clear hfz58_1; try clear hfz58_2; try clear hfz64_0; try clear hfz64_1; try clear hfz64_2; try clear hfz67_0; try clear hfz67_1; try clear hfz68_0; try clear hfz68_1; try clear hfz68_2; try clear hfz75_0; try clear hfz75_1; try clear hfz81_0; try clear hfz81_1; try clear hfz85_0; try clear hfz85_1; try clear hfz85_2; try clear hx357_0; try clear hx357_1; try clear p357; try clear q357; try clear q45
   obtain ⟨kq, x48_51, rfl, HA, HJ51, HO_357002, BK348, BK349, BK350, BK356, BK370, HB⟩ := hcut
   cases kq with
   | zero => exact absurd HA.out (by simp [impl_deskDo.j0])
   | succ kj51 =>
    have H := HA.out
    clear HA
    simp only [impl_deskDo.j0] at H
    by_cases c86 : x48_51 = true
    ·subst c86
     have H1 : (some (t351, t352, t353, false)) = some (r1, r2, r3, r4) := by rw [if_pos rfl] at H; exact H
     clear H
     have H := H1
     clear H1
     simp only [Option.some.injEq, Prod.mk.injEq] at H
     obtain ⟨rfl, rfl, rfl, rfl⟩ := H
     have hnb87 := NB356_348.out
     have hnc87 := NB348_356.out
     have hnb88 := NB356_349.out
     have hnc88 := NB349_356.out
     have hnb89 := NB356_350.out
     have hnc89 := NB350_356.out
     have hnb90 := NB356_370.out
     have hnc90 := NB370_356.out
     obtain ⟨hcz91_0, hcz91_1, hcz91_2, hfz91_0, hfz91_1, hfz91_2⟩ := sqY3 BK356
     have hnb92 := NB350_348.out
     have hnc92 := NB348_350.out
     have hnb93 := NB350_349.out
     have hnc93 := NB349_350.out
     have hnb94 := NB350_370.out
     have hnc94 := NB370_350.out
     obtain ⟨hcz95_0, hcz95_1, hcz95_2, hfz95_0, hfz95_1, hfz95_2⟩ := sqY3 BK350
     go_wp2
     refine bodyPost_ret (results_ct rfl _ _ gb350 34 #[.int .i64 t351, .int .i64 t352, .slice Ao65 t353.length co65] (0, 0) _ rfl (Z20 BK350) Tryz.underlying34 rfl (by kernel_rfl)) rfl ?_
     exact ⟨_, Z3, by (with_reducible repeat (first | apply Kd.R_alloc | apply Kd.R_drewN | apply Kd.R_drew)); exact Kd.R_mono (Kd.R_far (p := ⟨gb350, 2, none⟩) (Kd.R_far (p := ⟨gb350, 1, none⟩) (Kd.R_far (p := ⟨gb350, 0, none⟩) (Kd.R_types HO_357002.out BK350.out (by decide)) (fun _ hk => hk.2) (.int .i64 t351)) (fun _ hk => hk.2) (.int .i64 t352)) (fun _ hk => hk.2) (.slice Ao65 t353.length co65)) (fun _ hk => trivial), Z25 GE348 GE349 GE350 GE356 GE370⟩
    ·replace c86 := Bool.eq_false_iff.mpr c86
     subst c86
     have H1 : (if t353.length < 8796093022208 then ((some (t353 ++ [(⟨t351, t352⟩ : S31)] : List (S31))).bind fun y371 => (if (y371.length : Int) > 8 then (if 1 ≤ (y371.length : Int) then ((impl_copyDesk.f t367 t368 (y371.drop (1 : Int).toNat)).bind fun bt377 => (some (bt377.1, bt377.2.1, bt377.2.2, true))) else (none)) else ((impl_copyDesk.f t367 t368 y371).bind fun bt382 => (some (bt382.1, bt382.2.1, bt382.2.2, true))))) else (none)) = some (r1, r2, r3, r4) := by rw [if_neg (show ¬ (false = true) by decide)] at H; exact H
     clear H
     have H := H1
     clear H1
     by_cases c96 : t353.length < 8796093022208
     ·rw [if_pos c96] at H
      have LMc96 := Aside0.mk c96
      clear c96
      obtain ⟨y371, hy371⟩ : ∃ y_ : List (S31), y_ = (t353 ++ [(⟨t351, t352⟩ : S31)]) := ⟨_, rfl⟩
      replace H : (if (y371.length : Int) > 8 then (if 1 ≤ (y371.length : Int) then ((impl_copyDesk.f t367 t368 (y371.drop (1 : Int).toNat)).bind fun bt377 => (some (bt377.1, bt377.2.1, bt377.2.2, true))) else (none)) else ((impl_copyDesk.f t367 t368 y371).bind fun bt382 => (some (bt382.1, bt382.2.1, bt382.2.2, true)))) = some (r1, r2, r3, r4) := by first | (rw [hy371]; with_reducible exact H) | (have H2_ := (Option.bind_some _ _).symm.trans H; rw [hy371]; with_reducible exact H2_) | (have H2_ := (Option.bind_some _ _).symm.trans H; with_reducible exact H2_) | with_reducible exact H | (rw [hy371]; exact H) | exact H
      have Ny371 := Aside0.mk hy371
      clear hy371
      by_cases c97 : (y371.length : Int) > 8
      ·rw [if_pos c97] at H
       have c97b0 : decide (8 < (y371.length : Int)) = true := decide_eq_true c97
       have c97b1 : decide (8 < y371.length) = true := decide_eq_true (by omega)
       clear c97
       by_cases c98 : 1 ≤ (y371.length : Int)
       ·rw [if_pos c98] at H
        have c98b0 := eq_true c98
        have c98b1 : decide (1 ≤ (y371.length : Int)) = true := decide_eq_true c98
        clear c98
        obtain ⟨y374, hy374⟩ : ∃ y_ : List (S31), y_ = (y371.drop (1 : Int).toNat) := ⟨_, rfl⟩
        replace H : ((impl_copyDesk.f t367 t368 y374).bind fun bt377 => (some (bt377.1, bt377.2.1, bt377.2.2, true))) = some (r1, r2, r3, r4) := by first | (rw [hy374]; with_reducible exact H) | (have H2_ := (Option.bind_some _ _).symm.trans H; rw [hy374]; with_reducible exact H2_) | (have H2_ := (Option.bind_some _ _).symm.trans H; with_reducible exact H2_) | with_reducible exact H | (rw [hy374]; exact H) | exact H
        have Ny374 := Aside0.mk hy374
        clear hy374
        replace H := Option.bind_eq_some_iff.mp H
        obtain ⟨⟨t377, t378, t379⟩, A990, H⟩ := H
        replace H : (some (t377, t378, t379, true)) = some (r1, r2, r3, r4) := H
        have A99 := Aside0.mk A990
        clear A990
        simp only [Option.some.injEq, Prod.mk.injEq] at H
        obtain ⟨rfl, rfl, rfl, rfl⟩ := H
        have hnb100 := NB356_348.out
        have hnc100 := NB348_356.out
        have hnb101 := NB356_349.out
        have hnc101 := NB349_356.out
        have hnb102 := NB356_350.out
        have hnc102 := NB350_356.out
        have hnb103 := NB356_370.out
        have hnc103 := NB370_356.out
        obtain ⟨hcz104_0, hcz104_1, hcz104_2, hfz104_0, hfz104_1, hfz104_2⟩ := sqY3 BK356
        go_wp2_with (first | ((with_reducible refine gate_builtin (b := .append) (xs := #[.tmp 51, .tmp 54]) rfl ?_); at_builtin; refine Kd.R_append k31 (w0 := w) w.heap.size rfl (.tmp 51) (.tmp 54) 32 31 (.agg #[(.int .i64 0), (.int .i64 0)]) 16 rfl Tryz.underlying32 info31 rfl (by decide) (by omega) (.slice Ao65 t353.length co65) t353 (⟨t351, t352⟩ : S31) [.int .i64 t351, .int .i64 t352] (fun k_ => k_ ≠ gb370) (fun _ => False) rfl rfl ?aP (fun _ hk => hk.elim) ?aF ?aO ?aB ?aS ?aL ?_; (case aP => exact k31_mkM _ _ _ (⟨t351, t352⟩ : S31)); (case aB => exact (Z25 GE348 GE349 GE350 GE356 GE370)); (case aF => exact (fun k_ hk => Kd.freshB (sqK BK370) k_ hk)); (case aO => exact (sqR HO_357002)); (case aS => exact (below_size (Z25 GE348 GE349 GE350 GE356 GE370))); (case aL => exact Z2 LMc96); intro v372 w105 ho hb hg hat; rw [← Ny371.out] at ho; replace BK348 := Aside0.mk (blk_grown (sqK BK348) hg (Kd.R_ne HO_357002.out BK348.out (by decide))); replace BK349 := Aside0.mk (blk_grown (sqK BK349) hg (Kd.R_ne HO_357002.out BK349.out (by decide))); replace BK350 := Aside0.mk (blk_grown (sqK BK350) hg (Kd.R_ne HO_357002.out BK350.out (by decide))); replace BK356 := Aside0.mk (blk_grown (sqK BK356) hg (Kd.R_ne HO_357002.out BK356.out (by decide))); replace BK370 := Aside0.mk (blk_grown (sqK BK370) hg (Kd.R_away HO_357002.out (fun _ hk => hk))); replace HB := Aside0.mk (hb); have HO373 := Aside0.mk (ho); clear HO_357002; clear ho hb hg hat; obtain ⟨Ao106, co106, eo106⟩ := Kd.R_slice HO373.out; subst eo106; have q107 : (1 : Int) ≤ ((y371.length : Int) : Int) := of_decide_eq_true Z4; obtain ⟨i0107, hi0107, _, hsz107, _⟩ := info_parts info31; have hcut107 := cut_from (P := Tryz.prog) 32 31 .i64 Tryz.underlying32 hi0107 2 hsz107 Ao106 y371.length co106 1 (by omega) q107; have hr107 := Kd.Q_drop (k := (1 : Int).toNat) (Kd.Q_of_R HO373.out) (by omega); obtain ⟨A107, hA107⟩ : ∃ A1, A1 = (if co106 = (1 : Int).toNat then Ao106 else (Ao106 : Option Addr).map (·.add ((1 : Int).toNat * 2))) := ⟨_, rfl⟩; obtain ⟨c107, hc107⟩ : ∃ c1, c1 = co106 - (1 : Int).toNat := ⟨_, rfl⟩; have hy107 : y374.length = y371.length - (1 : Int).toNat := (by rw [Ny374.out, List.length_drop]); rw [← Ny374.out] at hr107; rw [← hy107, ← hA107, ← hc107] at hcut107; replace hr107 : Kd.Q k31 31 w105 w.heap.size (fun k_ => k_ ≠ gb370) (.slice A107 y374.length c107) y374 := (by rw [hA107, hc107, hy107]; exact hr107); have HE107 : Aside0 ((Value.slice A107 y374.length c107).ownBlock = (.slice Ao106 y371.length co106 : Value).ownBlock) := ⟨by rw [hA107]; split <;> (cases (Ao106 : Option Addr) <;> rfl)⟩; clear hy107 hi0107 hsz107 HO373 hA107 hc107; have HO376 := Aside0.mk hr107; clear hr107; replace q107 := eq_true q107; have hnb108 := NB370_348.out; have hnc108 := NB348_370.out; have hnb109 := NB370_349.out; have hnc109 := NB349_370.out; have hnb110 := NB370_350.out; have hnc110 := NB350_370.out; obtain ⟨hcz111_0, hcz111_1, hfz111_0, hfz111_1⟩ := sqY2 BK370) | ((with_reducible refine gate_callee (f := 76) rfl ?_); refine goesL_ (some 64) rfl rfl Tryz.func76 (by kernel_rfl) rfl #[.agg #[.int .i64 t367, .int .i64 t368, .slice A107 y374.length c107]] rfl sqA ?_; (with_reducible refine (impl_copyDesk.calls t367 t368 _ _ y374 t377 t378 t379 _ ?side1 ?side2 A99.out).mono ?_); (case side1 => exact Z26 HO376); (case side2 => exact (Kd.Q_reads' HO376.out).2.1); rintro e w112 ⟨v380, rfl, ho0, hb⟩; refine ⟨_, rfl, ?_⟩; have HO381 := Aside0.mk (Kd.R_lower (Kd.R_newB (Kd.R_new' ho0 (Kd.Q_lt (Z27 HO376))) (sqK BK370)) (below_size (Z25 GE348 GE349 GE350 GE356 GE370))); replace HO376 := Aside0.mk (Kd.Q_elder' (Z27 HO376) (Kd.R_base ho0) hb); replace BK348 := sqT BK348 hb; replace BK349 := sqT BK349 hb; replace BK350 := sqT BK350 hb; replace BK356 := sqT BK356 hb; replace BK370 := sqT BK370 hb; replace HB := Aside0.mk (below_step (Z25 GE348 GE349 GE350 GE356 GE370) hb); (try clear hb); (try clear ho0); have hnb113 := NB350_348.out; have hnc113 := NB348_350.out; have hnb114 := NB350_349.out; have hnc114 := NB349_350.out; obtain ⟨hcz115_0, hcz115_1, hcz115_2, hfz115_0, hfz115_1, hfz115_2⟩ := sqY3 BK350; obtain ⟨Ao116, co116, eo116⟩ := Kd.R_slice HO381.out; subst eo116))
        refine bodyPost_ret (results_ct rfl _ _ gb350 34 #[.int .i64 t377, .int .i64 t378, .slice Ao116 t379.length co116] (0, 0) _ rfl (by refine sqPut (cs := #[.int .i64 t377, .int .i64 t378, .slice none 0 0]) ?_ 2; refine sqPut (cs := #[.int .i64 t377, .int .i64 0, .slice none 0 0]) ?_ 1; refine sqPut (cs := #[.int .i64 0, .int .i64 0, .slice none 0 0]) ?_ 0; exact sqK BK350) Tryz.underlying34 rfl (by kernel_rfl)) rfl ?_
        exact ⟨_, Z3, by (with_reducible repeat (first | apply Kd.R_alloc | apply Kd.R_drewN | apply Kd.R_drew)); exact Kd.R_mono (Kd.R_far (p := ⟨gb350, 2, none⟩) (Kd.R_far (p := ⟨gb350, 1, none⟩) (Kd.R_far (p := ⟨gb350, 0, none⟩) (Kd.R_types HO381.out BK350.out (by decide)) (fun _ hk => hk.2) (.int .i64 t377)) (fun _ hk => hk.2) (.int .i64 t378)) (fun _ hk => hk.2) (.slice Ao116 t379.length co116)) (fun _ hk => trivial), Z25 GE348 GE349 GE350 GE356 GE370⟩
       ·rw [if_neg c98] at H
        exact absurd H (by simp)
      ·rw [if_neg c97] at H
       have c97b0 : decide (8 < (y371.length : Int)) = false := decide_eq_false c97
       have c97b1 : decide (8 < y371.length) = false := decide_eq_false (by omega)
       clear c97
       replace H := Option.bind_eq_some_iff.mp H
       obtain ⟨⟨t382, t383, t384⟩, A1170, H⟩ := H
       replace H : (some (t382, t383, t384, true)) = some (r1, r2, r3, r4) := H
       have A117 := Aside0.mk A1170
       clear A1170
       simp only [Option.some.injEq, Prod.mk.injEq] at H
       obtain ⟨rfl, rfl, rfl, rfl⟩ := H
       have hnb118 := NB356_348.out
       have hnc118 := NB348_356.out
       have hnb119 := NB356_349.out
       have hnc119 := NB349_356.out
       have hnb120 := NB356_350.out
       have hnc120 := NB350_356.out
       have hnb121 := NB356_370.out
       have hnc121 := NB370_356.out
       obtain ⟨hcz122_0, hcz122_1, hcz122_2, hfz122_0, hfz122_1, hfz122_2⟩ := sqY3 BK356
       go_wp2_with (first | ((with_reducible refine gate_builtin (b := .append) (xs := #[.tmp 51, .tmp 54]) rfl ?_); at_builtin; refine Kd.R_append k31 (w0 := w) w.heap.size rfl (.tmp 51) (.tmp 54) 32 31 (.agg #[(.int .i64 0), (.int .i64 0)]) 16 rfl Tryz.underlying32 info31 rfl (by decide) (by omega) (.slice Ao65 t353.length co65) t353 (⟨t351, t352⟩ : S31) [.int .i64 t351, .int .i64 t352] (fun k_ => k_ ≠ gb370) (fun _ => False) rfl rfl ?aP (fun _ hk => hk.elim) ?aF ?aO ?aB ?aS ?aL ?_; (case aP => exact k31_mkM _ _ _ (⟨t351, t352⟩ : S31)); (case aB => exact (Z25 GE348 GE349 GE350 GE356 GE370)); (case aF => exact (fun k_ hk => Kd.freshB (sqK BK370) k_ hk)); (case aO => exact (sqR HO_357002)); (case aS => exact (below_size (Z25 GE348 GE349 GE350 GE356 GE370))); (case aL => exact Z2 LMc96); intro v372 w123 ho hb hg hat; rw [← Ny371.out] at ho; replace BK348 := Aside0.mk (blk_grown (sqK BK348) hg (Kd.R_ne HO_357002.out BK348.out (by decide))); replace BK349 := Aside0.mk (blk_grown (sqK BK349) hg (Kd.R_ne HO_357002.out BK349.out (by decide))); replace BK350 := Aside0.mk (blk_grown (sqK BK350) hg (Kd.R_ne HO_357002.out BK350.out (by decide))); replace BK356 := Aside0.mk (blk_grown (sqK BK356) hg (Kd.R_ne HO_357002.out BK356.out (by decide))); replace BK370 := Aside0.mk (blk_grown (sqK BK370) hg (Kd.R_away HO_357002.out (fun _ hk => hk))); replace HB := Aside0.mk (hb); have HO373 := Aside0.mk (ho); clear HO_357002; clear ho hb hg hat; obtain ⟨Ao124, co124, eo124⟩ := Kd.R_slice HO373.out; subst eo124; have hnb125 := NB370_348.out; have hnc125 := NB348_370.out; have hnb126 := NB370_349.out; have hnc126 := NB349_370.out; have hnb127 := NB370_350.out; have hnc127 := NB350_370.out; obtain ⟨hcz128_0, hcz128_1, hfz128_0, hfz128_1⟩ := sqY2 BK370) | ((with_reducible refine gate_callee (f := 76) rfl ?_); refine goesL_ (some 64) rfl rfl Tryz.func76 (by kernel_rfl) rfl #[.agg #[.int .i64 t367, .int .i64 t368, .slice Ao124 y371.length co124]] rfl sqA ?_; (with_reducible refine (impl_copyDesk.calls t367 t368 _ _ y371 t382 t383 t384 _ ?side1 ?side2 A117.out).mono ?_); (case side1 => exact Z28 HO373); (case side2 => exact Z29 HO373); rintro e w129 ⟨v385, rfl, ho0, hb⟩; refine ⟨_, rfl, ?_⟩; have HO386 := Aside0.mk (Kd.R_lower (Kd.R_newB (Kd.R_new' ho0 (Kd.R_lt (sqR HO373))) (sqK BK370)) (below_size (Z25 GE348 GE349 GE350 GE356 GE370))); replace HO373 := Aside0.mk (Kd.R_elder' (sqR HO373) (Kd.R_base ho0) hb); replace BK348 := sqT BK348 hb; replace BK349 := sqT BK349 hb; replace BK350 := sqT BK350 hb; replace BK356 := sqT BK356 hb; replace BK370 := sqT BK370 hb; replace HB := Aside0.mk (below_step (Z25 GE348 GE349 GE350 GE356 GE370) hb); (try clear hb); (try clear ho0); have hnb130 := NB350_348.out; have hnc130 := NB348_350.out; have hnb131 := NB350_349.out; have hnc131 := NB349_350.out; obtain ⟨hcz132_0, hcz132_1, hcz132_2, hfz132_0, hfz132_1, hfz132_2⟩ := sqY3 BK350; obtain ⟨Ao133, co133, eo133⟩ := Kd.R_slice HO386.out; subst eo133))
       refine bodyPost_ret (results_ct rfl _ _ gb350 34 #[.int .i64 t382, .int .i64 t383, .slice Ao133 t384.length co133] (0, 0) _ rfl (by refine sqPut (cs := #[.int .i64 t382, .int .i64 t383, .slice none 0 0]) ?_ 2; refine sqPut (cs := #[.int .i64 t382, .int .i64 0, .slice none 0 0]) ?_ 1; refine sqPut (cs := #[.int .i64 0, .int .i64 0, .slice none 0 0]) ?_ 0; exact sqK BK350) Tryz.underlying34 rfl (by kernel_rfl)) rfl ?_
       exact ⟨_, Z3, by (with_reducible repeat (first | apply Kd.R_alloc | apply Kd.R_drewN | apply Kd.R_drew)); exact Kd.R_mono (Kd.R_far (p := ⟨gb350, 2, none⟩) (Kd.R_far (p := ⟨gb350, 1, none⟩) (Kd.R_far (p := ⟨gb350, 0, none⟩) (Kd.R_types HO386.out BK350.out (by decide)) (fun _ hk => hk.2) (.int .i64 t382)) (fun _ hk => hk.2) (.int .i64 t383)) (fun _ hk => hk.2) (.slice Ao133 t384.length co133)) (fun _ hk => trivial), Z25 GE348 GE349 GE350 GE356 GE370⟩
     ·rw [if_neg c96] at H
      exact absurd H (by simp)

/-! ### impl_DeskDo: function 17 -/
def impl_DeskDo.f (k : Nat) (a0_0 : Int) (a0_1 : Int) (l0_2 : List (S31)) (a1_0 : Int) (a1_1 : ByteArray) : Option (Int × Int × (List (S31)) × Bool) := (impl_isDesk.f k a0_0 a0_1 l0_2).bind fun t390 => (if t390 = true then ((impl_deskDo.f k a0_0 a0_1 l0_2 a1_0 a1_1).bind fun bt391 => (some (bt391.1, bt391.2.1, bt391.2.2.1, bt391.2.2.2))) else (some (0, 0, ([] : List (S31)), false)))
theorem impl_DeskDo.mono : ∀ a0 a1 a2 a3 a4 k, LeO (impl_DeskDo.f k a0 a1 a2 a3 a4) (impl_DeskDo.f (k + 1) a0 a1 a2 a3 a4) := by
 intro a0 a1 a2 a3 a4 k
 unfold impl_DeskDo.f
 repeat' first
   | (with_reducible exact impl_deskDo.mono _ _ _ _ _ _)
   | (with_reducible exact impl_isDesk.mono _ _ _ _)
   | (with_reducible exact LeO.refl _)
   | (with_reducible exact LeO.none _)
   | (with_reducible refine LeO.ite ?_ ?_)
   | (with_reducible refine LeO.bind ?_ (fun _ => ?_))
set_option maxHeartbeats 8000000 in
set_option maxRecDepth 100000 in
theorem impl_DeskDo.calls (k : Nat) (a0_0 : Int) (a0_1 : Int) (A0_2 : Option Addr) (c0_2 : Nat) (l0_2 : List (S31)) (a1_0 : Int) (a1_1 : ByteArray) (r1 : Int) (r2 : Int) (r3 : List (S31)) (r4 : Bool) (w : World) (hG : Glob w) (hr0_2 : Kd.C k31 w A0_2 l0_2.length l0_2) (hc0_2 : l0_2.length ≤ c0_2) (h : impl_DeskDo.f k a0_0 a0_1 l0_2 a1_0 a1_1 = some (r1, r2, r3, r4)) :
  Calls Tryz.prog 17 #[.agg #[.int .i64 a0_0, .int .i64 a0_1, .slice A0_2 l0_2.length c0_2], .agg #[.int .i64 a1_0, .string a1_1]] w fun e w' => ∃ v2_ : Value, e = .returned (.tuple #[.agg #[.int .i64 r1, .int .i64 r2, v2_], .bool r4]) ∧ Kd.R k31 31 w' w.heap.size (fun _ => True) v2_ r3 ∧ Below w.heap.size w w' := by
 have hu34 := Tryz.underlying34
 have hu38 := Tryz.underlying38
 have HR0_2 := Aside0.mk hr0_2
 have HC0_2 := Aside0.mk hc0_2
 clear hr0_2 hc0_2
 have HB := Aside0.mk (Below.refl w.heap.size w)
 have H : ((impl_isDesk.f k a0_0 a0_1 l0_2).bind fun t390 => (if t390 = true then ((impl_deskDo.f k a0_0 a0_1 l0_2 a1_0 a1_1).bind fun bt391 => (some (bt391.1, bt391.2.1, bt391.2.2.1, bt391.2.2.2))) else (some (0, 0, ([] : List (S31)), false)))) = some (r1, r2, r3, r4) := h
 clear h
 obtain ⟨t390, A3, H⟩ := sqD H
 by_cases c4 : t390 = true
 ·subst c4
  have H1 : ((impl_deskDo.f k a0_0 a0_1 l0_2 a1_0 a1_1).bind fun bt391 => (some (bt391.1, bt391.2.1, bt391.2.2.1, bt391.2.2.2))) = some (r1, r2, r3, r4) := by rw [if_pos rfl] at H; exact H
  clear H
  have H := H1
  clear H1
  replace H := Option.bind_eq_some_iff.mp H
  obtain ⟨⟨t391, t392, t393, t396⟩, A50, H⟩ := H
  replace H : (some (t391, t392, t393, t396)) = some (r1, r2, r3, r4) := H
  have A5 := Aside0.mk A50
  clear A50
  simp only [Option.some.injEq, Prod.mk.injEq] at H
  obtain ⟨rfl, rfl, rfl, rfl⟩ := H
  go_enter Tryz.func17, Tryz.ntmps17
  go_wp2_with (first | ((with_reducible refine gate_dst (N := 2) rfl ?_); refine sqBox (N := 2) (cs := #[.int .i64 a0_0, .int .i64 a0_1, .slice A0_2 l0_2.length c0_2]) (t := 34) ?_; intro gb387 hg w6 BK387 hb; have GW387 := Aside0.mk ((sqG hg (sqB HB))); have GE387 := GW387; replace HB := sqS (sqB HB) hb; clear hb hg) | ((with_reducible refine gate_dst (N := 3) rfl ?_); refine sqBox (N := 3) (cs := #[.int .i64 a1_0, .string a1_1]) (t := 38) ?_; intro gb388 hg w7 BK388 hb; have GW388 := Aside0.mk ((sqG hg (sqB1 HB GE387))); have GE388 := GW388; replace HB := sqS (sqB1 HB GE387) hb; obtain ⟨NB387_388, NB388_387⟩ := sqM hg BK387; replace BK387 := sqT BK387 hb; clear hb hg) | ((with_reducible refine gate_dst (N := 4) rfl ?_); refine sqBox (N := 4) (cs := #[.int .i64 0, .int .i64 0, .slice none 0 0]) (t := 34) ?_; intro gb389 hg w8 BK389 hb; have GW389 := Aside0.mk ((sqG hg (sqB2 HB GE387 GE388))); have GE389 := GW389; replace HB := sqS (sqB2 HB GE387 GE388) hb; obtain ⟨NB387_389, NB389_387⟩ := sqM hg BK387; replace BK387 := sqT BK387 hb; obtain ⟨NB388_389, NB389_388⟩ := sqM hg BK388; replace BK388 := sqT BK388 hb; clear hb hg; have hnb9 := NB387_388.out; have hnc9 := NB388_387.out; have hnb10 := NB387_389.out; have hnc10 := NB389_387.out; obtain ⟨hcz11_0, hcz11_1, hcz11_2, hfz11_0, hfz11_1, hfz11_2⟩ := sqY3 BK387) | ((with_reducible refine gate_callee (f := 60) rfl ?_); refine goesL_ (some 7) rfl rfl Tryz.func60 (by kernel_rfl) rfl #[.agg #[.int .i64 a0_0, .int .i64 a0_1, .slice A0_2 l0_2.length c0_2]] rfl sqA ?_; (with_reducible refine (impl_isDesk.calls k a0_0 a0_1 _ _ l0_2 true _ ?side1 ?side2 A3.out).mono ?_); (case side1 => exact Z5); (case side2 => exact Z6); rintro e w12 ⟨rfl, hb⟩; refine ⟨_, rfl, ?_⟩; replace BK387 := sqT BK387 hb; replace BK388 := sqT BK388 hb; replace BK389 := sqT BK389 hb; replace HB := sqS (sqB3 HB GE387 GE388 GE389) hb; (try clear hb); obtain ⟨hcz13_0, hcz13_1, hcz13_2, hfz13_0, hfz13_1, hfz13_2⟩ := sqY3 BK387; have hnb14 := NB388_389.out; have hnc14 := NB389_388.out; obtain ⟨hcz15_0, hcz15_1, hfz15_0, hfz15_1⟩ := sqY2 BK388) | ((with_reducible refine gate_callee (f := 61) rfl ?_); refine goesL_ (some 12) rfl rfl Tryz.func61 (by kernel_rfl) rfl #[.agg #[.int .i64 a0_0, .int .i64 a0_1, .slice A0_2 l0_2.length c0_2], .agg #[.int .i64 a1_0, .string a1_1]] rfl sqA ?_; (with_reducible refine (impl_deskDo.calls k a0_0 a0_1 _ _ l0_2 a1_0 a1_1 t391 t392 t393 t396 _ ?sideG ?side1 ?side2 A5.out).mono ?_); (case sideG => exact Glob.below hG (sqB3 HB GE387 GE388 GE389)); (case side1 => exact Z5); (case side2 => exact Z6); rintro e w16 ⟨v394, rfl, ho0, hb⟩; refine ⟨_, rfl, ?_⟩; have HO395 := sqL ho0 (sqB3 HB GE387 GE388 GE389); replace BK387 := sqT BK387 hb; replace BK388 := sqT BK388 hb; replace BK389 := sqT BK389 hb; replace HB := sqS (sqB3 HB GE387 GE388 GE389) hb; (try clear hb); (try clear ho0); obtain ⟨hcz17_0, hcz17_1, hcz17_2, hfz17_0, hfz17_1, hfz17_2⟩ := sqY3 BK389; obtain ⟨Ao18, co18, eo18⟩ := Kd.R_slice HO395.out; subst eo18))
  refine bodyPost_ret (results_ct rfl _ _ gb389 34 #[.int .i64 t391, .int .i64 t392, .slice Ao18 t393.length co18] (0, 0) _ rfl (by refine sqPut (cs := #[.int .i64 t391, .int .i64 t392, .slice none 0 0]) ?_ 2; refine sqPut (cs := #[.int .i64 t391, .int .i64 0, .slice none 0 0]) ?_ 1; refine sqPut (cs := #[.int .i64 0, .int .i64 0, .slice none 0 0]) ?_ 0; exact sqK BK389) Tryz.underlying34 rfl (by kernel_rfl)) rfl ?_
  exact ⟨_, Z3, by (with_reducible repeat (first | apply Kd.R_alloc | apply Kd.R_drewN | apply Kd.R_drew)); exact Kd.R_mono (Kd.R_far (p := ⟨gb389, 2, none⟩) (Kd.R_far (p := ⟨gb389, 1, none⟩) (Kd.R_far (p := ⟨gb389, 0, none⟩) (Kd.R_types HO395.out BK389.out (by decide)) (fun _ hk => hk.2) (.int .i64 t391)) (fun _ hk => hk.2) (.int .i64 t392)) (fun _ hk => hk.2) (.slice Ao18 t393.length co18)) (fun _ hk => trivial), sqB3 HB GE387 GE388 GE389⟩
 ·replace c4 := Bool.eq_false_iff.mpr c4
  subst c4
  have H1 : (some (0, 0, ([] : List (S31)), false)) = some (r1, r2, r3, r4) := by rw [if_neg (show ¬ (false = true) by decide)] at H; exact H
  clear H
  have H := H1
  clear H1
  simp only [Option.some.injEq, Prod.mk.injEq] at H
  obtain ⟨rfl, rfl, rfl, rfl⟩ := H
  go_enter Tryz.func17, Tryz.ntmps17
  go_wp2_with (first | ((with_reducible refine gate_dst (N := 2) rfl ?_); refine sqBox (N := 2) (cs := #[.int .i64 a0_0, .int .i64 a0_1, .slice A0_2 l0_2.length c0_2]) (t := 34) ?_; intro gb387 hg w19 BK387 hb; have GW387 := Aside0.mk ((sqG hg (sqB HB))); have GE387 := GW387; replace HB := sqS (sqB HB) hb; clear hb hg) | ((with_reducible refine gate_dst (N := 3) rfl ?_); refine sqBox (N := 3) (cs := #[.int .i64 a1_0, .string a1_1]) (t := 38) ?_; intro gb388 hg w20 BK388 hb; have GW388 := Aside0.mk ((sqG hg (sqB1 HB GE387))); have GE388 := GW388; replace HB := sqS (sqB1 HB GE387) hb; obtain ⟨NB387_388, NB388_387⟩ := sqM hg BK387; replace BK387 := sqT BK387 hb; clear hb hg) | ((with_reducible refine gate_dst (N := 4) rfl ?_); refine sqBox (N := 4) (cs := #[.int .i64 0, .int .i64 0, .slice none 0 0]) (t := 34) ?_; intro gb389 hg w21 BK389 hb; have GW389 := Aside0.mk ((sqG hg (sqB2 HB GE387 GE388))); have GE389 := GW389; replace HB := sqS (sqB2 HB GE387 GE388) hb; obtain ⟨NB387_389, NB389_387⟩ := sqM hg BK387; replace BK387 := sqT BK387 hb; obtain ⟨NB388_389, NB389_388⟩ := sqM hg BK388; replace BK388 := sqT BK388 hb; clear hb hg; have hnb22 := NB387_388.out; have hnc22 := NB388_387.out; have hnb23 := NB387_389.out; have hnc23 := NB389_387.out; obtain ⟨hcz24_0, hcz24_1, hcz24_2, hfz24_0, hfz24_1, hfz24_2⟩ := sqY3 BK387) | ((with_reducible refine gate_callee (f := 60) rfl ?_); refine goesL_ (some 7) rfl rfl Tryz.func60 (by kernel_rfl) rfl #[.agg #[.int .i64 a0_0, .int .i64 a0_1, .slice A0_2 l0_2.length c0_2]] rfl sqA ?_; (with_reducible refine (impl_isDesk.calls k a0_0 a0_1 _ _ l0_2 false _ ?side1 ?side2 A3.out).mono ?_); (case side1 => exact Z5); (case side2 => exact Z6); rintro e w25 ⟨rfl, hb⟩; refine ⟨_, rfl, ?_⟩; replace BK387 := sqT BK387 hb; replace BK388 := sqT BK388 hb; replace BK389 := sqT BK389 hb; replace HB := sqS (sqB3 HB GE387 GE388 GE389) hb; (try clear hb); have hnb26 := NB389_388.out; have hnc26 := NB388_389.out; obtain ⟨hcz27_0, hcz27_1, hcz27_2, hfz27_0, hfz27_1, hfz27_2⟩ := sqY3 BK389))
  refine bodyPost_ret (results_ct rfl _ _ gb389 34 #[.int .i64 0, .int .i64 0, .slice none 0 0] (0, 0) _ rfl (Z30 BK389) Tryz.underlying34 rfl (by kernel_rfl)) rfl ?_
  exact ⟨_, Z3, Z31, sqB3 HB GE387 GE388 GE389⟩

/-! ### laws_eqFraction: function 62 -/
def laws_eqFraction.f (a0_0 : Int) (a0_1 : Int) (a1_0 : Int) (a1_1 : Int) : Option (Bool) := if a0_0 = a1_0 then (if a0_1 = a1_1 then (some true) else (some false)) else (some false)
set_option maxHeartbeats 8000000 in
set_option maxRecDepth 100000 in
theorem laws_eqFraction.calls (a0_0 : Int) (a0_1 : Int) (a1_0 : Int) (a1_1 : Int) (r : Bool) (w : World) (h : laws_eqFraction.f a0_0 a0_1 a1_0 a1_1 = some r) :
  Calls Tryz.prog 62 #[.agg #[.int .i64 a0_0, .int .i64 a0_1], .agg #[.int .i64 a1_0, .int .i64 a1_1]] w fun e w' => e = .returned (.bool r) ∧ Below w.heap.size w w' := by
 have hu31 := Tryz.underlying31
 have HB := Aside0.mk (Below.refl w.heap.size w)
 have H : (if a0_0 = a1_0 then (if a0_1 = a1_1 then (some true) else (some false)) else (some false)) = some r := h
 clear h
 by_cases c3 : a0_0 = a1_0
 ·rw [if_pos c3] at H
  have c3b0 : (a0_0 == a1_0) = true := beq_iff_eq.mpr c3
  have c3b1 : (a0_0 != a1_0) = false := bne_eq_false_iff_eq.mpr c3
  clear c3
  by_cases c4 : a0_1 = a1_1
  ·rw [if_pos c4] at H
   have c4b0 : (a0_1 == a1_1) = true := beq_iff_eq.mpr c4
   have c4b1 : (a0_1 != a1_1) = false := bne_eq_false_iff_eq.mpr c4
   clear c4
   obtain rfl := Option.some.inj H
   go_enter Tryz.func62, Tryz.ntmps62
   go_wp2_with (first | ((with_reducible refine gate_dst (N := 2) rfl ?_); refine sqBox (N := 2) (cs := #[.int .i64 a0_0, .int .i64 a0_1]) (t := 31) ?_; intro gb397 hg w5 BK397 hb; have GW397 := Aside0.mk ((sqG hg (sqB HB))); have GE397 := GW397; replace HB := sqS (sqB HB) hb; clear hb hg) | ((with_reducible refine gate_dst (N := 3) rfl ?_); refine sqBox (N := 3) (cs := #[.int .i64 a1_0, .int .i64 a1_1]) (t := 31) ?_; intro gb398 hg w6 BK398 hb; have GW398 := Aside0.mk ((sqG hg (sqB1 HB GE397))); have GE398 := GW398; replace HB := sqS (sqB1 HB GE397) hb; obtain ⟨NB397_398, NB398_397⟩ := sqM hg BK397; replace BK397 := sqT BK397 hb; clear hb hg; have hnb7 := NB397_398.out; have hnc7 := NB398_397.out; obtain ⟨hcz8_0, hcz8_1, hfz8_0, hfz8_1⟩ := sqY2 BK397; obtain ⟨hcz9_0, hcz9_1, hfz9_0, hfz9_1⟩ := sqY2 BK398))
   go_ret
   exact ⟨Z3, sqB2 HB GE397 GE398⟩
  ·rw [if_neg c4] at H
   have c4b0 : (a0_1 == a1_1) = false := beq_eq_false_iff_ne.mpr c4
   have c4b1 : (a0_1 != a1_1) = true := bne_iff_ne.mpr c4
   obtain rfl := Option.some.inj H
   go_enter Tryz.func62, Tryz.ntmps62
   go_wp2_with (first | ((with_reducible refine gate_dst (N := 2) rfl ?_); refine sqBox (N := 2) (cs := #[.int .i64 a0_0, .int .i64 a0_1]) (t := 31) ?_; intro gb397 hg w10 BK397 hb; have GW397 := Aside0.mk ((sqG hg (sqB HB))); have GE397 := GW397; replace HB := sqS (sqB HB) hb; clear hb hg) | ((with_reducible refine gate_dst (N := 3) rfl ?_); refine sqBox (N := 3) (cs := #[.int .i64 a1_0, .int .i64 a1_1]) (t := 31) ?_; intro gb398 hg w11 BK398 hb; have GW398 := Aside0.mk ((sqG hg (sqB1 HB GE397))); have GE398 := GW398; replace HB := sqS (sqB1 HB GE397) hb; obtain ⟨NB397_398, NB398_397⟩ := sqM hg BK397; replace BK397 := sqT BK397 hb; clear hb hg; have hnb12 := NB397_398.out; have hnc12 := NB398_397.out; obtain ⟨hcz13_0, hcz13_1, hfz13_0, hfz13_1⟩ := sqY2 BK397; obtain ⟨hcz14_0, hcz14_1, hfz14_0, hfz14_1⟩ := sqY2 BK398))
   go_ret
   exact ⟨Z3, sqB2 HB GE397 GE398⟩
 ·rw [if_neg c3] at H
  have c3b0 : (a0_0 == a1_0) = false := beq_eq_false_iff_ne.mpr c3
  have c3b1 : (a0_0 != a1_0) = true := bne_iff_ne.mpr c3
  obtain rfl := Option.some.inj H
  go_enter Tryz.func62, Tryz.ntmps62
  go_wp2_with (first | ((with_reducible refine gate_dst (N := 2) rfl ?_); refine sqBox (N := 2) (cs := #[.int .i64 a0_0, .int .i64 a0_1]) (t := 31) ?_; intro gb397 hg w15 BK397 hb; have GW397 := Aside0.mk ((sqG hg (sqB HB))); have GE397 := GW397; replace HB := sqS (sqB HB) hb; clear hb hg) | ((with_reducible refine gate_dst (N := 3) rfl ?_); refine sqBox (N := 3) (cs := #[.int .i64 a1_0, .int .i64 a1_1]) (t := 31) ?_; intro gb398 hg w16 BK398 hb; have GW398 := Aside0.mk ((sqG hg (sqB1 HB GE397))); have GE398 := GW398; replace HB := sqS (sqB1 HB GE397) hb; obtain ⟨NB397_398, NB398_397⟩ := sqM hg BK397; replace BK397 := sqT BK397 hb; clear hb hg; have hnb17 := NB397_398.out; have hnc17 := NB398_397.out; obtain ⟨hcz18_0, hcz18_1, hfz18_0, hfz18_1⟩ := sqY2 BK397; obtain ⟨hcz19_0, hcz19_1, hfz19_0, hfz19_1⟩ := sqY2 BK398))
  go_ret
  exact ⟨Z3, sqB2 HB GE397 GE398⟩

end Go.Proofs.YtofmlbgfcohhoaaGreatDoor.PFnExactDeskDo
