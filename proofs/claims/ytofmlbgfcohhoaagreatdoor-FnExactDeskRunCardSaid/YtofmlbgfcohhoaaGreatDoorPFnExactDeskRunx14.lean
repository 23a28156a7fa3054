/- Lean functions of the Go functions that the law FnExactDeskRun reaches, each with its contract: made by a program of this session. -/
import Derived.Test.YtofmlbgfcohhoaaGreatDoorPFnExactDeskRunx0
import Derived.Test.YtofmlbgfcohhoaaGreatDoorPFnExactDeskRunx1
import Derived.Test.YtofmlbgfcohhoaaGreatDoorPFnExactDeskRunx2
import Derived.Test.YtofmlbgfcohhoaaGreatDoorPFnExactDeskRunx8
import Derived.Test.YtofmlbgfcohhoaaGreatDoorPFnExactDeskRunx13
namespace Go.Proofs.YtofmlbgfcohhoaaGreatDoor.PFnExactDeskRun
open Go.RowKit Go.Proofs.YtofmlbgfcohhoaaGreatDoorW.PrintWords Go.Proofs.YtofmlbgfcohhoaaGreatDoorW.PrintLast Go.Proofs.YtofmlbgfcohhoaaGreatDoorW.PrintMore Go.Proofs.YtofmlbgfcohhoaaGreatDoor.Lib
attribute [local go_sem] max2_int min2_int max_two min_two max_three min_three max_four min_four   -- for this text's walks alone
set_option linter.unusedVariables false
set_option linter.unusedSimpArgs false

attribute [local go_sem high] eqA31 eqA38
/-! ### spec_DeskDo: function 14 -/
mutual
def spec_DeskDo.j0 : Nat → Bool → Int → Int → List (S31) → Int → ByteArray → Int → Int → List (S31) → Option (Int × Int × (List (S31)) × Bool)
 | 0, _, _, _, _, _, _, _, _, _ => none
 | k + 1, x24, x395000, x395001, x395002, x396000, x396001, x404000, x404001, x404002 => if x24 = true then (if 0 ≤ (wrap64 ((x404002.length : Int) - 1)) then (if (wrap64 ((x404002.length : Int) - 1)) < (x404002.length : Int) then (if (wrap64 ((x404002.length : Int) - 1)) ≤ (x404002.length : Int) then (some ((rd_T31 x404002 (wrap64 ((x404002.length : Int) - 1))).f0, (rd_T31 x404002 (wrap64 ((x404002.length : Int) - 1))).f1, (x404002.take ((wrap64 ((x404002.length : Int) - 1)) : Int).toNat), true)) else (none)) else (none)) else (none)) else ((spec_l11Made.f k x395000 x395001 x396000 x396001).bind fun bt408 => (if bt408.2.2 = true then (spec_DeskDo.j1 k (bt408.1 == x395000 && (bt408.2.1 == x395001)) x404000 x404001 x404002 bt408.1 bt408.2.1) else (spec_DeskDo.j1 k true x404000 x404001 x404002 bt408.1 bt408.2.1)))
def spec_DeskDo.j1 : Nat → Bool → Int → Int → List (S31) → Int → Int → Option (Int × Int × (List (S31)) × Bool)
 | 0, _, _, _, _, _, _ => none
 | k + 1, x55, x404000, x404001, x404002, x412000, x412001 => if x55 = true then (some (x404000, x404001, x404002, false)) else (if x404002.length < 8796093022208 then ((some (x404002 ++ [(⟨x404000, x404001⟩ : S31)] : List (S31))).bind fun y412 => (if (y412.length : Int) > 8 then (if 1 ≤ (y412.length : Int) then (some (x412000, x412001, (y412.drop (1 : Int).toNat), true)) else (none)) else (some (x412000, x412001, y412, true)))) else (none))
end
def spec_DeskDo.f (k : Nat) (a0_0 : Int) (a0_1 : Int) (l0_2 : List (S31)) (a1_0 : Int) (a1_1 : ByteArray) : Option (Int × Int × (List (S31)) × Bool) := (spec_DeskOk.f k a0_0 a0_1 l0_2).bind fun t397 => (if t397 = true then ((spec_l11Copy.f a0_0 a0_1 l0_2).bind fun bt398 => (if (a1_0 == 4 && (a1_1.toList == ([] : List UInt8))) = true then (spec_DeskDo.j0 k (decide ((l0_2.length : Int) > 0)) a0_0 a0_1 l0_2 a1_0 a1_1 bt398.1 bt398.2.1 bt398.2.2) else (spec_DeskDo.j0 k false a0_0 a0_1 l0_2 a1_0 a1_1 bt398.1 bt398.2.1 bt398.2.2))) else (some (0, 0, ([] : List (S31)), false)))
theorem spec_DeskDo.mono_l : ∀ k, (∀ y0 y1 y2 y3 y4 y5 y6 y7 y8, LeO (spec_DeskDo.j0 k y0 y1 y2 y3 y4 y5 y6 y7 y8) (spec_DeskDo.j0 (k + 1) y0 y1 y2 y3 y4 y5 y6 y7 y8)) ∧ (∀ y0 y1 y2 y3 y4 y5, LeO (spec_DeskDo.j1 k y0 y1 y2 y3 y4 y5) (spec_DeskDo.j1 (k + 1) y0 y1 y2 y3 y4 y5))
 | 0 => ⟨fun _ _ _ _ _ _ _ _ _ r h => by simp [spec_DeskDo.j0] at h, fun _ _ _ _ _ _ r h => by simp [spec_DeskDo.j1] at h⟩
 | k + 1 => by
  obtain ⟨ih0, ih1⟩ := spec_DeskDo.mono_l k
  refine ⟨?_, ?_⟩
  ·intro y0 y1 y2 y3 y4 y5 y6 y7 y8
   unfold spec_DeskDo.j0
   repeat' first
   | (with_reducible exact ih0 _ _ _ _ _ _ _ _ _)
   | (with_reducible exact ih1 _ _ _ _ _ _)
   | (with_reducible exact spec_DeskOk.mono _ _ _ _)
   | (with_reducible exact spec_l11Made.mono _ _ _ _ _)
   | (with_reducible exact LeO.refl _)
   | (with_reducible exact LeO.none _)
   | (with_reducible refine LeO.ite ?_ ?_)
   | (with_reducible refine LeO.bind ?_ (fun _ => ?_))
  ·intro y0 y1 y2 y3 y4 y5
   unfold spec_DeskDo.j1
   repeat' first
   | (with_reducible exact ih0 _ _ _ _ _ _ _ _ _)
   | (with_reducible exact ih1 _ _ _ _ _ _)
   | (with_reducible exact spec_DeskOk.mono _ _ _ _)
   | (with_reducible exact spec_l11Made.mono _ _ _ _ _)
   | (with_reducible exact LeO.refl _)
   | (with_reducible exact LeO.none _)
   | (with_reducible refine LeO.ite ?_ ?_)
   | (with_reducible refine LeO.bind ?_ (fun _ => ?_))
theorem spec_DeskDo.mono : ∀ a0 a1 a2 a3 a4 k, LeO (spec_DeskDo.f k a0 a1 a2 a3 a4) (spec_DeskDo.f (k + 1) a0 a1 a2 a3 a4) := by
 intro a0 a1 a2 a3 a4 k
 obtain ⟨ih0, ih1⟩ := spec_DeskDo.mono_l k
 unfold spec_DeskDo.f
 repeat' first
   | (with_reducible exact ih0 _ _ _ _ _ _ _ _ _)
   | (with_reducible exact ih1 _ _ _ _ _ _)
   | (with_reducible exact spec_DeskOk.mono _ _ _ _)
   | (with_reducible exact spec_l11Made.mono _ _ _ _ _)
   | (with_reducible exact LeO.refl _)
   | (with_reducible exact LeO.none _)
   | (with_reducible refine LeO.ite ?_ ?_)
   | (with_reducible refine LeO.bind ?_ (fun _ => ?_))
set_option maxHeartbeats 8000000 in
set_option maxRecDepth 100000 in
theorem spec_DeskDo.calls (k : Nat) (a0_0 : Int) (a0_1 : Int) (A0_2 : Option Addr) (c0_2 : Nat) (l0_2 : List (S31)) (a1_0 : Int) (a1_1 : ByteArray) (r1 : Int) (r2 : Int) (r3 : List (S31)) (r4 : Bool) (w : World) (hr0_2 : Kd.C k31 w A0_2 l0_2.length l0_2) (hc0_2 : l0_2.length ≤ c0_2) (h : spec_DeskDo.f k a0_0 a0_1 l0_2 a1_0 a1_1 = some (r1, r2, r3, r4)) :
  Calls Tryz.prog 14 #[.agg #[.int .i64 a0_0, .int .i64 a0_1, .slice A0_2 l0_2.length c0_2], .agg #[.int .i64 a1_0, .string a1_1]] w fun e w' => ∃ v2_ : Value, e = .returned (.tuple #[.agg #[.int .i64 r1, .int .i64 r2, v2_], .bool r4]) ∧ Kd.Q k31 31 w' w.heap.size (fun _ => True) v2_ r3 ∧ Below w.heap.size w w' := by
 have hu34 := Tryz.underlying34
 have hu38 := Tryz.underlying38
 have hu31 := Tryz.underlying31
 have HR0_2 := Aside0.mk hr0_2
 have HC0_2 := Aside0.mk hc0_2
 clear hr0_2 hc0_2
 have HB := Aside0.mk (Below.refl w.heap.size w)
 have H : ((spec_DeskOk.f k a0_0 a0_1 l0_2).bind fun t397 => (if t397 = true then ((spec_l11Copy.f a0_0 a0_1 l0_2).bind fun bt398 => (if (a1_0 == 4 && (a1_1.toList == ([] : List UInt8))) = true then (spec_DeskDo.j0 k (decide ((l0_2.length : Int) > 0)) a0_0 a0_1 l0_2 a1_0 a1_1 bt398.1 bt398.2.1 bt398.2.2) else (spec_DeskDo.j0 k false a0_0 a0_1 l0_2 a1_0 a1_1 bt398.1 bt398.2.1 bt398.2.2))) else (some (0, 0, ([] : List (S31)), false)))) = some (r1, r2, r3, r4) := h
 clear h
 obtain ⟨t397, A3, H⟩ := sqD H
 by_cases c4 : t397 = true
 ·subst c4
  have H1 : ((spec_l11Copy.f a0_0 a0_1 l0_2).bind fun bt398 => (if (a1_0 == 4 && (a1_1.toList == ([] : List UInt8))) = true then (spec_DeskDo.j0 k (decide ((l0_2.length : Int) > 0)) a0_0 a0_1 l0_2 a1_0 a1_1 bt398.1 bt398.2.1 bt398.2.2) else (spec_DeskDo.j0 k false a0_0 a0_1 l0_2 a1_0 a1_1 bt398.1 bt398.2.1 bt398.2.2))) = some (r1, r2, r3, r4) := by rw [if_pos rfl] at H; exact H
  clear H
  have H := H1
  clear H1
  replace H := Option.bind_eq_some_iff.mp H
  obtain ⟨⟨t398, t399, t400⟩, A50, H⟩ := H
  replace H : (if (a1_0 == 4 && (a1_1.toList == ([] : List UInt8))) = true then (spec_DeskDo.j0 k (decide ((l0_2.length : Int) > 0)) a0_0 a0_1 l0_2 a1_0 a1_1 t398 t399 t400) else (spec_DeskDo.j0 k false a0_0 a0_1 l0_2 a1_0 a1_1 t398 t399 t400)) = some (r1, r2, r3, r4) := H
  have A5 := Aside0.mk A50
  clear A50
  have HC6 := Aside0.mk H
  clear H
  go_enter Tryz.func14, Tryz.ntmps14
  go_upto_region 4 with (first | ((with_reducible refine gate_dst (N := 2) rfl ?_); (try (refine gate_guard (by rfl) ?_; dsimp only)); refine sqBox (N := 2) (cs := #[.int .i64 a0_0, .int .i64 a0_1, .slice A0_2 l0_2.length c0_2]) (t := 34) ?_; intro gb394 hg w7 BK394 hb; have GW394 := Aside0.mk ((sqG hg (sqB HB))); have GE394 := GW394; replace HB := sqS (sqB HB) hb; clear hb hg) | ((with_reducible refine gate_dst (N := 3) rfl ?_); (try (refine gate_guard (by rfl) ?_; dsimp only)); refine sqBox (N := 3) (cs := #[.int .i64 a1_0, .string a1_1]) (t := 38) ?_; intro gb395 hg w8 BK395 hb; have GW395 := Aside0.mk ((sqG hg (sqB1 HB GE394))); have GE395 := GW395; replace HB := sqS (sqB1 HB GE394) hb; obtain ⟨NB394_395, NB395_394⟩ := sqM hg BK394; replace BK394 := sqT BK394 hb; clear hb hg) | ((with_reducible refine gate_dst (N := 4) rfl ?_); (try (refine gate_guard (by rfl) ?_; dsimp only)); refine sqBox (N := 4) (cs := #[.int .i64 0, .int .i64 0, .slice none 0 0]) (t := 34) ?_; intro gb396 hg w9 BK396 hb; have GW396 := Aside0.mk ((sqG hg (sqB2 HB GE394 GE395))); have GE396 := GW396; replace HB := sqS (sqB2 HB GE394 GE395) hb; obtain ⟨NB394_396, NB396_394⟩ := sqM hg BK394; replace BK394 := sqT BK394 hb; obtain ⟨NB395_396, NB396_395⟩ := sqM hg BK395; replace BK395 := sqT BK395 hb; clear hb hg; have hnb10 := NB394_395.out; have hnc10 := NB395_394.out; have hnb11 := NB394_396.out; have hnc11 := NB396_394.out; obtain ⟨hcz12_0, hcz12_1, hcz12_2, hfz12_0, hfz12_1, hfz12_2⟩ := sqY3 BK394) | ((with_reducible refine gate_callee (f := 30) rfl ?_); refine goesL_ (some 11) rfl rfl Tryz.func30 (by kernel_rfl) rfl #[.agg #[.int .i64 a0_0, .int .i64 a0_1, .slice A0_2 l0_2.length c0_2]] rfl sqA ?_; (with_reducible refine (spec_DeskOk.calls k a0_0 a0_1 _ _ l0_2 true _ ?side1 ?side2 A3.out).mono ?_); (case side1 => exact Z27); (case side2 => exact Z28); rintro e w13 ⟨rfl, hb⟩; refine ⟨_, rfl, ?_⟩; replace BK394 := sqT BK394 hb; replace BK395 := sqT BK395 hb; replace BK396 := sqT BK396 hb; replace HB := sqS (sqB3 HB GE394 GE395 GE396) hb; (try clear hb); obtain ⟨hcz14_0, hcz14_1, hcz14_2, hfz14_0, hfz14_1, hfz14_2⟩ := sqY3 BK394) | ((with_reducible refine gate_callee (f := 56) rfl ?_); refine goesL_ (some 15) rfl rfl Tryz.func56 (by kernel_rfl) rfl #[.agg #[.int .i64 a0_0, .int .i64 a0_1, .slice A0_2 l0_2.length c0_2]] rfl sqA ?_; (with_reducible refine (spec_l11Copy.calls a0_0 a0_1 _ _ l0_2 t398 t399 t400 _ ?side1 ?side2 A5.out).mono ?_); (case side1 => exact Z27); (case side2 => exact Z28); rintro e w15 ⟨v401, rfl, ho0, hb⟩; refine ⟨_, rfl, ?_⟩; have HO402 := sqL ho0 (sqB3 HB GE394 GE395 GE396); replace BK394 := sqT BK394 hb; replace BK395 := sqT BK395 hb; replace BK396 := sqT BK396 hb; replace HB := sqS (sqB3 HB GE394 GE395 GE396) hb; (try clear hb); (try clear ho0)) | ((with_reducible refine gate_dst (N := 6) rfl ?_); (try (refine gate_guard (by rfl) ?_; dsimp only)); refine sqBox (N := 6) (cs := #[.int .i64 0, .int .i64 0, .slice none 0 0]) (t := 34) ?_; intro gb403 hg w16 BK403 hb; replace HO402 := sqU HO402 hb; have GW403 := Aside0.mk ((sqG hg (sqB3 HB GE394 GE395 GE396))); have GE403 := GW403; replace HB := sqS (sqB3 HB GE394 GE395 GE396) hb; obtain ⟨NB394_403, NB403_394⟩ := sqM hg BK394; replace BK394 := sqT BK394 hb; obtain ⟨NB395_403, NB403_395⟩ := sqM hg BK395; replace BK395 := sqT BK395 hb; obtain ⟨NB396_403, NB403_396⟩ := sqM hg BK396; replace BK396 := sqT BK396 hb; clear hb hg; have hnb17 := NB403_394.out; have hnc17 := NB394_403.out; have hnb18 := NB403_395.out; have hnc18 := NB395_403.out; have hnb19 := NB403_396.out; have hnc19 := NB396_403.out; obtain ⟨hcz20_0, hcz20_1, hcz20_2, hfz20_0, hfz20_1, hfz20_2⟩ := sqY3 BK403; obtain ⟨Ao21, co21, eo21⟩ := Kd.R_slice HO402.out; subst eo21))
  (try simp only [Act.put, List.setIfInBounds_toArray, List.set_cons_zero, List.set_cons_succ])
  go_cut [24] (fun v24 wc => ∃ (kq : Nat) (x24_5 : Bool), v24 = .bool x24_5 ∧ Aside0 (spec_DeskDo.j0 kq x24_5 a0_0 a0_1 l0_2 a1_0 a1_1 t398 t399 t400 = some (r1, r2, r3, r4)) ∧ Aside0 (kq ≤ k) ∧ Aside0 (Kd.Q k31 31 wc w.heap.size (fun _ => True) (.slice Ao21 t400.length co21) t400) ∧ Aside0 (wc.heap[gb394]? = some (.cells #[.int .i64 a0_0, .int .i64 a0_1, (.slice A0_2 l0_2.length c0_2)] 34 (0, 0))) ∧ Aside0 (wc.heap[gb395]? = some (.cells #[.int .i64 a1_0, .string a1_1] 38 (0, 0))) ∧ Aside0 (wc.heap[gb396]? = some (.cells #[.int .i64 0, .int .i64 0, (.slice none 0 0)] 34 (0, 0))) ∧ Aside0 (wc.heap[gb403]? = some (.cells #[.int .i64 t398, .int .i64 t399, (.slice Ao21 t400.length co21)] 34 (0, 0))) ∧ Aside0 (Below w.heap.size w wc))
  case first =>
   have H := HC6.out
   clear HC6
   by_cases c22 : (a1_0 == 4 && (a1_1.toList == ([] : List UInt8))) = true
   ·rw [if_pos c22] at H
    have c22b0 : (a1_0 == 4 && (a1_1.toList == ([] : List UInt8))) = true := c22
    try have c22b8 : (a1_0 == 4 && a1_1.toList.isEmpty) = true := by (have h_ := c22b0; (repeat rw [show ∀ z : List UInt8, (z == ([] : List UInt8)) = z.isEmpty from fun z => by cases z <;> rfl] at h_); exact h_)
    (try (have c22b1 : decide (a1_0 = 4 && (a1_1.toList == ([] : List UInt8))) = true := by simpa using c22))
    (try (have c22b2 : (a1_0 == 4 && (a1_1.toList == ([] : List UInt8))) = true := by simpa using c22))
    clear c22
    (first | rw [c22b0] | (simp only [i64_w, i32_w]; rw [c22b0]) | skip)
    have H' := Aside0.mk H
    clear H
    have hnb23 := NB395_394.out
    have hnc23 := NB394_395.out
    have hnb24 := NB395_396.out
    have hnc24 := NB396_395.out
    have hnb25 := NB395_403.out
    have hnc25 := NB403_395.out
    obtain ⟨hcz26_0, hcz26_1, hfz26_0, hfz26_1⟩ := sqY2 BK395
    have hnb27 := NB394_396.out
    have hnc27 := NB396_394.out
    have hnb28 := NB394_403.out
    have hnc28 := NB403_394.out
    obtain ⟨hcz29_0, hcz29_1, hcz29_2, hfz29_0, hfz29_1, hfz29_2⟩ := sqY3 BK394
    go_wp2
    go_meet
    case rel => exact ⟨_, (decide ((l0_2.length : Int) > 0)), Z2, H', ⟨Z3⟩, ⟨Kd.Q_of_R (Z29 HO402 BK403)⟩, ⟨Z30 NB394_403 BK394⟩, ⟨Z30 NB395_403 BK395⟩, ⟨Z30 NB396_403 BK396⟩, ⟨Z31 BK403⟩, ⟨sqB4 HB GE394 GE395 GE396 GE403⟩⟩
   ·rw [if_neg c22] at H
    have c22b0 : (a1_0 == 4 && (a1_1.toList == ([] : List UInt8))) = false := by simpa using c22
    try have c22b8 : (a1_0 == 4 && a1_1.toList.isEmpty) = false := by (have h_ := c22b0; (repeat rw [show ∀ z : List UInt8, (z == ([] : List UInt8)) = z.isEmpty from fun z => by cases z <;> rfl] at h_); exact h_)
    (try (have c22b1 : decide (a1_0 = 4 && (a1_1.toList == ([] : List UInt8))) = false := by simpa using c22))
    (try (have c22b2 : (a1_0 == 4 && (a1_1.toList == ([] : List UInt8))) = false := by simpa using c22))
    (try (have c22b3 : ¬ (a1_0 = 4 && (a1_1.toList == ([] : List UInt8))) := by simpa using c22))
    clear c22
    (first | rw [c22b0] | (simp only [i64_w, i32_w]; rw [c22b0]) | skip)
    have H' := Aside0.mk H
    clear H
    have hnb30 := NB395_394.out
    have hnc30 := NB394_395.out
    have hnb31 := NB395_396.out
    have hnc31 := NB396_395.out
    have hnb32 := NB395_403.out
    have hnc32 := NB403_395.out
    obtain ⟨hcz33_0, hcz33_1, hfz33_0, hfz33_1⟩ := sqY2 BK395
    go_wp2
    go_meet
    case rel => exact ⟨_, (false), Z2, H', ⟨Z3⟩, ⟨Kd.Q_of_R (Z29 HO402 BK403)⟩, ⟨Z30 NB394_403 BK394⟩, ⟨Z30 NB395_403 BK395⟩, ⟨Z30 NB396_403 BK396⟩, ⟨Z31 BK403⟩, ⟨sqB4 HB GE394 GE395 GE396 GE403⟩⟩
  case rest =>
   clear HC6
   try clear c1; try clear c2; try clear p2; try clear c3; try clear c4; try clear c5; try clear c10; try clear c11; try clear c14; try clear c17; try clear c18; try clear c19; try clear c22; try clear c22b0; try clear c22b1; try clear c22b2; try clear c23; try clear c24; try clear c25; try clear c27; try clear c28; try clear c30; try clear c31; try clear c32; try clear hcz12_0; try clear hcz12_1; try clear hcz12_2; try clear hcz14_0; try clear hcz14_1; try clear hcz14_2; try clear hcz20_0; try clear hcz20_1; try clear hcz20_2; try clear hcz26_0; try clear hcz26_1; try clear hcz29_0; try clear hcz29_1; try clear hcz29_2; try clear hcz33_0; try clear hcz33_1; try clear hfz12_0; try clear hfz12_1; try clear hfz12_2; try clear hfz14_0; try clear hfz14_1; try clear hfz14_2; try clear hfz20_0; try clear hfz20_1; try clear hfz20_2; try clear hfz26_0; try clear hfz26_1; try clear hfz29_0; try clear hfz29_1; try clear hfz29_2; try clear hfz33_0; try clear hfz33_1
   obtain ⟨kq, x24_5, rfl, HA, HJ5, HO_404002, BK394, BK395, BK396, BK403, HB⟩ := hcut
   cases kq with
   | zero => exact absurd HA.out (by simp [spec_DeskDo.j0])
   | succ kj5 =>
    have H := HA.out
    clear HA
    simp only [spec_DeskDo.j0] at H
    by_cases c34 : x24_5 = true
    ·subst c34
     have H1 : (if 0 ≤ (wrap64 ((t400.length : Int) - 1)) then (if (wrap64 ((t400.length : Int) - 1)) < (t400.length : Int) then (if (wrap64 ((t400.length : Int) - 1)) ≤ (t400.length : Int) then (some ((rd_T31 t400 (wrap64 ((t400.length : Int) - 1))).f0, (rd_T31 t400 (wrap64 ((t400.length : Int) - 1))).f1, (t400.take ((wrap64 ((t400.length : Int) - 1)) : Int).toNat), true)) else (none)) else (none)) else (none)) = some (r1, r2, r3, r4) := by rw [if_pos rfl] at H; exact H
     clear H
     have H := H1
     clear H1
     obtain ⟨ji35, hji35⟩ : ∃ j_ : Int, (wrap64 ((t400.length : Int) - 1)) = j_ := ⟨_, rfl⟩
     replace H : (if 0 ≤ (ji35) then (if (ji35) < (t400.length : Int) then (if (ji35) ≤ (t400.length : Int) then (some ((rd_T31 t400 (ji35)).f0, (rd_T31 t400 (ji35)).f1, (t400.take ((ji35) : Int).toNat), true)) else (none)) else (none)) else (none)) = some (r1, r2, r3, r4) := by first | (rw [hji35] at H; exact H) | (simp only [hji35] at H ⊢; exact H)
     have hji35w : (IntKind.i64.wrap ((t400.length : Int) - 1)) = ji35 := (i64_w _).trans hji35
     by_cases c36 : 0 ≤ (ji35)
     ·rw [if_pos c36] at H
      have c36b0 : decide (0 ≤ (ji35)) = true := decide_eq_true c36
      clear c36
      by_cases c37 : (ji35) < (t400.length : Int)
      ·rw [if_pos c37] at H
       have c37b0 : decide ((ji35) < (t400.length : Int)) = true := decide_eq_true c37
       clear c37
       by_cases c38 : (ji35) ≤ (t400.length : Int)
       ·rw [if_pos c38] at H
        have c38b0 := eq_true c38
        have c38b1 : decide ((ji35) ≤ (t400.length : Int)) = true := decide_eq_true c38
        clear c38
        obtain ⟨y405, hy405⟩ : ∃ y_ : List (S31), y_ = (t400.take ((ji35) : Int).toNat) := ⟨_, rfl⟩
        replace H : (some ((rd_T31 t400 (ji35)).f0, (rd_T31 t400 (ji35)).f1, y405, true)) = some (r1, r2, r3, r4) := by first | (rw [hy405]; with_reducible exact H) | (have H2_ := (Option.bind_some _ _).symm.trans H; rw [hy405]; with_reducible exact H2_) | (have H2_ := (Option.bind_some _ _).symm.trans H; with_reducible exact H2_) | with_reducible exact H | (rw [hy405]; exact H) | exact H
        have Ny405 := Aside0.mk hy405
        clear hy405
        simp only [Option.some.injEq, Prod.mk.injEq] at H
        obtain ⟨rfl, rfl, rfl, rfl⟩ := H
        have hnb39 := NB403_394.out
        have hnc39 := NB394_403.out
        have hnb40 := NB403_395.out
        have hnc40 := NB395_403.out
        have hnb41 := NB403_396.out
        have hnc41 := NB396_403.out
        obtain ⟨hcz42_0, hcz42_1, hcz42_2, hfz42_0, hfz42_1, hfz42_2⟩ := sqY3 BK403
        have p404 : 0 ≤ ((ji35) : Int) := of_decide_eq_true Z8
        have q404 : (ji35) < (t400.length : Int) := of_decide_eq_true Z8
        obtain ⟨ad404, e404, hx404_0, hx404_1⟩ := at_T31 (Kd.Q_reads' HO_404002.out).2.2 (ji35) p404 q404
        cases e404
        replace p404 := eq_true p404
        replace q404 := eq_true q404
        go_wp2_with (first | ((with_reducible refine gate_store (t := 31) (p := 34) rfl ?_); refine store_event (t := 31) (p := 34) (v := ?vo_w43) (w1 := ((wc.setCell ⟨gb403, 0, none⟩ (.int .i64 ((rd_T31 t400 (ji35)).f0))).setCell ⟨gb403, 1, none⟩ (.int .i64 ((rd_T31 t400 (ji35)).f1)))) ?hg ?ho ?hn ?hr ?_; (case ho => rfl); (case hg => rfl); (case hn => rfl); (case hr => exact Z11); intro w43 hw; replace HO_404002 : Aside0 (Kd.Q k31 31 w43 w.heap.size (fun _ => True) (.slice (some ad404) t400.length co21) t400) := ⟨(by rw [hw]; exact (by (with_reducible repeat (first | apply Kd.Q_alloc | apply Kd.Q_drewN | apply Kd.Q_drew)); exact Kd.Q_mono (Kd.Q_far (p := ⟨gb403, 1, none⟩) (Kd.Q_far (p := ⟨gb403, 0, none⟩) (Kd.Q_types HO_404002.out BK403.out (by decide)) (fun _ hk => hk.2) (.int .i64 ((rd_T31 t400 (ji35)).f0))) (fun _ hk => hk.2) (.int .i64 ((rd_T31 t400 (ji35)).f1))) (fun _ hk => trivial)))⟩; replace BK394 : Aside0 (w43.heap[gb394]? = some (.cells #[.int .i64 a0_0, .int .i64 a0_1, .slice A0_2 l0_2.length c0_2] 34 (0, 0))) := ⟨(by rw [hw]; exact (Z5 NB394_403 BK394))⟩; replace BK395 : Aside0 (w43.heap[gb395]? = some (.cells #[.int .i64 a1_0, .string a1_1] 38 (0, 0))) := ⟨(by rw [hw]; exact (Z5 NB395_403 BK395))⟩; replace BK396 : Aside0 (w43.heap[gb396]? = some (.cells #[.int .i64 0, .int .i64 0, .slice none 0 0] 34 (0, 0))) := ⟨(by rw [hw]; exact (Z5 NB396_403 BK396))⟩; replace BK403 : Aside0 (w43.heap[gb403]? = some (.cells #[.int .i64 ((rd_T31 t400 (ji35)).f0), .int .i64 ((rd_T31 t400 (ji35)).f1), .slice (some ad404) t400.length co21] 34 (0, 0))) := ⟨(by rw [hw]; exact (by refine sqPut (cs := #[.int .i64 ((rd_T31 t400 (ji35)).f0), .int .i64 t399, .slice (some ad404) t400.length co21]) ?_ 1; refine sqPut (cs := #[.int .i64 t398, .int .i64 t399, .slice (some ad404) t400.length co21]) ?_ 0; exact sqK BK403))⟩; replace HB : Aside0 (Below w.heap.size w w43) := ⟨(by rw [hw]; exact (sqB4 HB GE394 GE395 GE396 GE403))⟩; clear hw; have hcz44_0 : w43.cell? ⟨gb403, 0, none⟩ = some (.int .i64 ((rd_T31 t400 (ji35)).f0)) := (blk_cell BK403.out 0).trans rfl; have hcz44_1 : w43.cell? ⟨gb403, 1, none⟩ = some (.int .i64 ((rd_T31 t400 (ji35)).f1)) := (blk_cell BK403.out 1).trans rfl; have hcz44_2 := sqZ BK403 2 (.slice (some ad404) t400.length co21); have hfz44_0 := blk_frozen BK403.out 0; have hfz44_1 := blk_frozen BK403.out 1; have hfz44_2 := blk_frozen BK403.out 2; have q45 : ((ji35) : Int) ≤ ((t400.length : Int) : Int) := of_decide_eq_true Z8; obtain ⟨i045, hi045, _, hsz45, _⟩ := info_parts info31; have hcut45 := cut_to (P := Tryz.prog) 32 31 .i64 Tryz.underlying32 hi045 (some ad404) t400.length co21 (ji35) (of_decide_eq_true Z8) q45 (Kd.Q_reads' HO_404002.out).2.1; have hr45 := Kd.Q_take (m := ((ji35) : Int).toNat) HO_404002.out (by omega); have hy45 : y405.length = ((ji35) : Int).toNat := (by rw [Ny405.out, List.length_take]; omega); rw [← Ny405.out] at hr45; rw [← hy45] at hr45 hcut45; clear hy45 hi045 hsz45 HO_404002; have HO407 := Aside0.mk hr45; clear hr45; replace q45 := eq_true q45; have hnb46 := NB396_394.out; have hnc46 := NB394_396.out; have hnb47 := NB396_395.out; have hnc47 := NB395_396.out; obtain ⟨hcz48_0, hcz48_1, hcz48_2, hfz48_0, hfz48_1, hfz48_2⟩ := sqY3 BK396))
        refine bodyPost_ret (results_ct rfl _ _ gb396 34 #[.int .i64 ((rd_T31 t400 (ji35)).f0), .int .i64 ((rd_T31 t400 (ji35)).f1), .slice (some ad404) y405.length co21] (0, 0) _ rfl (by refine sqPut (cs := #[.int .i64 ((rd_T31 t400 (ji35)).f0), .int .i64 ((rd_T31 t400 (ji35)).f1), .slice none 0 0]) ?_ 2; refine sqPut (cs := #[.int .i64 ((rd_T31 t400 (ji35)).f0), .int .i64 0, .slice none 0 0]) ?_ 1; refine sqPut (cs := #[.int .i64 0, .int .i64 0, .slice none 0 0]) ?_ 0; refine sqFar ?_ NB396_403; exact sqK BK396) Tryz.underlying34 rfl (by kernel_rfl)) rfl ?_
        exact ⟨_, by first | rfl | (simp [errP_none, errP_some] <;> rfl) | (simp only [← hji35]; first | rfl | (simp [errP_none, errP_some] <;> rfl)) | (simp [*, errP_none, errP_some] <;> rfl), (by (with_reducible repeat (first | apply Kd.Q_alloc | apply Kd.Q_drewN | apply Kd.Q_drew)); exact Kd.Q_mono (Kd.Q_far (p := ⟨gb396, 2, none⟩) (Kd.Q_far (p := ⟨gb396, 1, none⟩) (Kd.Q_far (p := ⟨gb396, 0, none⟩) (Kd.Q_far (p := ⟨gb403, 2, none⟩) (Kd.Q_types (Kd.Q_types HO407.out BK403.out (by decide)) BK396.out (by decide)) (fun _ hk => hk.1.2) (.slice (some ad404) y405.length co21)) (fun _ hk => hk.2) (.int .i64 ((rd_T31 t400 (ji35)).f0))) (fun _ hk => hk.2) (.int .i64 ((rd_T31 t400 (ji35)).f1))) (fun _ hk => hk.2) (.slice (some ad404) y405.length co21)) (fun _ hk => trivial)), sqB4 HB GE394 GE395 GE396 GE403⟩
       ·rw [if_neg c38] at H
        exact absurd H (by simp)
      ·rw [if_neg c37] at H
       exact absurd H (by simp)
     ·rw [if_neg c36] at H
      exact absurd H (by simp)
    ·replace c34 := Bool.eq_false_iff.mpr c34
     subst c34
     have H1 : ((spec_l11Made.f kj5 a0_0 a0_1 a1_0 a1_1).bind fun bt408 => (if bt408.2.2 = true then (spec_DeskDo.j1 kj5 (bt408.1 == a0_0 && (bt408.2.1 == a0_1)) t398 t399 t400 bt408.1 bt408.2.1) else (spec_DeskDo.j1 kj5 true t398 t399 t400 bt408.1 bt408.2.1))) = some (r1, r2, r3, r4) := by rw [if_neg (show ¬ (false = true) by decide)] at H; exact H
     clear H
     have H := H1
     clear H1
     replace H := Option.bind_eq_some_iff.mp H
     obtain ⟨⟨t408, t409, t410⟩, A490, H⟩ := H
     replace H : (if t410 = true then (spec_DeskDo.j1 kj5 (t408 == a0_0 && (t409 == a0_1)) t398 t399 t400 t408 t409) else (spec_DeskDo.j1 kj5 true t398 t399 t400 t408 t409)) = some (r1, r2, r3, r4) := H
     have A49 := Aside0.mk A490
     clear A490
     have HC50 := Aside0.mk H
     clear H
     have hnb51 := NB394_395.out
     have hnc51 := NB395_394.out
     have hnb52 := NB394_396.out
     have hnc52 := NB396_394.out
     have hnb53 := NB394_403.out
     have hnc53 := NB403_394.out
     obtain ⟨hcz54_0, hcz54_1, hcz54_2, hfz54_0, hfz54_1, hfz54_2⟩ := sqY3 BK394
     have hnb55 := NB395_396.out
     have hnc55 := NB396_395.out
     have hnb56 := NB395_403.out
     have hnc56 := NB403_395.out
     obtain ⟨hcz57_0, hcz57_1, hfz57_0, hfz57_1⟩ := sqY2 BK395
     go_upto_region 10 with (first | ((with_reducible refine gate_callee (f := 57) rfl ?_); refine goesL_ (some 45) rfl rfl Tryz.func57 (by kernel_rfl) rfl #[.agg #[.int .i64 a0_0, .int .i64 a0_1], .agg #[.int .i64 a1_0, .string a1_1]] rfl sqA ?_; (with_reducible refine (spec_l11Made.calls kj5 a0_0 a0_1 a1_0 a1_1 t408 t409 t410 _ A49.out).mono ?_); rintro e w58 ⟨rfl, hb⟩; refine ⟨_, rfl, ?_⟩; replace HO_404002 := Aside0.mk (Kd.Q_below (Z32 HO_404002) hb); replace BK394 := sqT BK394 hb; replace BK395 := sqT BK395 hb; replace BK396 := sqT BK396 hb; replace BK403 := sqT BK403 hb; replace HB := sqS (sqB4 HB GE394 GE395 GE396 GE403) hb; (try clear hb)) | ((with_reducible refine gate_dst (N := 8) rfl ?_); (try (refine gate_guard (by rfl) ?_; dsimp only)); refine sqBox (N := 8) (cs := #[.int .i64 0, .int .i64 0]) (t := 31) ?_; intro gb411 hg w59 BK411 hb; replace HO_404002 := Aside0.mk (Kd.Q_below (Kd.Q_elderB (Z32 HO_404002) gb411 (Nat.le_of_eq hg.symm)) hb); have GW411 := Aside0.mk ((sqG hg (sqB4 HB GE394 GE395 GE396 GE403))); have GE411 := GW411; replace HB := sqS (sqB4 HB GE394 GE395 GE396 GE403) hb; obtain ⟨NB394_411, NB411_394⟩ := sqM hg BK394; replace BK394 := sqT BK394 hb; obtain ⟨NB395_411, NB411_395⟩ := sqM hg BK395; replace BK395 := sqT BK395 hb; obtain ⟨NB396_411, NB411_396⟩ := sqM hg BK396; replace BK396 := sqT BK396 hb; obtain ⟨NB403_411, NB411_403⟩ := sqM hg BK403; replace BK403 := sqT BK403 hb; clear hb hg; have hnb60 := NB411_394.out; have hnc60 := NB394_411.out; have hnb61 := NB411_395.out; have hnc61 := NB395_411.out; have hnb62 := NB411_396.out; have hnc62 := NB396_411.out; have hnb63 := NB411_403.out; have hnc63 := NB403_411.out; obtain ⟨hcz64_0, hcz64_1, hfz64_0, hfz64_1⟩ := sqY2 BK411))
     (try simp only [Act.put, List.setIfInBounds_toArray, List.set_cons_zero, List.set_cons_succ])
     go_cut [55] (fun v55 wc => ∃ (kq : Nat) (x55_49 : Bool), v55 = .bool x55_49 ∧ Aside0 (spec_DeskDo.j1 kq x55_49 t398 t399 t400 t408 t409 = some (r1, r2, r3, r4)) ∧ Aside0 (kq ≤ kj5) ∧ Aside0 (Kd.Q k31 31 wc w.heap.size (fun k_ => k_ ≠ gb411) (.slice Ao21 t400.length co21) t400) ∧ Aside0 (wc.heap[gb394]? = some (.cells #[.int .i64 a0_0, .int .i64 a0_1, (.slice A0_2 l0_2.length c0_2)] 34 (0, 0))) ∧ Aside0 (wc.heap[gb395]? = some (.cells #[.int .i64 a1_0, .string a1_1] 38 (0, 0))) ∧ Aside0 (wc.heap[gb396]? = some (.cells #[.int .i64 0, .int .i64 0, (.slice none 0 0)] 34 (0, 0))) ∧ Aside0 (wc.heap[gb403]? = some (.cells #[.int .i64 t398, .int .i64 t399, (.slice Ao21 t400.length co21)] 34 (0, 0))) ∧ Aside0 (wc.heap[gb411]? = some (.cells #[.int .i64 t408, .int .i64 t409] 31 (0, 0))) ∧ Aside0 (Below w.heap.size w wc))
     case first =>
      have H := HC50.out
      clear HC50
      by_cases c65 : t410 = true
      ·subst c65
       have H1 : (spec_DeskDo.j1 kj5 (t408 == a0_0 && (t409 == a0_1)) t398 t399 t400 t408 t409) = some (r1, r2, r3, r4) := by rw [if_pos rfl] at H; exact H
       clear H
       have H := H1
       clear H1
       have H' := Aside0.mk H
       clear H
       have hnb66 := NB411_394.out
       have hnc66 := NB394_411.out
       have hnb67 := NB411_395.out
       have hnc67 := NB395_411.out
       have hnb68 := NB411_396.out
       have hnc68 := NB396_411.out
       have hnb69 := NB411_403.out
       have hnc69 := NB403_411.out
       obtain ⟨hcz70_0, hcz70_1, hfz70_0, hfz70_1⟩ := sqY2 BK411
       have hnb71 := NB394_395.out
       have hnc71 := NB395_394.out
       have hnb72 := NB394_396.out
       have hnc72 := NB396_394.out
       have hnb73 := NB394_403.out
       have hnc73 := NB403_394.out
       obtain ⟨hcz74_0, hcz74_1, hcz74_2, hfz74_0, hfz74_1, hfz74_2⟩ := sqY3 BK394
       go_wp2
       go_meet
       case rel => exact ⟨_, ((t408 == a0_0 && (t409 == a0_1))), Z2, H', ⟨by have := HJ5.out; first | omega | exact Nat.le_refl _⟩, ⟨Z33 HO_404002⟩, ⟨Z5 NB394_411 BK394⟩, ⟨Z5 NB395_411 BK395⟩, ⟨Z5 NB396_411 BK396⟩, ⟨Z5 NB403_411 BK403⟩, ⟨Z34 BK411⟩, ⟨Z35 GE394 GE395 GE396 GE403 GE411⟩⟩
      ·replace c65 := Bool.eq_false_iff.mpr c65
       subst c65
       have H1 : (spec_DeskDo.j1 kj5 true t398 t399 t400 t408 t409) = some (r1, r2, r3, r4) := by rw [if_neg (show ¬ (false = true) by decide)] at H; exact H
       clear H
       have H := H1
       clear H1
       have H' := Aside0.mk H
       clear H
       go_wp2
       go_meet
       case rel => exact ⟨_, (true), Z2, H', ⟨by have := HJ5.out; first | omega | exact Nat.le_refl _⟩, ⟨Z33 HO_404002⟩, ⟨Z5 NB394_411 BK394⟩, ⟨Z5 NB395_411 BK395⟩, ⟨Z5 NB396_411 BK396⟩, ⟨Z5 NB403_411 BK403⟩, ⟨Z34 BK411⟩, ⟨Z35 GE394 GE395 GE396 GE403 GE411⟩⟩
     case rest =>
      clear HC50
      try clear c1; try clear c2; try clear p2; try clear c3; try clear c4; try clear p4; try clear q4; try clear hx4; try clear c5; try clear c6; try clear p6; try clear c7; try clear c10; try clear c11; try clear c14; try clear c17; try clear c18; try clear c19; try clear c22; try clear c22b0; try clear c22b1; try clear c22b2; try clear c23; try clear c24; try clear c25; try clear c27; try clear c28; try clear c30; try clear c31; try clear c32; try clear c34; try clear c36; try clear c36b0; try clear c37; try clear c37b0; try clear c38; try clear c38b0; try clear c38b1; try clear c39; try clear c40; try clear p40; try clear q40; try clear hx40; try clear c41; try clear q45; try clear c46; try clear c47; try clear c51; try clear c52; try clear c53; try clear c55; try clear c56; try clear c57; try clear c60; try clear c61; try clear c62; try clear c63; try clear p64; try clear c65; try clear c66; try clear c67; try clear c68; try clear c69; try clear c71; try clear c72; try clear c73; try clear hcz12_0; try clear hcz12_1; try clear hcz12_2; try clear hcz14_0; try clear hcz14_1; try clear hcz14_2; try clear hcz20_0; try clear hcz20_1; try clear hcz20_2; try clear hcz26_0; try clear hcz26_1; try clear hcz29_0; try clear hcz29_1; try clear hcz29_2; try clear hcz33_0; try clear hcz33_1; try clear hcz42_0; try clear hcz42_1; try clear hcz42_2; try clear hcz44_0; try clear hcz44_1; try clear hcz44_2; try clear hcz48_0; try clear hcz48_1; try clear hcz48_2; try clear hcz54_0; try clear hcz54_1; try clear hcz54_2; try clear hcz57_0; try clear hcz57_1; try clear hcz64_0; try clear hcz64_1; try clear hcz70_0; try clear hcz70_1; try clear hcz74_0; try clear hcz74_1; try clear hcz74_2; try clear hfz12_0; try clear hfz12_1; try clear hfz12_2; try clear hfz14_0; try clear hfz14_1; try clear hfz14_2; try clear hfz20_0; try clear hfz20_1; try clear hfz20_2; try clear hfz26_0; try clear hfz26_1; try clear hfz29_0; try clear hfz29_1; try clear hfz29_2; try clear hfz33_0; try clear hfz33_1; try clear hfz42_0; try clear hfz42_1; try clear hfz42_2; try clear hfz44_0; try clear hfz44_1; try clear hfz44_2; try clear hfz48_0; try clear hfz48_1; try clear hfz48_2; try clear hfz54_0; try clear hfz54_1; try clear hfz54_2; try clear hfz57_0; try clear hfz57_1; try clear hfz64_0; try clear hfz64_1; try clear hfz70_0; try clear hfz70_1; try clear hfz74_0; try clear hfz74_1; try clear hfz74_2; try clear hx404_0; try clear hx404_1; try clear p2; try clear p404; try clear q404; try clear q45
      obtain ⟨kq, x55_49, rfl, HA, HJ49, HO_404002, BK394, BK395, BK396, BK403, BK411, HB⟩ := hcut
      cases kq with
      | zero => exact absurd HA.out (by simp [spec_DeskDo.j1])
      | succ kj49 =>
       have H := HA.out
       clear HA
       simp only [spec_DeskDo.j1] at H
       by_cases c75 : x55_49 = true
       ·subst c75
        have H1 : (some (t398, t399, t400, false)) = some (r1, r2, r3, r4) := by rw [if_pos rfl] at H; exact H
        clear H
        have H := H1
        clear H1
        simp only [Option.some.injEq, Prod.mk.injEq] at H
        obtain ⟨rfl, rfl, rfl, rfl⟩ := H
        have hnb76 := NB403_394.out
        have hnc76 := NB394_403.out
        have hnb77 := NB403_395.out
        have hnc77 := NB395_403.out
        have hnb78 := NB403_396.out
        have hnc78 := NB396_403.out
        have hnb79 := NB403_411.out
        have hnc79 := NB411_403.out
        obtain ⟨hcz80_0, hcz80_1, hcz80_2, hfz80_0, hfz80_1, hfz80_2⟩ := sqY3 BK403
        have hnb81 := NB396_394.out
        have hnc81 := NB394_396.out
        have hnb82 := NB396_395.out
        have hnc82 := NB395_396.out
        have hnb83 := NB396_411.out
        have hnc83 := NB411_396.out
        obtain ⟨hcz84_0, hcz84_1, hcz84_2, hfz84_0, hfz84_1, hfz84_2⟩ := sqY3 BK396
        go_wp2
        refine bodyPost_ret (results_ct rfl _ _ gb396 34 #[.int .i64 t398, .int .i64 t399, .slice Ao21 t400.length co21] (0, 0) _ rfl (Z31 BK396) Tryz.underlying34 rfl (by kernel_rfl)) rfl ?_
        exact ⟨_, Z4, by (with_reducible repeat (first | apply Kd.Q_alloc | apply Kd.Q_drewN | apply Kd.Q_drew)); exact Kd.Q_mono (Kd.Q_far (p := ⟨gb396, 2, none⟩) (Kd.Q_far (p := ⟨gb396, 1, none⟩) (Kd.Q_far (p := ⟨gb396, 0, none⟩) (Kd.Q_types HO_404002.out BK396.out (by decide)) (fun _ hk => hk.2) (.int .i64 t398)) (fun _ hk => hk.2) (.int .i64 t399)) (fun _ hk => hk.2) (.slice Ao21 t400.length co21)) (fun _ hk => trivial), Z35 GE394 GE395 GE396 GE403 GE411⟩
       ·replace c75 := Bool.eq_false_iff.mpr c75
        subst c75
        have H1 : (if t400.length < 8796093022208 then ((some (t400 ++ [(⟨t398, t399⟩ : S31)] : List (S31))).bind fun y412 => (if (y412.length : Int) > 8 then (if 1 ≤ (y412.length : Int) then (some (t408, t409, (y412.drop (1 : Int).toNat), true)) else (none)) else (some (t408, t409, y412, true)))) else (none)) = some (r1, r2, r3, r4) := by rw [if_neg (show ¬ (false = true) by decide)] at H; exact H
        clear H
        have H := H1
        clear H1
        by_cases c85 : t400.length < 8796093022208
        ·rw [if_pos c85] at H
         have LMc85 := Aside0.mk c85
         clear c85
         obtain ⟨y412, hy412⟩ : ∃ y_ : List (S31), y_ = (t400 ++ [(⟨t398, t399⟩ : S31)]) := ⟨_, rfl⟩
         replace H : (if (y412.length : Int) > 8 then (if 1 ≤ (y412.length : Int) then (some (t408, t409, (y412.drop (1 : Int).toNat), true)) else (none)) else (some (t408, t409, y412, true))) = some (r1, r2, r3, r4) := by first | (rw [hy412]; with_reducible exact H) | (have H2_ := (Option.bind_some _ _).symm.trans H; rw [hy412]; with_reducible exact H2_) | (have H2_ := (Option.bind_some _ _).symm.trans H; with_reducible exact H2_) | with_reducible exact H | (rw [hy412]; exact H) | exact H
         have Ny412 := Aside0.mk hy412
         clear hy412
         by_cases c86 : (y412.length : Int) > 8
         ·rw [if_pos c86] at H
          have c86b0 : decide (8 < (y412.length : Int)) = true := decide_eq_true c86
          have c86b1 : decide (8 < y412.length) = true := decide_eq_true (by omega)
          clear c86
          by_cases c87 : 1 ≤ (y412.length : Int)
          ·rw [if_pos c87] at H
           have c87b0 := eq_true c87
           have c87b1 : decide (1 ≤ (y412.length : Int)) = true := decide_eq_true c87
           clear c87
           obtain ⟨y415, hy415⟩ : ∃ y_ : List (S31), y_ = (y412.drop (1 : Int).toNat) := ⟨_, rfl⟩
           replace H : (some (t408, t409, y415, true)) = some (r1, r2, r3, r4) := by first | (rw [hy415]; with_reducible exact H) | (have H2_ := (Option.bind_some _ _).symm.trans H; rw [hy415]; with_reducible exact H2_) | (have H2_ := (Option.bind_some _ _).symm.trans H; with_reducible exact H2_) | with_reducible exact H | (rw [hy415]; exact H) | exact H
           have Ny415 := Aside0.mk hy415
           clear hy415
           simp only [Option.some.injEq, Prod.mk.injEq] at H
           obtain ⟨rfl, rfl, rfl, rfl⟩ := H
           have hnb88 := NB403_394.out
           have hnc88 := NB394_403.out
           have hnb89 := NB403_395.out
           have hnc89 := NB395_403.out
           have hnb90 := NB403_396.out
           have hnc90 := NB396_403.out
           have hnb91 := NB403_411.out
           have hnc91 := NB411_403.out
           obtain ⟨hcz92_0, hcz92_1, hcz92_2, hfz92_0, hfz92_1, hfz92_2⟩ := sqY3 BK403
           go_wp2_with (first | ((with_reducible refine gate_builtin (b := .append) (xs := #[.tmp 58, .tmp 61]) rfl ?_); (try (refine gate_guard (by rfl) ?_; dsimp only)); at_builtin; refine Kd.Q_append k31 (w0 := w) w.heap.size rfl (.tmp 58) (.tmp 61) 32 31 (.agg #[(.int .i64 0), (.int .i64 0)]) 16 rfl Tryz.underlying32 info31 rfl (by decide) (by omega) (.slice Ao21 t400.length co21) t400 (⟨t398, t399⟩ : S31) [.int .i64 t398, .int .i64 t399] (fun k_ => k_ ≠ gb411) (fun _ => False) rfl rfl ?aP (fun _ hk => hk.elim) ?aF ?aO ?aB ?aS ?aL ?_; (case aP => exact k31_mkM _ _ _ (⟨t398, t399⟩ : S31)); (case aB => exact (Z35 GE394 GE395 GE396 GE403 GE411)); (case aF => exact (fun k_ hk => Kd.freshB (sqK BK411) k_ hk)); (case aO => exact (Z32 HO_404002)); (case aS => exact (below_size (Z35 GE394 GE395 GE396 GE403 GE411))); (case aL => exact Z9 LMc85); intro v413 w93 ho hb hg hat; rw [← Ny412.out] at ho; replace BK394 := Aside0.mk (blk_grown (sqK BK394) hg (Kd.Q_ne HO_404002.out BK394.out (by decide))); replace BK395 := Aside0.mk (blk_grown (sqK BK395) hg (Kd.Q_ne HO_404002.out BK395.out (by decide))); replace BK396 := Aside0.mk (blk_grown (sqK BK396) hg (Kd.Q_ne HO_404002.out BK396.out (by decide))); replace BK403 := Aside0.mk (blk_grown (sqK BK403) hg (Kd.Q_ne HO_404002.out BK403.out (by decide))); replace BK411 := Aside0.mk (blk_grown (sqK BK411) hg (Kd.Q_away HO_404002.out (fun _ hk => hk))); replace HB := Aside0.mk (hb); have HO414 := Aside0.mk (ho); clear HO_404002; clear ho hb hg hat; obtain ⟨Ao94, co94, eo94, _⟩ := Kd.Q_slice HO414.out; subst eo94; obtain ⟨hcz95_0, hcz95_1, hcz95_2, hfz95_0, hfz95_1, hfz95_2⟩ := sqY3 BK403) | ((with_reducible refine gate_store (t := 32) (p := 63) rfl ?_); refine store_event (t := 32) (p := 63) (v := ?vo_w96) (w1 := (w93.setCell ⟨gb403, 2, none⟩ (.slice Ao94 y412.length co94))) ?hg ?ho ?hn ?hr ?_; (case ho => rfl); (case hg => rfl); (case hn => rfl); (case hr => exact Z11); intro w96 hw; replace HO414 : Aside0 (Kd.Q k31 31 w96 w.heap.size (fun k_ => k_ ≠ gb411) (.slice Ao94 y412.length co94) y412) := ⟨(by rw [hw]; exact (by (with_reducible repeat (first | apply Kd.Q_alloc | apply Kd.Q_drewN | apply Kd.Q_drew)); exact Kd.Q_mono (Kd.Q_far (p := ⟨gb403, 2, none⟩) (Kd.Q_types HO414.out BK403.out (by decide)) (fun _ hk => hk.2) (.slice Ao94 y412.length co94)) (fun _ hk => hk.1)))⟩; replace BK394 : Aside0 (w96.heap[gb394]? = some (.cells #[.int .i64 a0_0, .int .i64 a0_1, .slice A0_2 l0_2.length c0_2] 34 (0, 0))) := ⟨(by rw [hw]; exact (by refine sqFar ?_ NB394_403; exact sqK BK394))⟩; replace BK395 : Aside0 (w96.heap[gb395]? = some (.cells #[.int .i64 a1_0, .string a1_1] 38 (0, 0))) := ⟨(by rw [hw]; exact (by refine sqFar ?_ NB395_403; exact sqK BK395))⟩; replace BK396 : Aside0 (w96.heap[gb396]? = some (.cells #[.int .i64 0, .int .i64 0, .slice none 0 0] 34 (0, 0))) := ⟨(by rw [hw]; exact (by refine sqFar ?_ NB396_403; exact sqK BK396))⟩; replace BK403 : Aside0 (w96.heap[gb403]? = some (.cells #[.int .i64 t398, .int .i64 t399, .slice Ao94 y412.length co94] 34 (0, 0))) := ⟨(by rw [hw]; exact (by refine sqPut (cs := #[.int .i64 t398, .int .i64 t399, .slice Ao21 t400.length co21]) ?_ 2; exact sqK BK403))⟩; replace BK411 : Aside0 (w96.heap[gb411]? = some (.cells #[.int .i64 t408, .int .i64 t409] 31 (0, 0))) := ⟨(by rw [hw]; exact (by refine sqFar ?_ NB411_403; exact sqK BK411))⟩; replace HB : Aside0 (Below w.heap.size w w96) := ⟨(by rw [hw]; exact (Z35 GE394 GE395 GE396 GE403 GE411))⟩; clear hw; obtain ⟨hcz97_0, hcz97_1, hcz97_2, hfz97_0, hfz97_1, hfz97_2⟩ := sqY3 BK403; have q98 : (1 : Int) ≤ ((y412.length : Int) : Int) := of_decide_eq_true Z8; obtain ⟨i098, hi098, _, hsz98, _⟩ := info_parts info31; have hcut98 := cut_from (P := Tryz.prog) 32 31 .i64 Tryz.underlying32 hi098 2 hsz98 Ao94 y412.length co94 1 (by omega) q98; have hr98 := Kd.Q_drop (k := (1 : Int).toNat) HO414.out (by omega); obtain ⟨A98, hA98⟩ : ∃ A1, A1 = (if co94 = (1 : Int).toNat then Ao94 else (Ao94 : Option Addr).map (·.add ((1 : Int).toNat * 2))) := ⟨_, rfl⟩; obtain ⟨c98, hc98⟩ : ∃ c1, c1 = co94 - (1 : Int).toNat := ⟨_, rfl⟩; have hy98 : y415.length = y412.length - (1 : Int).toNat := (by rw [Ny415.out, List.length_drop]); rw [← Ny415.out] at hr98; rw [← hy98, ← hA98, ← hc98] at hcut98; replace hr98 : Kd.Q k31 31 w96 w.heap.size (fun k_ => k_ ≠ gb411) (.slice A98 y415.length c98) y415 := (by rw [hA98, hc98, hy98]; exact hr98); have HE98 : Aside0 ((Value.slice A98 y415.length c98).ownBlock = (.slice Ao94 y412.length co94 : Value).ownBlock) := ⟨by rw [hA98]; split <;> (cases (Ao94 : Option Addr) <;> rfl)⟩; clear hy98 hi098 hsz98 HO414 hA98 hc98; have HO417 := Aside0.mk hr98; clear hr98; replace q98 := eq_true q98; have hnb99 := NB411_394.out; have hnc99 := NB394_411.out; have hnb100 := NB411_395.out; have hnc100 := NB395_411.out; have hnb101 := NB411_396.out; have hnc101 := NB396_411.out; obtain ⟨hcz102_0, hcz102_1, hfz102_0, hfz102_1⟩ := sqY2 BK411; have hnb103 := NB396_394.out; have hnc103 := NB394_396.out; have hnb104 := NB396_395.out; have hnc104 := NB395_396.out; obtain ⟨hcz105_0, hcz105_1, hcz105_2, hfz105_0, hfz105_1, hfz105_2⟩ := sqY3 BK396))
           refine bodyPost_ret (results_ct rfl _ _ gb396 34 #[.int .i64 t408, .int .i64 t409, .slice A98 y415.length c98] (0, 0) _ rfl (Z36 NB396_403 BK396) Tryz.underlying34 rfl (by kernel_rfl)) rfl ?_
           exact ⟨_, Z4, by (with_reducible repeat (first | apply Kd.Q_alloc | apply Kd.Q_drewN | apply Kd.Q_drew)); exact Kd.Q_mono (Kd.Q_far (p := ⟨gb396, 2, none⟩) (Kd.Q_far (p := ⟨gb396, 1, none⟩) (Kd.Q_far (p := ⟨gb396, 0, none⟩) (Kd.Q_far (p := ⟨gb403, 1, none⟩) (Kd.Q_far (p := ⟨gb403, 0, none⟩) (Kd.Q_far (p := ⟨gb403, 2, none⟩) (Kd.Q_types (Kd.Q_types HO417.out BK403.out (by decide)) BK396.out (by decide)) (fun _ hk => hk.1.2) (.slice A98 y415.length c98)) (fun _ hk => hk.1.2) (.int .i64 t408)) (fun _ hk => hk.1.2) (.int .i64 t409)) (fun _ hk => hk.2) (.int .i64 t408)) (fun _ hk => hk.2) (.int .i64 t409)) (fun _ hk => hk.2) (.slice A98 y415.length c98)) (fun _ hk => trivial), Z35 GE394 GE395 GE396 GE403 GE411⟩
          ·rw [if_neg c87] at H
           exact absurd H (by simp)
         ·rw [if_neg c86] at H
          have c86b0 : decide (8 < (y412.length : Int)) = false := decide_eq_false c86
          have c86b1 : decide (8 < y412.length) = false := decide_eq_false (by omega)
          clear c86
          simp only [Option.some.injEq, Prod.mk.injEq] at H
          obtain ⟨rfl, rfl, rfl, rfl⟩ := H
          have hnb106 := NB403_394.out
          have hnc106 := NB394_403.out
          have hnb107 := NB403_395.out
          have hnc107 := NB395_403.out
          have hnb108 := NB403_396.out
          have hnc108 := NB396_403.out
          have hnb109 := NB403_411.out
          have hnc109 := NB411_403.out
          obtain ⟨hcz110_0, hcz110_1, hcz110_2, hfz110_0, hfz110_1, hfz110_2⟩ := sqY3 BK403
          go_wp2_with (first | ((with_reducible refine gate_builtin (b := .append) (xs := #[.tmp 58, .tmp 61]) rfl ?_); (try (refine gate_guard (by rfl) ?_; dsimp only)); at_builtin; refine Kd.Q_append k31 (w0 := w) w.heap.size rfl (.tmp 58) (.tmp 61) 32 31 (.agg #[(.int .i64 0), (.int .i64 0)]) 16 rfl Tryz.underlying32 info31 rfl (by decide) (by omega) (.slice Ao21 t400.length co21) t400 (⟨t398, t399⟩ : S31) [.int .i64 t398, .int .i64 t399] (fun k_ => k_ ≠ gb411) (fun _ => False) rfl rfl ?aP (fun _ hk => hk.elim) ?aF ?aO ?aB ?aS ?aL ?_; (case aP => exact k31_mkM _ _ _ (⟨t398, t399⟩ : S31)); (case aB => exact (Z35 GE394 GE395 GE396 GE403 GE411)); (case aF => exact (fun k_ hk => Kd.freshB (sqK BK411) k_ hk)); (case aO => exact (Z32 HO_404002)); (case aS => exact (below_size (Z35 GE394 GE395 GE396 GE403 GE411))); (case aL => exact Z9 LMc85); intro v413 w111 ho hb hg hat; rw [← Ny412.out] at ho; replace BK394 := Aside0.mk (blk_grown (sqK BK394) hg (Kd.Q_ne HO_404002.out BK394.out (by decide))); replace BK395 := Aside0.mk (blk_grown (sqK BK395) hg (Kd.Q_ne HO_404002.out BK395.out (by decide))); replace BK396 := Aside0.mk (blk_grown (sqK BK396) hg (Kd.Q_ne HO_404002.out BK396.out (by decide))); replace BK403 := Aside0.mk (blk_grown (sqK BK403) hg (Kd.Q_ne HO_404002.out BK403.out (by decide))); replace BK411 := Aside0.mk (blk_grown (sqK BK411) hg (Kd.Q_away HO_404002.out (fun _ hk => hk))); replace HB := Aside0.mk (hb); have HO414 := Aside0.mk (ho); clear HO_404002; clear ho hb hg hat; obtain ⟨Ao112, co112, eo112, _⟩ := Kd.Q_slice HO414.out; subst eo112; obtain ⟨hcz113_0, hcz113_1, hcz113_2, hfz113_0, hfz113_1, hfz113_2⟩ := sqY3 BK403; have hnb114 := NB411_394.out; have hnc114 := NB394_411.out; have hnb115 := NB411_395.out; have hnc115 := NB395_411.out; have hnb116 := NB411_396.out; have hnc116 := NB396_411.out; obtain ⟨hcz117_0, hcz117_1, hfz117_0, hfz117_1⟩ := sqY2 BK411; have hnb118 := NB396_394.out; have hnc118 := NB394_396.out; have hnb119 := NB396_395.out; have hnc119 := NB395_396.out; obtain ⟨hcz120_0, hcz120_1, hcz120_2, hfz120_0, hfz120_1, hfz120_2⟩ := sqY3 BK396))
          refine bodyPost_ret (results_ct rfl _ _ gb396 34 #[.int .i64 t408, .int .i64 t409, .slice Ao112 y412.length co112] (0, 0) _ rfl (Z36 NB396_403 BK396) Tryz.underlying34 rfl (by kernel_rfl)) rfl ?_
          exact ⟨_, Z4, by (with_reducible repeat (first | apply Kd.Q_alloc | apply Kd.Q_drewN | apply Kd.Q_drew)); exact Kd.Q_mono (Kd.Q_far (p := ⟨gb396, 2, none⟩) (Kd.Q_far (p := ⟨gb396, 1, none⟩) (Kd.Q_far (p := ⟨gb396, 0, none⟩) (Kd.Q_far (p := ⟨gb403, 1, none⟩) (Kd.Q_far (p := ⟨gb403, 0, none⟩) (Kd.Q_far (p := ⟨gb403, 2, none⟩) (Kd.Q_types (Kd.Q_types HO414.out BK403.out (by decide)) BK396.out (by decide)) (fun _ hk => hk.1.2) (.slice Ao112 y412.length co112)) (fun _ hk => hk.1.2) (.int .i64 t408)) (fun _ hk => hk.1.2) (.int .i64 t409)) (fun _ hk => hk.2) (.int .i64 t408)) (fun _ hk => hk.2) (.int .i64 t409)) (fun _ hk => hk.2) (.slice Ao112 y412.length co112)) (fun _ hk => trivial), Z35 GE394 GE395 GE396 GE403 GE411⟩
        ·rw [if_neg c85] at H
         exact absurd H (by simp)
 ·replace c4 := Bool.eq_false_iff.mpr c4
  subst c4
  have H1 : (some (0, 0, ([] : List (S31)), false)) = some (r1, r2, r3, r4) := by rw [if_neg (show ¬ (false = true) by decide)] at H; exact H
  clear H
  have H := H1
  clear H1
  simp only [Option.some.injEq, Prod.mk.injEq] at H
  obtain ⟨rfl, rfl, rfl, rfl⟩ := H
  go_enter Tryz.func14, Tryz.ntmps14
  go_wp2_with (first | ((with_reducible refine gate_dst (N := 2) rfl ?_); (try (refine gate_guard (by rfl) ?_; dsimp only)); refine sqBox (N := 2) (cs := #[.int .i64 a0_0, .int .i64 a0_1, .slice A0_2 l0_2.length c0_2]) (t := 34) ?_; intro gb394 hg w121 BK394 hb; have GW394 := Aside0.mk ((sqG hg (sqB HB))); have GE394 := GW394; replace HB := sqS (sqB HB) hb; clear hb hg) | ((with_reducible refine gate_dst (N := 3) rfl ?_); (try (refine gate_guard (by rfl) ?_; dsimp only)); refine sqBox (N := 3) (cs := #[.int .i64 a1_0, .string a1_1]) (t := 38) ?_; intro gb395 hg w122 BK395 hb; have GW395 := Aside0.mk ((sqG hg (sqB1 HB GE394))); have GE395 := GW395; replace HB := sqS (sqB1 HB GE394) hb; obtain ⟨NB394_395, NB395_394⟩ := sqM hg BK394; replace BK394 := sqT BK394 hb; clear hb hg) | ((with_reducible refine gate_dst (N := 4) rfl ?_); (try (refine gate_guard (by rfl) ?_; dsimp only)); refine sqBox (N := 4) (cs := #[.int .i64 0, .int .i64 0, .slice none 0 0]) (t := 34) ?_; intro gb396 hg w123 BK396 hb; have GW396 := Aside0.mk ((sqG hg (sqB2 HB GE394 GE395))); have GE396 := GW396; replace HB := sqS (sqB2 HB GE394 GE395) hb; obtain ⟨NB394_396, NB396_394⟩ := sqM hg BK394; replace BK394 := sqT BK394 hb; obtain ⟨NB395_396, NB396_395⟩ := sqM hg BK395; replace BK395 := sqT BK395 hb; clear hb hg; have hnb124 := NB394_395.out; have hnc124 := NB395_394.out; have hnb125 := NB394_396.out; have hnc125 := NB396_394.out; obtain ⟨hcz126_0, hcz126_1, hcz126_2, hfz126_0, hfz126_1, hfz126_2⟩ := sqY3 BK394) | ((with_reducible refine gate_callee (f := 30) rfl ?_); refine goesL_ (some 11) rfl rfl Tryz.func30 (by kernel_rfl) rfl #[.agg #[.int .i64 a0_0, .int .i64 a0_1, .slice A0_2 l0_2.length c0_2]] rfl sqA ?_; (with_reducible refine (spec_DeskOk.calls k a0_0 a0_1 _ _ l0_2 false _ ?side1 ?side2 A3.out).mono ?_); (case side1 => exact Z27); (case side2 => exact Z28); rintro e w127 ⟨rfl, hb⟩; refine ⟨_, rfl, ?_⟩; replace BK394 := sqT BK394 hb; replace BK395 := sqT BK395 hb; replace BK396 := sqT BK396 hb; replace HB := sqS (sqB3 HB GE394 GE395 GE396) hb; (try clear hb); have hnb128 := NB396_395.out; have hnc128 := NB395_396.out; obtain ⟨hcz129_0, hcz129_1, hcz129_2, hfz129_0, hfz129_1, hfz129_2⟩ := sqY3 BK396))
  refine bodyPost_ret (results_ct rfl _ _ gb396 34 #[.int .i64 0, .int .i64 0, .slice none 0 0] (0, 0) _ rfl (Z37 BK396) Tryz.underlying34 rfl (by kernel_rfl)) rfl ?_
  exact ⟨_, Z4, Kd.Q_of_R Z38, sqB3 HB GE394 GE395 GE396⟩

end Go.Proofs.YtofmlbgfcohhoaaGreatDoor.PFnExactDeskRun
