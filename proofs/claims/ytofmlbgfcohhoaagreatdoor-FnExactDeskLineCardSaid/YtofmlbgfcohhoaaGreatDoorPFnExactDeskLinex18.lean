/- Lean functions of the Go functions that the law FnExactDeskLine reaches, each with its contract: made by a program of this session. -/
import Derived.Test.YtofmlbgfcohhoaaGreatDoorPFnExactDeskLinex17
namespace Go.Proofs.YtofmlbgfcohhoaaGreatDoor.PFnExactDeskLine
open Go.RowKit Go.Proofs.YtofmlbgfcohhoaaGreatDoorW.PrintWords Go.Proofs.YtofmlbgfcohhoaaGreatDoorW.PrintLast Go.Proofs.YtofmlbgfcohhoaaGreatDoorW.PrintMore Go.Proofs.YtofmlbgfcohhoaaGreatDoor.Lib
attribute [local go_sem] max2_int min2_int max_two min_two max_three min_three max_four min_four   -- for this text's walks alone
set_option linter.unusedVariables false
set_option linter.unusedSimpArgs false

attribute [local go_sem high] eqA31 eqA38
/-! ### spec_DeskDo: function 14 -/
mutual
def spec_DeskDo.j0 : Nat → Bool → Int → Int → List (S31) → Int → ByteArray → Int → Int → List (S31) → Option (Int × Int × (List (S31)) × Bool)
 | 0, _, _, _, _, _, _, _, _, _ => none
 | k + 1, x24, x519000, x519001, x519002, x520000, x520001, x528000, x528001, x528002 => if x24 = true then (if 0 ≤ (wrap64 ((x528002.length : Int) - 1)) then (if (wrap64 ((x528002.length : Int) - 1)) < (x528002.length : Int) then (if (wrap64 ((x528002.length : Int) - 1)) ≤ (x528002.length : Int) then (some ((rd_T31 x528002 (wrap64 ((x528002.length : Int) - 1))).f0, (rd_T31 x528002 (wrap64 ((x528002.length : Int) - 1))).f1, (x528002.take ((wrap64 ((x528002.length : Int) - 1)) : Int).toNat), true)) else (none)) else (none)) else (none)) else ((spec_l11Made.f k x519000 x519001 x520000 x520001).bind fun bt532 => (if bt532.2.2 = true then (spec_DeskDo.j1 k (bt532.1 == x519000 && (bt532.2.1 == x519001)) x528000 x528001 x528002 bt532.1 bt532.2.1) else (spec_DeskDo.j1 k true x528000 x528001 x528002 bt532.1 bt532.2.1)))
def spec_DeskDo.j1 : Nat → Bool → Int → Int → List (S31) → Int → Int → Option (Int × Int × (List (S31)) × Bool)
 | 0, _, _, _, _, _, _ => none
 | k + 1, x55, x528000, x528001, x528002, x536000, x536001 => if x55 = true then (some (x528000, x528001, x528002, false)) else (if x528002.length < 8796093022208 then ((some (x528002 ++ [(⟨x528000, x528001⟩ : S31)] : List (S31))).bind fun y536 => (if (y536.length : Int) > 8 then (if 1 ≤ (y536.length : Int) then (some (x536000, x536001, (y536.drop (1 : Int).toNat), true)) else (none)) else (some (x536000, x536001, y536, true)))) else (none))
end
def spec_DeskDo.f (k : Nat) (a0_0 : Int) (a0_1 : Int) (l0_2 : List (S31)) (a1_0 : Int) (a1_1 : ByteArray) : Option (Int × Int × (List (S31)) × Bool) := (spec_DeskOk.f k a0_0 a0_1 l0_2).bind fun t521 => (if t521 = true then ((spec_l11Copy.f a0_0 a0_1 l0_2).bind fun bt522 => (if (a1_0 == 4 && (a1_1.toList == ([] : List UInt8))) = true then (spec_DeskDo.j0 k (decide ((l0_2.length : Int) > 0)) a0_0 a0_1 l0_2 a1_0 a1_1 bt522.1 bt522.2.1 bt522.2.2) else (spec_DeskDo.j0 k false a0_0 a0_1 l0_2 a1_0 a1_1 bt522.1 bt522.2.1 bt522.2.2))) else (some (0, 0, ([] : List (S31)), false)))
abbrev spec_DeskDo.M (k : Nat) : Prop := (∀ y0 y1 y2 y3 y4 y5 y6 y7 y8, LeO (spec_DeskDo.j0 k y0 y1 y2 y3 y4 y5 y6 y7 y8) (spec_DeskDo.j0 (k + 1) y0 y1 y2 y3 y4 y5 y6 y7 y8)) ∧ (∀ y0 y1 y2 y3 y4 y5, LeO (spec_DeskDo.j1 k y0 y1 y2 y3 y4 y5) (spec_DeskDo.j1 (k + 1) y0 y1 y2 y3 y4 y5))
theorem spec_DeskDo.mono_t : ∀ k, spec_DeskDo.M k → spec_DeskDo.M (k + 1) ∧ ∀ a0 a1 a2 a3 a4, LeO (spec_DeskDo.f k a0 a1 a2 a3 a4) (spec_DeskDo.f (k + 1) a0 a1 a2 a3 a4) := by
  rintro k ⟨ih0, ih1⟩
  refine ⟨⟨?_, ?_⟩, ?_⟩ <;> intros <;> (first | unfold spec_DeskDo.j0 | unfold spec_DeskDo.j1 | unfold spec_DeskDo.f) <;> repeat' (with_reducible first | exact ih0 _ _ _ _ _ _ _ _ _ | exact ih1 _ _ _ _ _ _ | exact spec_DeskOk.mono _ _ _ _ | exact spec_l11Made.mono _ _ _ _ _ | exact LeO.refl _ | exact LeO.none _ | refine LeO.ite ?_ ?_ | refine LeO.bind ?_ fun _ => ?_)
theorem spec_DeskDo.mono_l : ∀ k, spec_DeskDo.M k
 | 0 => ⟨fun _ _ _ _ _ _ _ _ _ r h => by simp [spec_DeskDo.j0] at h, fun _ _ _ _ _ _ r h => by simp [spec_DeskDo.j1] at h⟩
 | k + 1 => (spec_DeskDo.mono_t k (spec_DeskDo.mono_l k)).1
theorem spec_DeskDo.mono a0 a1 a2 a3 a4 k : LeO (spec_DeskDo.f k a0 a1 a2 a3 a4) (spec_DeskDo.f (k + 1) a0 a1 a2 a3 a4) := (spec_DeskDo.mono_t k (spec_DeskDo.mono_l k)).2 a0 a1 a2 a3 a4
set_option maxHeartbeats 8000000 in
set_option maxRecDepth 100000 in
theorem spec_DeskDo.calls (k : Nat) (a0_0 : Int) (a0_1 : Int) (A0_2 : Option Addr) (c0_2 : Nat) (l0_2 : List (S31)) (a1_0 : Int) (a1_1 : ByteArray) (r1 : Int) (r2 : Int) (r3 : List (S31)) (r4 : Bool) (w : World) (hr0_2 : Kd.C k31 w A0_2 l0_2.length l0_2) (hc0_2 : l0_2.length ≤ c0_2) (h : spec_DeskDo.f k a0_0 a0_1 l0_2 a1_0 a1_1 = some (r1, r2, r3, r4)) :
  Calls Tryz.prog 14 #[.agg #[.int .i64 a0_0, .int .i64 a0_1, .slice A0_2 l0_2.length c0_2], .agg #[.int .i64 a1_0, .string a1_1]] w fun e w' => ∃ v2_ : Value, e = .returned (.tuple #[.agg #[.int .i64 r1, .int .i64 r2, v2_], .bool r4]) ∧ Kd.Q k31 31 w' w.heap.size (fun _ => True) v2_ r3 ∧ Below w.heap.size w w' := by
 have hu34 := Tryz.underlying34
 have hu38 := Tryz.underlying38
 have hu31 := Tryz.underlying31
 have HR0_2 := Aside0.mk hr0_2
 have HC0_2 := Aside0.mk hc0_2
 clear hr0_2 hc0_2
 have HB := Aside0.mk (Below.refl w.heap.size w)
 unfold spec_DeskDo.f at h
 have H := h
 clear h
 obtain ⟨t521, A3, H⟩ := sqD H
 by_cases c4 : t521 = true
 ·subst c4
  rw [if_pos rfl] at H
  obtain ⟨⟨t522, t523, t524⟩, A5, H⟩ := sqD H
  try dsimp only at H
  have HC6 := Aside0.mk H
  clear H
  go_enter Tryz.func14, Tryz.ntmps14
  go_upto_region 4 with (first | ((with_reducible refine gate_dst (N := 2) rfl ?_); (try (refine gate_guard (by rfl) ?_; dsimp only)); refine sqBx w (sqB HB) (N := 2) (cs := #[.int .i64 a0_0, .int .i64 a0_1, .slice A0_2 l0_2.length c0_2]) (t := 34) ?_; intro gb518 hg w7 BK518 GE518 HB hb; clear hb hg) | ((with_reducible refine gate_dst (N := 3) rfl ?_); (try (refine gate_guard (by rfl) ?_; dsimp only)); refine sqBx w (sqB1 HB GE518) (N := 3) (cs := #[.int .i64 a1_0, .string a1_1]) (t := 38) ?_; intro gb519 hg w8 BK519 GE519 HB hb; obtain ⟨NB518_519, NB519_518⟩ := sqM hg BK518; replace BK518 := sqT BK518 hb; clear hb hg) | ((with_reducible refine gate_dst (N := 4) rfl ?_); (try (refine gate_guard (by rfl) ?_; dsimp only)); refine sqBx w (sqB2 HB GE518 GE519) (N := 4) (cs := #[.int .i64 0, .int .i64 0, .slice none 0 0]) (t := 34) ?_; intro gb520 hg w9 BK520 GE520 HB hb; obtain ⟨NB518_520, NB520_518⟩ := sqM hg BK518; replace BK518 := sqT BK518 hb; obtain ⟨NB519_520, NB520_519⟩ := sqM hg BK519; replace BK519 := sqT BK519 hb; clear hb hg; have hnb10 := NB518_519.out; have hnc10 := NB519_518.out; have hnb11 := NB518_520.out; have hnc11 := NB520_518.out; obtain ⟨hcz12_0, hcz12_1, hcz12_2, hfz12_0, hfz12_1, hfz12_2⟩ := sqY3 BK518) | ((with_reducible refine gate_callee (f := 30) rfl ?_); refine sqC (some 11) Tryz.func30 #[.agg #[.int .i64 a0_0, .int .i64 a0_1, .slice A0_2 l0_2.length c0_2]] ?_; (with_reducible refine (spec_DeskOk.calls k a0_0 a0_1 _ _ l0_2 true _ ?side1 ?side2 A3.out).mono ?_); (case side1 => exact Z16); (case side2 => exact Z13); rintro e w13 ⟨rfl, hb⟩; refine ⟨_, rfl, ?_⟩; replace BK518 := sqT BK518 hb; replace BK519 := sqT BK519 hb; replace BK520 := sqT BK520 hb; replace HB := sqS (sqB3 HB GE518 GE519 GE520) hb; (try clear hb); obtain ⟨hcz14_0, hcz14_1, hcz14_2, hfz14_0, hfz14_1, hfz14_2⟩ := sqY3 BK518) | ((with_reducible refine gate_callee (f := 56) rfl ?_); refine sqC (some 15) Tryz.func56 #[.agg #[.int .i64 a0_0, .int .i64 a0_1, .slice A0_2 l0_2.length c0_2]] ?_; (with_reducible refine (spec_l11Copy.calls a0_0 a0_1 _ _ l0_2 t522 t523 t524 _ ?side1 ?side2 A5.out).mono ?_); (case side1 => exact Z16); (case side2 => exact Z13); rintro e w15 ⟨v525, rfl, ho0, hb⟩; refine ⟨_, rfl, ?_⟩; have HO526 := sqL ho0 (sqB3 HB GE518 GE519 GE520); replace BK518 := sqT BK518 hb; replace BK519 := sqT BK519 hb; replace BK520 := sqT BK520 hb; replace HB := sqS (sqB3 HB GE518 GE519 GE520) hb; (try clear hb); (try clear ho0)) | ((with_reducible refine gate_dst (N := 6) rfl ?_); (try (refine gate_guard (by rfl) ?_; dsimp only)); refine sqBx w (sqB3 HB GE518 GE519 GE520) (N := 6) (cs := #[.int .i64 0, .int .i64 0, .slice none 0 0]) (t := 34) ?_; intro gb527 hg w16 BK527 GE527 HB hb; replace HO526 := sqU HO526 hb; obtain ⟨NB518_527, NB527_518⟩ := sqM hg BK518; replace BK518 := sqT BK518 hb; obtain ⟨NB519_527, NB527_519⟩ := sqM hg BK519; replace BK519 := sqT BK519 hb; obtain ⟨NB520_527, NB527_520⟩ := sqM hg BK520; replace BK520 := sqT BK520 hb; clear hb hg; have hnb17 := NB527_518.out; have hnc17 := NB518_527.out; have hnb18 := NB527_519.out; have hnc18 := NB519_527.out; have hnb19 := NB527_520.out; have hnc19 := NB520_527.out; obtain ⟨hcz20_0, hcz20_1, hcz20_2, hfz20_0, hfz20_1, hfz20_2⟩ := sqY3 BK527; obtain ⟨Ao21, co21, eo21⟩ := Kd.R_slice HO526.out; subst eo21))
  (try simp only [Act.put, List.setIfInBounds_toArray, List.set_cons_zero, List.set_cons_succ])
  go_cut [24] (fun v24 wc => ∃ (kq : Nat) (x24_5 : Bool), v24 = .bool x24_5 ∧ Aside0 (spec_DeskDo.j0 kq x24_5 a0_0 a0_1 l0_2 a1_0 a1_1 t522 t523 t524 = some (r1, r2, r3, r4)) ∧ Aside0 (kq ≤ k) ∧ Aside0 (Kd.Q k31 31 wc w.heap.size (fun _ => True) (.slice Ao21 t524.length co21) t524) ∧ Aside0 (wc.heap[gb518]? = some (.cells #[.int .i64 a0_0, .int .i64 a0_1, (.slice A0_2 l0_2.length c0_2)] 34 (0, 0))) ∧ Aside0 (wc.heap[gb519]? = some (.cells #[.int .i64 a1_0, .string a1_1] 38 (0, 0))) ∧ Aside0 (wc.heap[gb520]? = some (.cells #[.int .i64 0, .int .i64 0, (.slice none 0 0)] 34 (0, 0))) ∧ Aside0 (wc.heap[gb527]? = some (.cells #[.int .i64 t522, .int .i64 t523, (.slice Ao21 t524.length co21)] 34 (0, 0))) ∧ Aside0 (Below w.heap.size w wc))
  case first =>
   have H := HC6.out
   clear HC6
   by_cases c22 : (a1_0 == 4 && (a1_1.toList == ([] : List UInt8))) = true
   ·rw [if_pos c22] at H
    have c22b0 : (a1_0 == 4 && (a1_1.toList == ([] : List UInt8))) = true := c22
    try have c22b8 : (a1_0 == 4 && a1_1.toList.isEmpty) = true := by (have h_ := c22b0; (repeat rw [show ∀ z : List UInt8, (z == ([] : List UInt8)) = z.isEmpty from fun z => by cases z <;> rfl] at h_); exact h_)
    (try (have c22b1 : decide (a1_0 = 4 && (a1_1.toList == ([] : List UInt8))) = true := by simpa using c22))
    (try (have c22b2 : (a1_0 == 4 && (a1_1.toList == ([] : List UInt8))) = true := by simpa using c22))
    clear c22
    (first | rw [c22b0] | (simp only [i64_w, i32_w]; rw [c22b0]) | skip)
    have H' := Aside0.mk H
    clear H
    have hnb23 := NB519_518.out
    have hnc23 := NB518_519.out
    have hnb24 := NB519_520.out
    have hnc24 := NB520_519.out
    have hnb25 := NB519_527.out
    have hnc25 := NB527_519.out
    obtain ⟨hcz26_0, hcz26_1, hfz26_0, hfz26_1⟩ := sqY2 BK519
    have hnb27 := NB518_520.out
    have hnc27 := NB520_518.out
    have hnb28 := NB518_527.out
    have hnc28 := NB527_518.out
    obtain ⟨hcz29_0, hcz29_1, hcz29_2, hfz29_0, hfz29_1, hfz29_2⟩ := sqY3 BK518
    go_wp2
    go_meet
    case rel => exact ⟨_, (decide ((l0_2.length : Int) > 0)), Z2, H', ⟨Z12⟩, ⟨Kd.Q_of_R (Z43 HO526 BK527)⟩, ⟨Z44 NB518_527 BK518⟩, ⟨Z44 NB519_527 BK519⟩, ⟨Z44 NB520_527 BK520⟩, ⟨Z45 BK527⟩, ⟨sqB4 HB GE518 GE519 GE520 GE527⟩⟩
   rw [if_neg c22] at H
   have c22b0 : (a1_0 == 4 && (a1_1.toList == ([] : List UInt8))) = false := by simpa using c22
   try have c22b8 : (a1_0 == 4 && a1_1.toList.isEmpty) = false := by (have h_ := c22b0; (repeat rw [show ∀ z : List UInt8, (z == ([] : List UInt8)) = z.isEmpty from fun z => by cases z <;> rfl] at h_); exact h_)
   (try (have c22b1 : decide (a1_0 = 4 && (a1_1.toList == ([] : List UInt8))) = false := by simpa using c22))
   (try (have c22b2 : (a1_0 == 4 && (a1_1.toList == ([] : List UInt8))) = false := by simpa using c22))
   (try (have c22b3 : ¬ (a1_0 = 4 && (a1_1.toList == ([] : List UInt8))) := by simpa using c22))
   clear c22
   (first | rw [c22b0] | (simp only [i64_w, i32_w]; rw [c22b0]) | skip)
   have H' := Aside0.mk H
   clear H
   have hnb30 := NB519_518.out
   have hnc30 := NB518_519.out
   have hnb31 := NB519_520.out
   have hnc31 := NB520_519.out
   have hnb32 := NB519_527.out
   have hnc32 := NB527_519.out
   obtain ⟨hcz33_0, hcz33_1, hfz33_0, hfz33_1⟩ := sqY2 BK519
   go_wp2
   go_meet
   case rel => exact ⟨_, (false), Z2, H', ⟨Z12⟩, ⟨Kd.Q_of_R (Z43 HO526 BK527)⟩, ⟨Z44 NB518_527 BK518⟩, ⟨Z44 NB519_527 BK519⟩, ⟨Z44 NB520_527 BK520⟩, ⟨Z45 BK527⟩, ⟨sqB4 HB GE518 GE519 GE520 GE527⟩⟩
  case rest =>
   clear HC6
   try clear c4; try clear hcz12_0; try clear hcz12_1; try clear hcz12_2; try clear hcz14_0; try clear hcz14_1; try clear hcz14_2; try clear hcz20_0; try clear hcz20_1; try clear hcz20_2; try clear hfz12_0; try clear hfz12_1; try clear hfz12_2; try clear hfz14_0; try clear hfz14_1; try clear hfz14_2; try clear hfz20_0; try clear hfz20_1; try clear hfz20_2
   obtain ⟨kq, x24_5, rfl, HA, HJ5, HO_528002, BK518, BK519, BK520, BK527, HB⟩ := hcut
   cases kq with
   | zero => exact absurd HA.out (by simp [spec_DeskDo.j0])
   | succ kj5 =>
    have H := HA.out
    clear HA
    simp only [spec_DeskDo.j0] at H
    by_cases c34 : x24_5 = true
    ·subst c34
     rw [if_pos rfl] at H
     obtain ⟨ji35, hji35⟩ : ∃ j_ : Int, (wrap64 ((t524.length : Int) - 1)) = j_ := ⟨_, rfl⟩
     replace H : (if 0 ≤ (ji35) then (if (ji35) < (t524.length : Int) then (if (ji35) ≤ (t524.length : Int) then (some ((rd_T31 t524 (ji35)).f0, (rd_T31 t524 (ji35)).f1, (t524.take ((ji35) : Int).toNat), true)) else (none)) else (none)) else (none)) = some (r1, r2, r3, r4) := by first | (rw [hji35] at H; exact H) | (simp only [hji35] at H ⊢; exact H)
     have hji35w : (IntKind.i64.wrap ((t524.length : Int) - 1)) = ji35 := (i64_w _).trans hji35
     obtain ⟨c36, H⟩ := sqI H
     have c36b0 : decide (0 ≤ (ji35)) = true := decide_eq_true c36
     clear c36
     obtain ⟨c37, H⟩ := sqI H
     have c37b0 : decide ((ji35) < (t524.length : Int)) = true := decide_eq_true c37
     clear c37
     obtain ⟨c38, H⟩ := sqI H
     have c38b0 := eq_true c38
     have c38b1 : decide ((ji35) ≤ (t524.length : Int)) = true := decide_eq_true c38
     clear c38
     obtain ⟨y529, hy529⟩ : ∃ y_ : List (S31), y_ = (t524.take ((ji35) : Int).toNat) := ⟨_, rfl⟩
     replace H : (some ((rd_T31 t524 (ji35)).f0, (rd_T31 t524 (ji35)).f1, y529, true)) = some (r1, r2, r3, r4) := sqW hy529 H
     have Ny529 := Aside0.mk hy529
     clear hy529
     obtain ⟨rfl, rfl, rfl, rfl⟩ := sqO4 H
     have hnb39 := NB527_518.out
     have hnc39 := NB518_527.out
     have hnb40 := NB527_519.out
     have hnc40 := NB519_527.out
     have hnb41 := NB527_520.out
     have hnc41 := NB520_527.out
     obtain ⟨hcz42_0, hcz42_1, hcz42_2, hfz42_0, hfz42_1, hfz42_2⟩ := sqY3 BK527
     have p528 : 0 ≤ ((ji35) : Int) := of_decide_eq_true Z20
     have q528 : (ji35) < (t524.length : Int) := of_decide_eq_true Z20
     obtain ⟨ad528, e528, hx528_0, hx528_1⟩ := at_T31 (Kd.Q_reads' HO_528002.out).2.2 (ji35) p528 q528
     cases e528
     replace p528 := eq_true p528
     replace q528 := eq_true q528
     go_wp2_with (first | ((with_reducible refine gate_store (t := 31) (p := 34) rfl ?_); refine store_event (t := 31) (p := 34) (v := ?vo_w43) (w1 := ((wc.setCell ⟨gb527, 0, none⟩ (.int .i64 ((rd_T31 t524 (ji35)).f0))).setCell ⟨gb527, 1, none⟩ (.int .i64 ((rd_T31 t524 (ji35)).f1)))) ?hg ?ho ?hn ?hr ?_; (case ho => rfl); (case hg => rfl); (case hn => rfl); (case hr => exact Z21); intro w43 hw; replace HO_528002 : Aside0 (Kd.Q k31 31 w43 w.heap.size (fun _ => True) (.slice (some ad528) t524.length co21) t524) := ⟨(by rw [hw]; exact (by (with_reducible repeat (first | apply Kd.Q_alloc | apply Kd.Q_drewN | apply Kd.Q_drew)); exact Kd.Q_mono (Kd.Q_far (p := ⟨gb527, 1, none⟩) (Kd.Q_far (p := ⟨gb527, 0, none⟩) (Kd.Q_types HO_528002.out BK527.out (by decide)) (fun _ hk => hk.2) (.int .i64 ((rd_T31 t524 (ji35)).f0))) (fun _ hk => hk.2) (.int .i64 ((rd_T31 t524 (ji35)).f1))) (fun _ hk => trivial)))⟩; replace BK518 : Aside0 (w43.heap[gb518]? = some (.cells #[.int .i64 a0_0, .int .i64 a0_1, .slice A0_2 l0_2.length c0_2] 34 (0, 0))) := ⟨(by rw [hw]; exact (Z10 NB518_527 BK518))⟩; replace BK519 : Aside0 (w43.heap[gb519]? = some (.cells #[.int .i64 a1_0, .string a1_1] 38 (0, 0))) := ⟨(by rw [hw]; exact (Z10 NB519_527 BK519))⟩; replace BK520 : Aside0 (w43.heap[gb520]? = some (.cells #[.int .i64 0, .int .i64 0, .slice none 0 0] 34 (0, 0))) := ⟨(by rw [hw]; exact (Z10 NB520_527 BK520))⟩; replace BK527 : Aside0 (w43.heap[gb527]? = some (.cells #[.int .i64 ((rd_T31 t524 (ji35)).f0), .int .i64 ((rd_T31 t524 (ji35)).f1), .slice (some ad528) t524.length co21] 34 (0, 0))) := ⟨(by rw [hw]; exact (by refine sqPut (cs := #[.int .i64 ((rd_T31 t524 (ji35)).f0), .int .i64 t523, .slice (some ad528) t524.length co21]) ?_ 1; refine sqPut (cs := #[.int .i64 t522, .int .i64 t523, .slice (some ad528) t524.length co21]) ?_ 0; exact sqK BK527))⟩; replace HB : Aside0 (Below w.heap.size w w43) := ⟨(by rw [hw]; exact (sqB4 HB GE518 GE519 GE520 GE527))⟩; clear hw; have hcz44_0 : w43.cell? ⟨gb527, 0, none⟩ = some (.int .i64 ((rd_T31 t524 (ji35)).f0)) := (blk_cell BK527.out 0).trans rfl; have hcz44_1 : w43.cell? ⟨gb527, 1, none⟩ = some (.int .i64 ((rd_T31 t524 (ji35)).f1)) := (blk_cell BK527.out 1).trans rfl; have hcz44_2 := sqZ BK527 2 (.slice (some ad528) t524.length co21); have hfz44_0 := blk_frozen BK527.out 0; have hfz44_1 := blk_frozen BK527.out 1; have hfz44_2 := blk_frozen BK527.out 2; have q45 : ((ji35) : Int) ≤ ((t524.length : Int) : Int) := of_decide_eq_true Z20; obtain ⟨i045, hi045, _, hsz45, _⟩ := info_parts info31; have hcut45 := cut_to (P := Tryz.prog) 32 31 .i64 Tryz.underlying32 hi045 (some ad528) t524.length co21 (ji35) (of_decide_eq_true Z20) q45 (Kd.Q_reads' HO_528002.out).2.1; have hr45 := Kd.Q_take (m := ((ji35) : Int).toNat) HO_528002.out (by omega); have hy45 : y529.length = ((ji35) : Int).toNat := (by rw [Ny529.out, List.length_take]; omega); rw [← Ny529.out] at hr45; rw [← hy45] at hr45 hcut45; clear hy45 hi045 hsz45 HO_528002; have HO531 := Aside0.mk hr45; clear hr45; replace q45 := eq_true q45; have hnb46 := NB520_518.out; have hnc46 := NB518_520.out; have hnb47 := NB520_519.out; have hnc47 := NB519_520.out; obtain ⟨hcz48_0, hcz48_1, hcz48_2, hfz48_0, hfz48_1, hfz48_2⟩ := sqY3 BK520))
     refine bodyPost_ret (results_ct rfl _ _ gb520 34 #[.int .i64 ((rd_T31 t524 (ji35)).f0), .int .i64 ((rd_T31 t524 (ji35)).f1), .slice (some ad528) y529.length co21] (0, 0) _ rfl (by refine sqPut (cs := #[.int .i64 ((rd_T31 t524 (ji35)).f0), .int .i64 ((rd_T31 t524 (ji35)).f1), .slice none 0 0]) ?_ 2; refine sqPut (cs := #[.int .i64 ((rd_T31 t524 (ji35)).f0), .int .i64 0, .slice none 0 0]) ?_ 1; refine sqPut (cs := #[.int .i64 0, .int .i64 0, .slice none 0 0]) ?_ 0; refine sqFar ?_ NB520_527; exact sqK BK520) Tryz.underlying34 rfl (by kernel_rfl)) rfl ?_
     exact ⟨_, by first | rfl | (simp [errP_none, errP_some] <;> rfl) | (simp only [← hji35]; first | rfl | (simp [errP_none, errP_some] <;> rfl)) | (simp [*, errP_none, errP_some] <;> rfl), (by (with_reducible repeat (first | apply Kd.Q_alloc | apply Kd.Q_drewN | apply Kd.Q_drew)); exact Kd.Q_mono (Kd.Q_far (p := ⟨gb520, 2, none⟩) (Kd.Q_far (p := ⟨gb520, 1, none⟩) (Kd.Q_far (p := ⟨gb520, 0, none⟩) (Kd.Q_far (p := ⟨gb527, 2, none⟩) (Kd.Q_types (Kd.Q_types HO531.out BK527.out (by decide)) BK520.out (by decide)) (fun _ hk => hk.1.2) (.slice (some ad528) y529.length co21)) (fun _ hk => hk.2) (.int .i64 ((rd_T31 t524 (ji35)).f0))) (fun _ hk => hk.2) (.int .i64 ((rd_T31 t524 (ji35)).f1))) (fun _ hk => hk.2) (.slice (some ad528) y529.length co21)) (fun _ hk => trivial)), sqB4 HB GE518 GE519 GE520 GE527⟩
    replace c34 := Bool.eq_false_iff.mpr c34
    subst c34
    rw [if_neg sqF] at H
    obtain ⟨⟨t532, t533, t534⟩, A49, H⟩ := sqD H
    try dsimp only at H
    have HC50 := Aside0.mk H
    clear H
    have hnb51 := NB518_519.out
    have hnc51 := NB519_518.out
    have hnb52 := NB518_520.out
    have hnc52 := NB520_518.out
    have hnb53 := NB518_527.out
    have hnc53 := NB527_518.out
    obtain ⟨hcz54_0, hcz54_1, hcz54_2, hfz54_0, hfz54_1, hfz54_2⟩ := sqY3 BK518
    have hnb55 := NB519_520.out
    have hnc55 := NB520_519.out
    have hnb56 := NB519_527.out
    have hnc56 := NB527_519.out
    obtain ⟨hcz57_0, hcz57_1, hfz57_0, hfz57_1⟩ := sqY2 BK519
    go_upto_region 10 with (first | ((with_reducible refine gate_callee (f := 57) rfl ?_); refine sqC (some 45) Tryz.func57 #[.agg #[.int .i64 a0_0, .int .i64 a0_1], .agg #[.int .i64 a1_0, .string a1_1]] ?_; (with_reducible refine (spec_l11Made.calls kj5 a0_0 a0_1 a1_0 a1_1 t532 t533 t534 _ A49.out).mono ?_); rintro e w58 ⟨rfl, hb⟩; refine ⟨_, rfl, ?_⟩; replace HO_528002 := Aside0.mk (Kd.Q_below (Z46 HO_528002) hb); replace BK518 := sqT BK518 hb; replace BK519 := sqT BK519 hb; replace BK520 := sqT BK520 hb; replace BK527 := sqT BK527 hb; replace HB := sqS (sqB4 HB GE518 GE519 GE520 GE527) hb; (try clear hb)) | ((with_reducible refine gate_dst (N := 8) rfl ?_); (try (refine gate_guard (by rfl) ?_; dsimp only)); refine sqBx w (sqB4 HB GE518 GE519 GE520 GE527) (N := 8) (cs := #[.int .i64 0, .int .i64 0]) (t := 31) ?_; intro gb535 hg w59 BK535 GE535 HB hb; replace HO_528002 := Aside0.mk (Kd.Q_below (Kd.Q_elderB (Z46 HO_528002) gb535 (Nat.le_of_eq hg.symm)) hb); obtain ⟨NB518_535, NB535_518⟩ := sqM hg BK518; replace BK518 := sqT BK518 hb; obtain ⟨NB519_535, NB535_519⟩ := sqM hg BK519; replace BK519 := sqT BK519 hb; obtain ⟨NB520_535, NB535_520⟩ := sqM hg BK520; replace BK520 := sqT BK520 hb; obtain ⟨NB527_535, NB535_527⟩ := sqM hg BK527; replace BK527 := sqT BK527 hb; clear hb hg; have hnb60 := NB535_518.out; have hnc60 := NB518_535.out; have hnb61 := NB535_519.out; have hnc61 := NB519_535.out; have hnb62 := NB535_520.out; have hnc62 := NB520_535.out; have hnb63 := NB535_527.out; have hnc63 := NB527_535.out; obtain ⟨hcz64_0, hcz64_1, hfz64_0, hfz64_1⟩ := sqY2 BK535))
    (try simp only [Act.put, List.setIfInBounds_toArray, List.set_cons_zero, List.set_cons_succ])
    go_cut [55] (fun v55 wc => ∃ (kq : Nat) (x55_49 : Bool), v55 = .bool x55_49 ∧ Aside0 (spec_DeskDo.j1 kq x55_49 t522 t523 t524 t532 t533 = some (r1, r2, r3, r4)) ∧ Aside0 (kq ≤ kj5) ∧ Aside0 (Kd.Q k31 31 wc w.heap.size (fun k_ => k_ ≠ gb535) (.slice Ao21 t524.length co21) t524) ∧ Aside0 (wc.heap[gb518]? = some (.cells #[.int .i64 a0_0, .int .i64 a0_1, (.slice A0_2 l0_2.length c0_2)] 34 (0, 0))) ∧ Aside0 (wc.heap[gb519]? = some (.cells #[.int .i64 a1_0, .string a1_1] 38 (0, 0))) ∧ Aside0 (wc.heap[gb520]? = some (.cells #[.int .i64 0, .int .i64 0, (.slice none 0 0)] 34 (0, 0))) ∧ Aside0 (wc.heap[gb527]? = some (.cells #[.int .i64 t522, .int .i64 t523, (.slice Ao21 t524.length co21)] 34 (0, 0))) ∧ Aside0 (wc.heap[gb535]? = some (.cells #[.int .i64 t532, .int .i64 t533] 31 (0, 0))) ∧ Aside0 (Below w.heap.size w wc))
    case first =>
     have H := HC50.out
     clear HC50
     by_cases c65 : t534 = true
     ·subst c65
      rw [if_pos rfl] at H
      have H' := Aside0.mk H
      clear H
      have hnb66 := NB535_518.out
      have hnc66 := NB518_535.out
      have hnb67 := NB535_519.out
      have hnc67 := NB519_535.out
      have hnb68 := NB535_520.out
      have hnc68 := NB520_535.out
      have hnb69 := NB535_527.out
      have hnc69 := NB527_535.out
      obtain ⟨hcz70_0, hcz70_1, hfz70_0, hfz70_1⟩ := sqY2 BK535
      have hnb71 := NB518_519.out
      have hnc71 := NB519_518.out
      have hnb72 := NB518_520.out
      have hnc72 := NB520_518.out
      have hnb73 := NB518_527.out
      have hnc73 := NB527_518.out
      obtain ⟨hcz74_0, hcz74_1, hcz74_2, hfz74_0, hfz74_1, hfz74_2⟩ := sqY3 BK518
      go_wp2
      go_meet
      case rel => exact ⟨_, ((t532 == a0_0 && (t533 == a0_1))), Z2, H', ⟨by have := HJ5.out; first | omega | exact Nat.le_refl _⟩, ⟨Z47 HO_528002⟩, ⟨Z10 NB518_535 BK518⟩, ⟨Z10 NB519_535 BK519⟩, ⟨Z10 NB520_535 BK520⟩, ⟨Z10 NB527_535 BK527⟩, ⟨Z48 BK535⟩, ⟨Z49 GE518 GE519 GE520 GE527 GE535⟩⟩
     replace c65 := Bool.eq_false_iff.mpr c65
     subst c65
     rw [if_neg sqF] at H
     have H' := Aside0.mk H
     clear H
     go_wp2
     go_meet
     case rel => exact ⟨_, (true), Z2, H', ⟨by have := HJ5.out; first | omega | exact Nat.le_refl _⟩, ⟨Z47 HO_528002⟩, ⟨Z10 NB518_535 BK518⟩, ⟨Z10 NB519_535 BK519⟩, ⟨Z10 NB520_535 BK520⟩, ⟨Z10 NB527_535 BK527⟩, ⟨Z48 BK535⟩, ⟨Z49 GE518 GE519 GE520 GE527 GE535⟩⟩
    case rest =>
     clear HC50
     try clear c1; try clear c2; try clear p2; try clear c3; try clear c4; try clear c5; try clear c10; try clear c11; try clear c14; try clear c17; try clear c18; try clear c19; try clear c22; try clear c22b0; try clear c22b1; try clear c22b2; try clear c23; try clear c24; try clear c25; try clear c27; try clear c28; try clear c30; try clear c31; try clear c32; try clear c34; try clear hcz12_0; try clear hcz12_1; try clear hcz12_2; try clear hcz14_0; try clear hcz14_1; try clear hcz14_2; try clear hcz20_0; try clear hcz20_1; try clear hcz20_2; try clear hcz26_0; try clear hcz26_1; try clear hcz29_0; try clear hcz29_1; try clear hcz29_2; try clear hcz33_0; try clear hcz33_1; try clear hcz54_0; try clear hcz54_1; try clear hcz54_2; try clear hcz57_0; try clear hcz57_1; try clear hcz64_0; try clear hcz64_1; try clear hfz12_0; try clear hfz12_1; try clear hfz12_2; try clear hfz14_0; try clear hfz14_1; try clear hfz14_2; try clear hfz20_0; try clear hfz20_1; try clear hfz20_2; try clear hfz26_0; try clear hfz26_1; try clear hfz29_0; try clear hfz29_1; try clear hfz29_2; try clear hfz33_0; try clear hfz33_1; try clear hfz54_0; try clear hfz54_1; try clear hfz54_2; try clear hfz57_0; try clear hfz57_1; try clear hfz64_0; try clear hfz64_1; try clear p2
     obtain ⟨kq, x55_49, rfl, HA, HJ49, HO_528002, BK518, BK519, BK520, BK527, BK535, HB⟩ := hcut
     cases kq with
     | zero => exact absurd HA.out (by simp [spec_DeskDo.j1])
     | succ kj49 =>
      have H := HA.out
      clear HA
      simp only [spec_DeskDo.j1] at H
      by_cases c75 : x55_49 = true
      ·subst c75
       rw [if_pos rfl] at H
       obtain ⟨rfl, rfl, rfl, rfl⟩ := sqO4 H
       have hnb76 := NB527_518.out
       have hnc76 := NB518_527.out
       have hnb77 := NB527_519.out
       have hnc77 := NB519_527.out
       have hnb78 := NB527_520.out
       have hnc78 := NB520_527.out
       have hnb79 := NB527_535.out
       have hnc79 := NB535_527.out
       obtain ⟨hcz80_0, hcz80_1, hcz80_2, hfz80_0, hfz80_1, hfz80_2⟩ := sqY3 BK527
       have hnb81 := NB520_518.out
       have hnc81 := NB518_520.out
       have hnb82 := NB520_519.out
       have hnc82 := NB519_520.out
       have hnb83 := NB520_535.out
       have hnc83 := NB535_520.out
       obtain ⟨hcz84_0, hcz84_1, hcz84_2, hfz84_0, hfz84_1, hfz84_2⟩ := sqY3 BK520
       go_wp2
       refine bodyPost_ret (results_ct rfl _ _ gb520 34 #[.int .i64 t522, .int .i64 t523, .slice Ao21 t524.length co21] (0, 0) _ rfl (Z45 BK520) Tryz.underlying34 rfl (by kernel_rfl)) rfl ?_
       exact ⟨_, Z6, by (with_reducible repeat (first | apply Kd.Q_alloc | apply Kd.Q_drewN | apply Kd.Q_drew)); exact Kd.Q_mono (Kd.Q_far (p := ⟨gb520, 2, none⟩) (Kd.Q_far (p := ⟨gb520, 1, none⟩) (Kd.Q_far (p := ⟨gb520, 0, none⟩) (Kd.Q_types HO_528002.out BK520.out (by decide)) (fun _ hk => hk.2) (.int .i64 t522)) (fun _ hk => hk.2) (.int .i64 t523)) (fun _ hk => hk.2) (.slice Ao21 t524.length co21)) (fun _ hk => trivial), Z49 GE518 GE519 GE520 GE527 GE535⟩
      replace c75 := Bool.eq_false_iff.mpr c75
      subst c75
      rw [if_neg sqF] at H
      obtain ⟨c85, H⟩ := sqI H
      have LMc85 := Aside0.mk c85
      clear c85
      obtain ⟨y536, hy536⟩ : ∃ y_ : List (S31), y_ = (t524 ++ [(⟨t522, t523⟩ : S31)]) := ⟨_, rfl⟩
      replace H : (if (y536.length : Int) > 8 then (if 1 ≤ (y536.length : Int) then (some (t532, t533, (y536.drop (1 : Int).toNat), true)) else (none)) else (some (t532, t533, y536, true))) = some (r1, r2, r3, r4) := sqW hy536 H
      have Ny536 := Aside0.mk hy536
      clear hy536
      by_cases c86 : (y536.length : Int) > 8
      ·rw [if_pos c86] at H
       have c86b0 : decide (8 < (y536.length : Int)) = true := decide_eq_true c86
       have c86b1 : decide (8 < y536.length) = true := decide_eq_true (by omega)
       clear c86
       obtain ⟨c87, H⟩ := sqI H
       have c87b0 := eq_true c87
       have c87b1 : decide (1 ≤ (y536.length : Int)) = true := decide_eq_true c87
       clear c87
       obtain ⟨y539, hy539⟩ : ∃ y_ : List (S31), y_ = (y536.drop (1 : Int).toNat) := ⟨_, rfl⟩
       replace H : (some (t532, t533, y539, true)) = some (r1, r2, r3, r4) := sqW hy539 H
       have Ny539 := Aside0.mk hy539
       clear hy539
       obtain ⟨rfl, rfl, rfl, rfl⟩ := sqO4 H
       have hnb88 := NB527_518.out
       have hnc88 := NB518_527.out
       have hnb89 := NB527_519.out
       have hnc89 := NB519_527.out
       have hnb90 := NB527_520.out
       have hnc90 := NB520_527.out
       have hnb91 := NB527_535.out
       have hnc91 := NB535_527.out
       obtain ⟨hcz92_0, hcz92_1, hcz92_2, hfz92_0, hfz92_1, hfz92_2⟩ := sqY3 BK527
       go_wp2_with (first | ((with_reducible refine gate_builtin (b := .append) (xs := #[.tmp 58, .tmp 61]) rfl ?_); (try (refine gate_guard (by rfl) ?_; dsimp only)); at_builtin; refine Kd.Q_append k31 (w0 := w) w.heap.size rfl (.tmp 58) (.tmp 61) 32 31 (.agg #[(.int .i64 0), (.int .i64 0)]) 16 rfl Tryz.underlying32 info31 rfl (by decide) (by omega) (.slice Ao21 t524.length co21) t524 (⟨t522, t523⟩ : S31) [.int .i64 t522, .int .i64 t523] (fun k_ => k_ ≠ gb535) (fun _ => False) rfl rfl ?aP (fun _ hk => hk.elim) ?aF ?aO ?aB ?aS ?aL ?_; (case aP => exact k31_mkM _ _ _ (⟨t522, t523⟩ : S31)); (case aB => exact (Z49 GE518 GE519 GE520 GE527 GE535)); (case aF => exact (fun k_ hk => Kd.freshB (sqK BK535) k_ hk)); (case aO => exact (Z46 HO_528002)); (case aS => exact (below_size (Z49 GE518 GE519 GE520 GE527 GE535))); (case aL => exact Z3 LMc85); intro v537 w93 ho hb hg hat; rw [← Ny536.out] at ho; replace BK518 := Aside0.mk (blk_grown (sqK BK518) hg (Kd.Q_ne HO_528002.out BK518.out (by decide))); replace BK519 := Aside0.mk (blk_grown (sqK BK519) hg (Kd.Q_ne HO_528002.out BK519.out (by decide))); replace BK520 := Aside0.mk (blk_grown (sqK BK520) hg (Kd.Q_ne HO_528002.out BK520.out (by decide))); replace BK527 := Aside0.mk (blk_grown (sqK BK527) hg (Kd.Q_ne HO_528002.out BK527.out (by decide))); replace BK535 := Aside0.mk (blk_grown (sqK BK535) hg (Kd.Q_away HO_528002.out (fun _ hk => hk))); replace HB := Aside0.mk (hb); have HO538 := Aside0.mk (ho); clear HO_528002; clear ho hb hg hat; obtain ⟨Ao94, co94, eo94, _⟩ := Kd.Q_slice HO538.out; subst eo94; obtain ⟨hcz95_0, hcz95_1, hcz95_2, hfz95_0, hfz95_1, hfz95_2⟩ := sqY3 BK527) | ((with_reducible refine gate_store (t := 32) (p := 63) rfl ?_); refine store_event (t := 32) (p := 63) (v := ?vo_w96) (w1 := (w93.setCell ⟨gb527, 2, none⟩ (.slice Ao94 y536.length co94))) ?hg ?ho ?hn ?hr ?_; (case ho => rfl); (case hg => rfl); (case hn => rfl); (case hr => exact Z21); intro w96 hw; replace HO538 : Aside0 (Kd.Q k31 31 w96 w.heap.size (fun k_ => k_ ≠ gb535) (.slice Ao94 y536.length co94) y536) := ⟨(by rw [hw]; exact (by (with_reducible repeat (first | apply Kd.Q_alloc | apply Kd.Q_drewN | apply Kd.Q_drew)); exact Kd.Q_mono (Kd.Q_far (p := ⟨gb527, 2, none⟩) (Kd.Q_types HO538.out BK527.out (by decide)) (fun _ hk => hk.2) (.slice Ao94 y536.length co94)) (fun _ hk => hk.1)))⟩; replace BK518 : Aside0 (w96.heap[gb518]? = some (.cells #[.int .i64 a0_0, .int .i64 a0_1, .slice A0_2 l0_2.length c0_2] 34 (0, 0))) := ⟨(by rw [hw]; exact (Z4 NB518_527 BK518))⟩; replace BK519 : Aside0 (w96.heap[gb519]? = some (.cells #[.int .i64 a1_0, .string a1_1] 38 (0, 0))) := ⟨(by rw [hw]; exact (Z4 NB519_527 BK519))⟩; replace BK520 : Aside0 (w96.heap[gb520]? = some (.cells #[.int .i64 0, .int .i64 0, .slice none 0 0] 34 (0, 0))) := ⟨(by rw [hw]; exact (Z4 NB520_527 BK520))⟩; replace BK527 : Aside0 (w96.heap[gb527]? = some (.cells #[.int .i64 t522, .int .i64 t523, .slice Ao94 y536.length co94] 34 (0, 0))) := ⟨(by rw [hw]; exact (by refine sqPut (cs := #[.int .i64 t522, .int .i64 t523, .slice Ao21 t524.length co21]) ?_ 2; exact sqK BK527))⟩; replace BK535 : Aside0 (w96.heap[gb535]? = some (.cells #[.int .i64 t532, .int .i64 t533] 31 (0, 0))) := ⟨(by rw [hw]; exact (Z4 NB535_527 BK535))⟩; replace HB : Aside0 (Below w.heap.size w w96) := ⟨(by rw [hw]; exact (Z49 GE518 GE519 GE520 GE527 GE535))⟩; clear hw; obtain ⟨hcz97_0, hcz97_1, hcz97_2, hfz97_0, hfz97_1, hfz97_2⟩ := sqY3 BK527; have q98 : (1 : Int) ≤ ((y536.length : Int) : Int) := of_decide_eq_true Z20; obtain ⟨i098, hi098, _, hsz98, _⟩ := info_parts info31; have hcut98 := cut_from (P := Tryz.prog) 32 31 .i64 Tryz.underlying32 hi098 2 hsz98 Ao94 y536.length co94 1 (by omega) q98; have hr98 := Kd.Q_drop (k := (1 : Int).toNat) HO538.out (by omega); obtain ⟨A98, hA98⟩ : ∃ A1, A1 = (if co94 = (1 : Int).toNat then Ao94 else (Ao94 : Option Addr).map (·.add ((1 : Int).toNat * 2))) := ⟨_, rfl⟩; obtain ⟨c98, hc98⟩ : ∃ c1, c1 = co94 - (1 : Int).toNat := ⟨_, rfl⟩; have hy98 : y539.length = y536.length - (1 : Int).toNat := (by rw [Ny539.out, List.length_drop]); rw [← Ny539.out] at hr98; rw [← hy98, ← hA98, ← hc98] at hcut98; replace hr98 : Kd.Q k31 31 w96 w.heap.size (fun k_ => k_ ≠ gb535) (.slice A98 y539.length c98) y539 := (by rw [hA98, hc98, hy98]; exact hr98); have HE98 : Aside0 ((Value.slice A98 y539.length c98).ownBlock = (.slice Ao94 y536.length co94 : Value).ownBlock) := ⟨by rw [hA98]; split <;> (cases (Ao94 : Option Addr) <;> rfl)⟩; clear hy98 hi098 hsz98 HO538 hA98 hc98; have HO541 := Aside0.mk hr98; clear hr98; replace q98 := eq_true q98; have hnb99 := NB535_518.out; have hnc99 := NB518_535.out; have hnb100 := NB535_519.out; have hnc100 := NB519_535.out; have hnb101 := NB535_520.out; have hnc101 := NB520_535.out; obtain ⟨hcz102_0, hcz102_1, hfz102_0, hfz102_1⟩ := sqY2 BK535; have hnb103 := NB520_518.out; have hnc103 := NB518_520.out; have hnb104 := NB520_519.out; have hnc104 := NB519_520.out; obtain ⟨hcz105_0, hcz105_1, hcz105_2, hfz105_0, hfz105_1, hfz105_2⟩ := sqY3 BK520))
       refine bodyPost_ret (results_ct rfl _ _ gb520 34 #[.int .i64 t532, .int .i64 t533, .slice A98 y539.length c98] (0, 0) _ rfl (Z50 NB520_527 BK520) Tryz.underlying34 rfl (by kernel_rfl)) rfl ?_
       exact ⟨_, Z6, by (with_reducible repeat (first | apply Kd.Q_alloc | apply Kd.Q_drewN | apply Kd.Q_drew)); exact Kd.Q_mono (Kd.Q_far (p := ⟨gb520, 2, none⟩) (Kd.Q_far (p := ⟨gb520, 1, none⟩) (Kd.Q_far (p := ⟨gb520, 0, none⟩) (Kd.Q_far (p := ⟨gb527, 1, none⟩) (Kd.Q_far (p := ⟨gb527, 0, none⟩) (Kd.Q_far (p := ⟨gb527, 2, none⟩) (Kd.Q_types (Kd.Q_types HO541.out BK527.out (by decide)) BK520.out (by decide)) (fun _ hk => hk.1.2) (.slice A98 y539.length c98)) (fun _ hk => hk.1.2) (.int .i64 t532)) (fun _ hk => hk.1.2) (.int .i64 t533)) (fun _ hk => hk.2) (.int .i64 t532)) (fun _ hk => hk.2) (.int .i64 t533)) (fun _ hk => hk.2) (.slice A98 y539.length c98)) (fun _ hk => trivial), Z49 GE518 GE519 GE520 GE527 GE535⟩
      rw [if_neg c86] at H
      have c86b0 : decide (8 < (y536.length : Int)) = false := decide_eq_false c86
      have c86b1 : decide (8 < y536.length) = false := decide_eq_false (by omega)
      clear c86
      obtain ⟨rfl, rfl, rfl, rfl⟩ := sqO4 H
      have hnb106 := NB527_518.out
      have hnc106 := NB518_527.out
      have hnb107 := NB527_519.out
      have hnc107 := NB519_527.out
      have hnb108 := NB527_520.out
      have hnc108 := NB520_527.out
      have hnb109 := NB527_535.out
      have hnc109 := NB535_527.out
      obtain ⟨hcz110_0, hcz110_1, hcz110_2, hfz110_0, hfz110_1, hfz110_2⟩ := sqY3 BK527
      go_wp2_with (first | ((with_reducible refine gate_builtin (b := .append) (xs := #[.tmp 58, .tmp 61]) rfl ?_); (try (refine gate_guard (by rfl) ?_; dsimp only)); at_builtin; refine Kd.Q_append k31 (w0 := w) w.heap.size rfl (.tmp 58) (.tmp 61) 32 31 (.agg #[(.int .i64 0), (.int .i64 0)]) 16 rfl Tryz.underlying32 info31 rfl (by decide) (by omega) (.slice Ao21 t524.length co21) t524 (⟨t522, t523⟩ : S31) [.int .i64 t522, .int .i64 t523] (fun k_ => k_ ≠ gb535) (fun _ => False) rfl rfl ?aP (fun _ hk => hk.elim) ?aF ?aO ?aB ?aS ?aL ?_; (case aP => exact k31_mkM _ _ _ (⟨t522, t523⟩ : S31)); (case aB => exact (Z49 GE518 GE519 GE520 GE527 GE535)); (case aF => exact (fun k_ hk => Kd.freshB (sqK BK535) k_ hk)); (case aO => exact (Z46 HO_528002)); (case aS => exact (below_size (Z49 GE518 GE519 GE520 GE527 GE535))); (case aL => exact Z3 LMc85); intro v537 w111 ho hb hg hat; rw [← Ny536.out] at ho; replace BK518 := Aside0.mk (blk_grown (sqK BK518) hg (Kd.Q_ne HO_528002.out BK518.out (by decide))); replace BK519 := Aside0.mk (blk_grown (sqK BK519) hg (Kd.Q_ne HO_528002.out BK519.out (by decide))); replace BK520 := Aside0.mk (blk_grown (sqK BK520) hg (Kd.Q_ne HO_528002.out BK520.out (by decide))); replace BK527 := Aside0.mk (blk_grown (sqK BK527) hg (Kd.Q_ne HO_528002.out BK527.out (by decide))); replace BK535 := Aside0.mk (blk_grown (sqK BK535) hg (Kd.Q_away HO_528002.out (fun _ hk => hk))); replace HB := Aside0.mk (hb); have HO538 := Aside0.mk (ho); clear HO_528002; clear ho hb hg hat; obtain ⟨Ao112, co112, eo112, _⟩ := Kd.Q_slice HO538.out; subst eo112; obtain ⟨hcz113_0, hcz113_1, hcz113_2, hfz113_0, hfz113_1, hfz113_2⟩ := sqY3 BK527; have hnb114 := NB535_518.out; have hnc114 := NB518_535.out; have hnb115 := NB535_519.out; have hnc115 := NB519_535.out; have hnb116 := NB535_520.out; have hnc116 := NB520_535.out; obtain ⟨hcz117_0, hcz117_1, hfz117_0, hfz117_1⟩ := sqY2 BK535; have hnb118 := NB520_518.out; have hnc118 := NB518_520.out; have hnb119 := NB520_519.out; have hnc119 := NB519_520.out; obtain ⟨hcz120_0, hcz120_1, hcz120_2, hfz120_0, hfz120_1, hfz120_2⟩ := sqY3 BK520))
      refine bodyPost_ret (results_ct rfl _ _ gb520 34 #[.int .i64 t532, .int .i64 t533, .slice Ao112 y536.length co112] (0, 0) _ rfl (Z50 NB520_527 BK520) Tryz.underlying34 rfl (by kernel_rfl)) rfl ?_
      exact ⟨_, Z6, by (with_reducible repeat (first | apply Kd.Q_alloc | apply Kd.Q_drewN | apply Kd.Q_drew)); exact Kd.Q_mono (Kd.Q_far (p := ⟨gb520, 2, none⟩) (Kd.Q_far (p := ⟨gb520, 1, none⟩) (Kd.Q_far (p := ⟨gb520, 0, none⟩) (Kd.Q_far (p := ⟨gb527, 1, none⟩) (Kd.Q_far (p := ⟨gb527, 0, none⟩) (Kd.Q_far (p := ⟨gb527, 2, none⟩) (Kd.Q_types (Kd.Q_types HO538.out BK527.out (by decide)) BK520.out (by decide)) (fun _ hk => hk.1.2) (.slice Ao112 y536.length co112)) (fun _ hk => hk.1.2) (.int .i64 t532)) (fun _ hk => hk.1.2) (.int .i64 t533)) (fun _ hk => hk.2) (.int .i64 t532)) (fun _ hk => hk.2) (.int .i64 t533)) (fun _ hk => hk.2) (.slice Ao112 y536.length co112)) (fun _ hk => trivial), Z49 GE518 GE519 GE520 GE527 GE535⟩
 replace c4 := Bool.eq_false_iff.mpr c4
 subst c4
 rw [if_neg sqF] at H
 obtain ⟨rfl, rfl, rfl, rfl⟩ := sqO4 H
 go_enter Tryz.func14, Tryz.ntmps14
 go_wp2_with (first | ((with_reducible refine gate_dst (N := 2) rfl ?_); (try (refine gate_guard (by rfl) ?_; dsimp only)); refine sqBx w (sqB HB) (N := 2) (cs := #[.int .i64 a0_0, .int .i64 a0_1, .slice A0_2 l0_2.length c0_2]) (t := 34) ?_; intro gb518 hg w121 BK518 GE518 HB hb; clear hb hg) | ((with_reducible refine gate_dst (N := 3) rfl ?_); (try (refine gate_guard (by rfl) ?_; dsimp only)); refine sqBx w (sqB1 HB GE518) (N := 3) (cs := #[.int .i64 a1_0, .string a1_1]) (t := 38) ?_; intro gb519 hg w122 BK519 GE519 HB hb; obtain ⟨NB518_519, NB519_518⟩ := sqM hg BK518; replace BK518 := sqT BK518 hb; clear hb hg) | ((with_reducible refine gate_dst (N := 4) rfl ?_); (try (refine gate_guard (by rfl) ?_; dsimp only)); refine sqBx w (sqB2 HB GE518 GE519) (N := 4) (cs := #[.int .i64 0, .int .i64 0, .slice none 0 0]) (t := 34) ?_; intro gb520 hg w123 BK520 GE520 HB hb; obtain ⟨NB518_520, NB520_518⟩ := sqM hg BK518; replace BK518 := sqT BK518 hb; obtain ⟨NB519_520, NB520_519⟩ := sqM hg BK519; replace BK519 := sqT BK519 hb; clear hb hg; have hnb124 := NB518_519.out; have hnc124 := NB519_518.out; have hnb125 := NB518_520.out; have hnc125 := NB520_518.out; obtain ⟨hcz126_0, hcz126_1, hcz126_2, hfz126_0, hfz126_1, hfz126_2⟩ := sqY3 BK518) | ((with_reducible refine gate_callee (f := 30) rfl ?_); refine sqC (some 11) Tryz.func30 #[.agg #[.int .i64 a0_0, .int .i64 a0_1, .slice A0_2 l0_2.length c0_2]] ?_; (with_reducible refine (spec_DeskOk.calls k a0_0 a0_1 _ _ l0_2 false _ ?side1 ?side2 A3.out).mono ?_); (case side1 => exact Z16); (case side2 => exact Z13); rintro e w127 ⟨rfl, hb⟩; refine ⟨_, rfl, ?_⟩; replace BK518 := sqT BK518 hb; replace BK519 := sqT BK519 hb; replace BK520 := sqT BK520 hb; replace HB := sqS (sqB3 HB GE518 GE519 GE520) hb; (try clear hb); have hnb128 := NB520_519.out; have hnc128 := NB519_520.out; obtain ⟨hcz129_0, hcz129_1, hcz129_2, hfz129_0, hfz129_1, hfz129_2⟩ := sqY3 BK520))
 refine bodyPost_ret (results_ct rfl _ _ gb520 34 #[.int .i64 0, .int .i64 0, .slice none 0 0] (0, 0) _ rfl (Z17 BK520) Tryz.underlying34 rfl (by kernel_rfl)) rfl ?_
 exact ⟨_, Z6, Kd.Q_of_R Z18, sqB3 HB GE518 GE519 GE520⟩

end Go.Proofs.YtofmlbgfcohhoaaGreatDoor.PFnExactDeskLine
