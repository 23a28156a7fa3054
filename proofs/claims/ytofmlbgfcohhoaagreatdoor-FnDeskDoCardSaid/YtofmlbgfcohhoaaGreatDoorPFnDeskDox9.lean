/- Lean functions of the Go functions that the law FnDeskDo reaches, each with its contract: made by a program of this session. -/
import Derived.Test.YtofmlbgfcohhoaaGreatDoorPFnDeskDox1
import Derived.Test.YtofmlbgfcohhoaaGreatDoorPFnDeskDox8
namespace Go.Proofs.YtofmlbgfcohhoaaGreatDoor.PFnDeskDo
open Go.RowKit Go.Proofs.YtofmlbgfcohhoaaGreatDoorW.PrintWords Go.Proofs.YtofmlbgfcohhoaaGreatDoorW.PrintLast Go.Proofs.YtofmlbgfcohhoaaGreatDoorW.PrintMore Go.Proofs.YtofmlbgfcohhoaaGreatDoor.Lib
attribute [local go_sem] max2_int min2_int max_two min_two max_three min_three max_four min_four   -- for this text's walks alone
set_option linter.unusedVariables false
set_option linter.unusedSimpArgs false

attribute [local go_sem high] eqA31 eqA38
/-! ### spec_DeskDo: function 14 -/
mutual
def spec_DeskDo.j0 : Nat → Bool → Int → Int → List (S31) → Int → ByteArray → Int → Int → List (S31) → Option (Int × Int × (List (S31)) × Bool)
 | 0, _, _, _, _, _, _, _, _, _ => none
 | k + 1, x24, x224000, x224001, x224002, x225000, x225001, x233000, x233001, x233002 => if x24 = true then (if 0 ≤ (wrap64 ((x233002.length : Int) - 1)) then (if (wrap64 ((x233002.length : Int) - 1)) < (x233002.length : Int) then (if (wrap64 ((x233002.length : Int) - 1)) ≤ (x233002.length : Int) then (some ((rd_T31 x233002 (wrap64 ((x233002.length : Int) - 1))).f0, (rd_T31 x233002 (wrap64 ((x233002.length : Int) - 1))).f1, (x233002.take ((wrap64 ((x233002.length : Int) - 1)) : Int).toNat), true)) else (none)) else (none)) else (none)) else ((spec_l11Made.f k x224000 x224001 x225000 x225001).bind fun bt237 => (if bt237.2.2 = true then (spec_DeskDo.j1 k (bt237.1 == x224000 && (bt237.2.1 == x224001)) x233000 x233001 x233002 bt237.1 bt237.2.1) else (spec_DeskDo.j1 k true x233000 x233001 x233002 bt237.1 bt237.2.1)))
def spec_DeskDo.j1 : Nat → Bool → Int → Int → List (S31) → Int → Int → Option (Int × Int × (List (S31)) × Bool)
 | 0, _, _, _, _, _, _ => none
 | k + 1, x55, x233000, x233001, x233002, x241000, x241001 => if x55 = true then (some (x233000, x233001, x233002, false)) else (if x233002.length < 8796093022208 then ((some (x233002 ++ [(⟨x233000, x233001⟩ : S31)] : List (S31))).bind fun y241 => (if (y241.length : Int) > 8 then (if 1 ≤ (y241.length : Int) then (some (x241000, x241001, (y241.drop (1 : Int).toNat), true)) else (none)) else (some (x241000, x241001, y241, true)))) else (none))
end
def spec_DeskDo.f (k : Nat) (a0_0 : Int) (a0_1 : Int) (l0_2 : List (S31)) (a1_0 : Int) (a1_1 : ByteArray) : Option (Int × Int × (List (S31)) × Bool) := (spec_DeskOk.f k a0_0 a0_1 l0_2).bind fun t226 => (if t226 = true then ((spec_l11Copy.f a0_0 a0_1 l0_2).bind fun bt227 => (if (a1_0 == 4 && (a1_1.toList == ([] : List UInt8))) = true then (spec_DeskDo.j0 k (decide ((l0_2.length : Int) > 0)) a0_0 a0_1 l0_2 a1_0 a1_1 bt227.1 bt227.2.1 bt227.2.2) else (spec_DeskDo.j0 k false a0_0 a0_1 l0_2 a1_0 a1_1 bt227.1 bt227.2.1 bt227.2.2))) else (some (0, 0, ([] : List (S31)), false)))
theorem spec_DeskDo.mono_l : ∀ k, (∀ y0 y1 y2 y3 y4 y5 y6 y7 y8, LeO (spec_DeskDo.j0 k y0 y1 y2 y3 y4 y5 y6 y7 y8) (spec_DeskDo.j0 (k + 1) y0 y1 y2 y3 y4 y5 y6 y7 y8)) ∧ (∀ y0 y1 y2 y3 y4 y5, LeO (spec_DeskDo.j1 k y0 y1 y2 y3 y4 y5) (spec_DeskDo.j1 (k + 1) y0 y1 y2 y3 y4 y5))
 | 0 => ⟨fun _ _ _ _ _ _ _ _ _ r h => by simp [spec_DeskDo.j0] at h, fun _ _ _ _ _ _ r h => by simp [spec_DeskDo.j1] at h⟩
 | k + 1 => by
  obtain ⟨ih0, ih1⟩ := spec_DeskDo.mono_l k
  refine ⟨?_, ?_⟩
  ·intro y0 y1 y2 y3 y4 y5 y6 y7 y8
   unfold spec_DeskDo.j0
   repeat' first
   | (with_reducible exact ih0 _ _ _ _ _ _ _ _ _)
   | (with_reducible exact ih1 _ _ _ _ _ _)
   | (with_reducible exact spec_DeskOk.mono _ _ _ _)
   | (with_reducible exact spec_l11Made.mono _ _ _ _ _)
   | (with_reducible exact LeO.refl _)
   | (with_reducible exact LeO.none _)
   | (with_reducible refine LeO.ite ?_ ?_)
   | (with_reducible refine LeO.bind ?_ (fun _ => ?_))
  ·intro y0 y1 y2 y3 y4 y5
   unfold spec_DeskDo.j1
   repeat' first
   | (with_reducible exact ih0 _ _ _ _ _ _ _ _ _)
   | (with_reducible exact ih1 _ _ _ _ _ _)
   | (with_reducible exact spec_DeskOk.mono _ _ _ _)
   | (with_reducible exact spec_l11Made.mono _ _ _ _ _)
   | (with_reducible exact LeO.refl _)
   | (with_reducible exact LeO.none _)
   | (with_reducible refine LeO.ite ?_ ?_)
   | (with_reducible refine LeO.bind ?_ (fun _ => ?_))
theorem spec_DeskDo.mono : ∀ a0 a1 a2 a3 a4 k, LeO (spec_DeskDo.f k a0 a1 a2 a3 a4) (spec_DeskDo.f (k + 1) a0 a1 a2 a3 a4) := by
 intro a0 a1 a2 a3 a4 k
 obtain ⟨ih0, ih1⟩ := spec_DeskDo.mono_l k
 unfold spec_DeskDo.f
 repeat' first
   | (with_reducible exact ih0 _ _ _ _ _ _ _ _ _)
   | (with_reducible exact ih1 _ _ _ _ _ _)
   | (with_reducible exact spec_DeskOk.mono _ _ _ _)
   | (with_reducible exact spec_l11Made.mono _ _ _ _ _)
   | (with_reducible exact LeO.refl _)
   | (with_reducible exact LeO.none _)
   | (with_reducible refine LeO.ite ?_ ?_)
   | (with_reducible refine LeO.bind ?_ (fun _ => ?_))
set_option maxHeartbeats 8000000 in
set_option maxRecDepth 100000 in
theorem spec_DeskDo.calls (k : Nat) (a0_0 : Int) (a0_1 : Int) (A0_2 : Option Addr) (c0_2 : Nat) (l0_2 : List (S31)) (a1_0 : Int) (a1_1 : ByteArray) (r1 : Int) (r2 : Int) (r3 : List (S31)) (r4 : Bool) (w : World) (hr0_2 : Kd.C k31 w A0_2 l0_2.length l0_2) (hc0_2 : l0_2.length ≤ c0_2) (h : spec_DeskDo.f k a0_0 a0_1 l0_2 a1_0 a1_1 = some (r1, r2, r3, r4)) :
  Calls Tryz.prog 14 #[.agg #[.int .i64 a0_0, .int .i64 a0_1, .slice A0_2 l0_2.length c0_2], .agg #[.int .i64 a1_0, .string a1_1]] w fun e w' => ∃ v2_ : Value, e = .returned (.tuple #[.agg #[.int .i64 r1, .int .i64 r2, v2_], .bool r4]) ∧ Kd.Q k31 31 w' w.heap.size (fun _ => True) v2_ r3 ∧ Below w.heap.size w w' := by
 have hu34 := Tryz.underlying34
 have hu38 := Tryz.underlying38
 have hu31 := Tryz.underlying31
 have HR0_2 := Aside0.mk hr0_2
 have HC0_2 := Aside0.mk hc0_2
 clear hr0_2 hc0_2
 have HB := Aside0.mk (Below.refl w.heap.size w)
 have H : ((spec_DeskOk.f k a0_0 a0_1 l0_2).bind fun t226 => (if t226 = true then ((spec_l11Copy.f a0_0 a0_1 l0_2).bind fun bt227 => (if (a1_0 == 4 && (a1_1.toList == ([] : List UInt8))) = true then (spec_DeskDo.j0 k (decide ((l0_2.length : Int) > 0)) a0_0 a0_1 l0_2 a1_0 a1_1 bt227.1 bt227.2.1 bt227.2.2) else (spec_DeskDo.j0 k false a0_0 a0_1 l0_2 a1_0 a1_1 bt227.1 bt227.2.1 bt227.2.2))) else (some (0, 0, ([] : List (S31)), false)))) = some (r1, r2, r3, r4) := h
 clear h
 obtain ⟨t226, A3, H⟩ := sqD H
 by_cases c4 : t226 = true
 ·subst c4
  rw [if_pos rfl] at H
  obtain ⟨⟨t227, t228, t229⟩, A5, H⟩ := sqD H
  try dsimp only at H
  have HC6 := Aside0.mk H
  clear H
  go_enter Tryz.func14, Tryz.ntmps14
  go_upto_region 4 with (first | ((with_reducible refine gate_dst (N := 2) rfl ?_); (try (refine gate_guard (by rfl) ?_; dsimp only)); refine sqBox (N := 2) (cs := #[.int .i64 a0_0, .int .i64 a0_1, .slice A0_2 l0_2.length c0_2]) (t := 34) ?_; intro gb223 hg w7 BK223 hb; have GW223 := Aside0.mk ((sqG hg (sqB HB))); have GE223 := GW223; replace HB := sqS (sqB HB) hb; clear hb hg) | ((with_reducible refine gate_dst (N := 3) rfl ?_); (try (refine gate_guard (by rfl) ?_; dsimp only)); refine sqBox (N := 3) (cs := #[.int .i64 a1_0, .string a1_1]) (t := 38) ?_; intro gb224 hg w8 BK224 hb; have GW224 := Aside0.mk ((sqG hg (sqB1 HB GE223))); have GE224 := GW224; replace HB := sqS (sqB1 HB GE223) hb; obtain ⟨NB223_224, NB224_223⟩ := sqM hg BK223; replace BK223 := sqT BK223 hb; clear hb hg) | ((with_reducible refine gate_dst (N := 4) rfl ?_); (try (refine gate_guard (by rfl) ?_; dsimp only)); refine sqBox (N := 4) (cs := #[.int .i64 0, .int .i64 0, .slice none 0 0]) (t := 34) ?_; intro gb225 hg w9 BK225 hb; have GW225 := Aside0.mk ((sqG hg (sqB2 HB GE223 GE224))); have GE225 := GW225; replace HB := sqS (sqB2 HB GE223 GE224) hb; obtain ⟨NB223_225, NB225_223⟩ := sqM hg BK223; replace BK223 := sqT BK223 hb; obtain ⟨NB224_225, NB225_224⟩ := sqM hg BK224; replace BK224 := sqT BK224 hb; clear hb hg; have hnb10 := NB223_224.out; have hnc10 := NB224_223.out; have hnb11 := NB223_225.out; have hnc11 := NB225_223.out; obtain ⟨hcz12_0, hcz12_1, hcz12_2, hfz12_0, hfz12_1, hfz12_2⟩ := sqY3 BK223) | ((with_reducible refine gate_callee (f := 30) rfl ?_); refine goesL_ (some 11) rfl rfl Tryz.func30 (by kernel_rfl) rfl #[.agg #[.int .i64 a0_0, .int .i64 a0_1, .slice A0_2 l0_2.length c0_2]] rfl sqA ?_; (with_reducible refine (spec_DeskOk.calls k a0_0 a0_1 _ _ l0_2 true _ ?side1 ?side2 A3.out).mono ?_); (case side1 => exact Z6); (case side2 => exact HC0_2.out); rintro e w13 ⟨rfl, hb⟩; refine ⟨_, rfl, ?_⟩; replace BK223 := sqT BK223 hb; replace BK224 := sqT BK224 hb; replace BK225 := sqT BK225 hb; replace HB := sqS (sqB3 HB GE223 GE224 GE225) hb; (try clear hb); obtain ⟨hcz14_0, hcz14_1, hcz14_2, hfz14_0, hfz14_1, hfz14_2⟩ := sqY3 BK223) | ((with_reducible refine gate_callee (f := 56) rfl ?_); refine goesL_ (some 15) rfl rfl Tryz.func56 (by kernel_rfl) rfl #[.agg #[.int .i64 a0_0, .int .i64 a0_1, .slice A0_2 l0_2.length c0_2]] rfl sqA ?_; (with_reducible refine (spec_l11Copy.calls a0_0 a0_1 _ _ l0_2 t227 t228 t229 _ ?side1 ?side2 A5.out).mono ?_); (case side1 => exact Z6); (case side2 => exact HC0_2.out); rintro e w15 ⟨v230, rfl, ho0, hb⟩; refine ⟨_, rfl, ?_⟩; have HO231 := sqL ho0 (sqB3 HB GE223 GE224 GE225); replace BK223 := sqT BK223 hb; replace BK224 := sqT BK224 hb; replace BK225 := sqT BK225 hb; replace HB := sqS (sqB3 HB GE223 GE224 GE225) hb; (try clear hb); (try clear ho0)) | ((with_reducible refine gate_dst (N := 6) rfl ?_); (try (refine gate_guard (by rfl) ?_; dsimp only)); refine sqBox (N := 6) (cs := #[.int .i64 0, .int .i64 0, .slice none 0 0]) (t := 34) ?_; intro gb232 hg w16 BK232 hb; replace HO231 := sqU HO231 hb; have GW232 := Aside0.mk ((sqG hg (sqB3 HB GE223 GE224 GE225))); have GE232 := GW232; replace HB := sqS (sqB3 HB GE223 GE224 GE225) hb; obtain ⟨NB223_232, NB232_223⟩ := sqM hg BK223; replace BK223 := sqT BK223 hb; obtain ⟨NB224_232, NB232_224⟩ := sqM hg BK224; replace BK224 := sqT BK224 hb; obtain ⟨NB225_232, NB232_225⟩ := sqM hg BK225; replace BK225 := sqT BK225 hb; clear hb hg; have hnb17 := NB232_223.out; have hnc17 := NB223_232.out; have hnb18 := NB232_224.out; have hnc18 := NB224_232.out; have hnb19 := NB232_225.out; have hnc19 := NB225_232.out; obtain ⟨hcz20_0, hcz20_1, hcz20_2, hfz20_0, hfz20_1, hfz20_2⟩ := sqY3 BK232; obtain ⟨Ao21, co21, eo21⟩ := Kd.R_slice HO231.out; subst eo21))
  (try simp only [Act.put, List.setIfInBounds_toArray, List.set_cons_zero, List.set_cons_succ])
  go_cut [24] (fun v24 wc => ∃ (kq : Nat) (x24_5 : Bool), v24 = .bool x24_5 ∧ Aside0 (spec_DeskDo.j0 kq x24_5 a0_0 a0_1 l0_2 a1_0 a1_1 t227 t228 t229 = some (r1, r2, r3, r4)) ∧ Aside0 (kq ≤ k) ∧ Aside0 (Kd.Q k31 31 wc w.heap.size (fun _ => True) (.slice Ao21 t229.length co21) t229) ∧ Aside0 (wc.heap[gb223]? = some (.cells #[.int .i64 a0_0, .int .i64 a0_1, (.slice A0_2 l0_2.length c0_2)] 34 (0, 0))) ∧ Aside0 (wc.heap[gb224]? = some (.cells #[.int .i64 a1_0, .string a1_1] 38 (0, 0))) ∧ Aside0 (wc.heap[gb225]? = some (.cells #[.int .i64 0, .int .i64 0, (.slice none 0 0)] 34 (0, 0))) ∧ Aside0 (wc.heap[gb232]? = some (.cells #[.int .i64 t227, .int .i64 t228, (.slice Ao21 t229.length co21)] 34 (0, 0))) ∧ Aside0 (Below w.heap.size w wc))
  case first =>
   have H := HC6.out
   clear HC6
   by_cases c22 : (a1_0 == 4 && (a1_1.toList == ([] : List UInt8))) = true
   ·rw [if_pos c22] at H
    have c22b0 : (a1_0 == 4 && (a1_1.toList == ([] : List UInt8))) = true := c22
    try have c22b8 : (a1_0 == 4 && a1_1.toList.isEmpty) = true := by (have h_ := c22b0; (repeat rw [show ∀ z : List UInt8, (z == ([] : List UInt8)) = z.isEmpty from fun z => by cases z <;> rfl] at h_); exact h_)
    (try (have c22b1 : decide (a1_0 = 4 && (a1_1.toList == ([] : List UInt8))) = true := by simpa using c22))
    (try (have c22b2 : (a1_0 == 4 && (a1_1.toList == ([] : List UInt8))) = true := by simpa using c22))
    clear c22
    (first | rw [c22b0] | (simp only [i64_w, i32_w]; rw [c22b0]) | skip)
    have H' := Aside0.mk H
    clear H
    have hnb23 := NB224_223.out
    have hnc23 := NB223_224.out
    have hnb24 := NB224_225.out
    have hnc24 := NB225_224.out
    have hnb25 := NB224_232.out
    have hnc25 := NB232_224.out
    obtain ⟨hcz26_0, hcz26_1, hfz26_0, hfz26_1⟩ := sqY2 BK224
    have hnb27 := NB223_225.out
    have hnc27 := NB225_223.out
    have hnb28 := NB223_232.out
    have hnc28 := NB232_223.out
    obtain ⟨hcz29_0, hcz29_1, hcz29_2, hfz29_0, hfz29_1, hfz29_2⟩ := sqY3 BK223
    go_wp2
    go_meet
    case rel => exact ⟨_, (decide ((l0_2.length : Int) > 0)), Z1, H', ⟨Z16⟩, ⟨Kd.Q_of_R (Z71 HO231 BK232)⟩, ⟨Z20 NB223_232 BK223⟩, ⟨Z20 NB224_232 BK224⟩, ⟨Z20 NB225_232 BK225⟩, ⟨Z72 BK232⟩, ⟨sqB4 HB GE223 GE224 GE225 GE232⟩⟩
   ·rw [if_neg c22] at H
    have c22b0 : (a1_0 == 4 && (a1_1.toList == ([] : List UInt8))) = false := by simpa using c22
    try have c22b8 : (a1_0 == 4 && a1_1.toList.isEmpty) = false := by (have h_ := c22b0; (repeat rw [show ∀ z : List UInt8, (z == ([] : List UInt8)) = z.isEmpty from fun z => by cases z <;> rfl] at h_); exact h_)
    (try (have c22b1 : decide (a1_0 = 4 && (a1_1.toList == ([] : List UInt8))) = false := by simpa using c22))
    (try (have c22b2 : (a1_0 == 4 && (a1_1.toList == ([] : List UInt8))) = false := by simpa using c22))
    (try (have c22b3 : ¬ (a1_0 = 4 && (a1_1.toList == ([] : List UInt8))) := by simpa using c22))
    clear c22
    (first | rw [c22b0] | (simp only [i64_w, i32_w]; rw [c22b0]) | skip)
    have H' := Aside0.mk H
    clear H
    have hnb30 := NB224_223.out
    have hnc30 := NB223_224.out
    have hnb31 := NB224_225.out
    have hnc31 := NB225_224.out
    have hnb32 := NB224_232.out
    have hnc32 := NB232_224.out
    obtain ⟨hcz33_0, hcz33_1, hfz33_0, hfz33_1⟩ := sqY2 BK224
    go_wp2
    go_meet
    case rel => exact ⟨_, (false), Z1, H', ⟨Z16⟩, ⟨Kd.Q_of_R (Z71 HO231 BK232)⟩, ⟨Z20 NB223_232 BK223⟩, ⟨Z20 NB224_232 BK224⟩, ⟨Z20 NB225_232 BK225⟩, ⟨Z72 BK232⟩, ⟨sqB4 HB GE223 GE224 GE225 GE232⟩⟩
  case rest =>
   clear HC6
   try clear c1; try clear c2; try clear p2; try clear c3; try clear c4; try clear c5; try clear c10; try clear c11; try clear c14; try clear c17; try clear c18; try clear c19; try clear c22; try clear c22b0; try clear c22b1; try clear c22b2; try clear c23; try clear c24; try clear c25; try clear c27; try clear c28; try clear c30; try clear c31; try clear c32; try clear hcz12_0; try clear hcz12_1; try clear hcz12_2; try clear hcz14_0; try clear hcz14_1; try clear hcz14_2; try clear hcz20_0; try clear hcz20_1; try clear hcz20_2; try clear hcz26_0; try clear hcz26_1; try clear hcz29_0; try clear hcz29_1; try clear hcz29_2; try clear hcz33_0; try clear hcz33_1; try clear hfz12_0; try clear hfz12_1; try clear hfz12_2; try clear hfz14_0; try clear hfz14_1; try clear hfz14_2; try clear hfz20_0; try clear hfz20_1; try clear hfz20_2; try clear hfz26_0; try clear hfz26_1; try clear hfz29_0; try clear hfz29_1; try clear hfz29_2; try clear hfz33_0; try clear hfz33_1
   obtain ⟨kq, x24_5, rfl, HA, HJ5, HO_233002, BK223, BK224, BK225, BK232, HB⟩ := hcut
   cases kq with
   | zero => exact absurd HA.out (by simp [spec_DeskDo.j0])
   | succ kj5 =>
    have H := HA.out
    clear HA
    simp only [spec_DeskDo.j0] at H
    by_cases c34 : x24_5 = true
    ·subst c34
     rw [if_pos rfl] at H
     obtain ⟨ji35, hji35⟩ : ∃ j_ : Int, (wrap64 ((t229.length : Int) - 1)) = j_ := ⟨_, rfl⟩
     replace H : (if 0 ≤ (ji35) then (if (ji35) < (t229.length : Int) then (if (ji35) ≤ (t229.length : Int) then (some ((rd_T31 t229 (ji35)).f0, (rd_T31 t229 (ji35)).f1, (t229.take ((ji35) : Int).toNat), true)) else (none)) else (none)) else (none)) = some (r1, r2, r3, r4) := by first | (rw [hji35] at H; exact H) | (simp only [hji35] at H ⊢; exact H)
     have hji35w : (IntKind.i64.wrap ((t229.length : Int) - 1)) = ji35 := (i64_w _).trans hji35
     obtain ⟨c36, H⟩ := sqI H
     have c36b0 : decide (0 ≤ (ji35)) = true := decide_eq_true c36
     clear c36
     obtain ⟨c37, H⟩ := sqI H
     have c37b0 : decide ((ji35) < (t229.length : Int)) = true := decide_eq_true c37
     clear c37
     obtain ⟨c38, H⟩ := sqI H
     have c38b0 := eq_true c38
     have c38b1 : decide ((ji35) ≤ (t229.length : Int)) = true := decide_eq_true c38
     clear c38
     obtain ⟨y234, hy234⟩ : ∃ y_ : List (S31), y_ = (t229.take ((ji35) : Int).toNat) := ⟨_, rfl⟩
     replace H : (some ((rd_T31 t229 (ji35)).f0, (rd_T31 t229 (ji35)).f1, y234, true)) = some (r1, r2, r3, r4) := sqW hy234 H
     have Ny234 := Aside0.mk hy234
     clear hy234
     obtain ⟨rfl, rfl, rfl, rfl⟩ := sqO4 H
     have hnb39 := NB232_223.out
     have hnc39 := NB223_232.out
     have hnb40 := NB232_224.out
     have hnc40 := NB224_232.out
     have hnb41 := NB232_225.out
     have hnc41 := NB225_232.out
     obtain ⟨hcz42_0, hcz42_1, hcz42_2, hfz42_0, hfz42_1, hfz42_2⟩ := sqY3 BK232
     have p233 : 0 ≤ ((ji35) : Int) := of_decide_eq_true Z2
     have q233 : (ji35) < (t229.length : Int) := of_decide_eq_true Z2
     obtain ⟨ad233, e233, hx233_0, hx233_1⟩ := at_T31 (Kd.Q_reads' HO_233002.out).2.2 (ji35) p233 q233
     cases e233
     replace p233 := eq_true p233
     replace q233 := eq_true q233
     go_wp2_with (first | ((with_reducible refine gate_store (t := 31) (p := 34) rfl ?_); refine store_event (t := 31) (p := 34) (v := ?vo_w43) (w1 := ((wc.setCell ⟨gb232, 0, none⟩ (.int .i64 ((rd_T31 t229 (ji35)).f0))).setCell ⟨gb232, 1, none⟩ (.int .i64 ((rd_T31 t229 (ji35)).f1)))) ?hg ?ho ?hn ?hr ?_; (case ho => rfl); (case hg => rfl); (case hn => rfl); (case hr => exact Z7); intro w43 hw; replace HO_233002 : Aside0 (Kd.Q k31 31 w43 w.heap.size (fun _ => True) (.slice (some ad233) t229.length co21) t229) := ⟨(by rw [hw]; exact (by (with_reducible repeat (first | apply Kd.Q_alloc | apply Kd.Q_drewN | apply Kd.Q_drew)); exact Kd.Q_mono (Kd.Q_far (p := ⟨gb232, 1, none⟩) (Kd.Q_far (p := ⟨gb232, 0, none⟩) (Kd.Q_types HO_233002.out BK232.out (by decide)) (fun _ hk => hk.2) (.int .i64 ((rd_T31 t229 (ji35)).f0))) (fun _ hk => hk.2) (.int .i64 ((rd_T31 t229 (ji35)).f1))) (fun _ hk => trivial)))⟩; replace BK223 : Aside0 (w43.heap[gb223]? = some (.cells #[.int .i64 a0_0, .int .i64 a0_1, .slice A0_2 l0_2.length c0_2] 34 (0, 0))) := ⟨(by rw [hw]; exact (Z14 NB223_232 BK223))⟩; replace BK224 : Aside0 (w43.heap[gb224]? = some (.cells #[.int .i64 a1_0, .string a1_1] 38 (0, 0))) := ⟨(by rw [hw]; exact (Z14 NB224_232 BK224))⟩; replace BK225 : Aside0 (w43.heap[gb225]? = some (.cells #[.int .i64 0, .int .i64 0, .slice none 0 0] 34 (0, 0))) := ⟨(by rw [hw]; exact (Z14 NB225_232 BK225))⟩; replace BK232 : Aside0 (w43.heap[gb232]? = some (.cells #[.int .i64 ((rd_T31 t229 (ji35)).f0), .int .i64 ((rd_T31 t229 (ji35)).f1), .slice (some ad233) t229.length co21] 34 (0, 0))) := ⟨(by rw [hw]; exact (by refine sqPut (cs := #[.int .i64 ((rd_T31 t229 (ji35)).f0), .int .i64 t228, .slice (some ad233) t229.length co21]) ?_ 1; refine sqPut (cs := #[.int .i64 t227, .int .i64 t228, .slice (some ad233) t229.length co21]) ?_ 0; exact sqK BK232))⟩; replace HB : Aside0 (Below w.heap.size w w43) := ⟨(by rw [hw]; exact (sqB4 HB GE223 GE224 GE225 GE232))⟩; clear hw; have hcz44_0 : w43.cell? ⟨gb232, 0, none⟩ = some (.int .i64 ((rd_T31 t229 (ji35)).f0)) := (blk_cell BK232.out 0).trans rfl; have hcz44_1 : w43.cell? ⟨gb232, 1, none⟩ = some (.int .i64 ((rd_T31 t229 (ji35)).f1)) := (blk_cell BK232.out 1).trans rfl; have hcz44_2 := sqZ BK232 2 (.slice (some ad233) t229.length co21); have hfz44_0 := blk_frozen BK232.out 0; have hfz44_1 := blk_frozen BK232.out 1; have hfz44_2 := blk_frozen BK232.out 2; have q45 : ((ji35) : Int) ≤ ((t229.length : Int) : Int) := of_decide_eq_true Z2; obtain ⟨i045, hi045, _, hsz45, _⟩ := info_parts info31; have hcut45 := cut_to (P := Tryz.prog) 32 31 .i64 Tryz.underlying32 hi045 (some ad233) t229.length co21 (ji35) (of_decide_eq_true Z2) q45 (Kd.Q_reads' HO_233002.out).2.1; have hr45 := Kd.Q_take (m := ((ji35) : Int).toNat) HO_233002.out (by omega); have hy45 : y234.length = ((ji35) : Int).toNat := (by rw [Ny234.out, List.length_take]; omega); rw [← Ny234.out] at hr45; rw [← hy45] at hr45 hcut45; clear hy45 hi045 hsz45 HO_233002; have HO236 := Aside0.mk hr45; clear hr45; replace q45 := eq_true q45; have hnb46 := NB225_223.out; have hnc46 := NB223_225.out; have hnb47 := NB225_224.out; have hnc47 := NB224_225.out; obtain ⟨hcz48_0, hcz48_1, hcz48_2, hfz48_0, hfz48_1, hfz48_2⟩ := sqY3 BK225))
     refine bodyPost_ret (results_ct rfl _ _ gb225 34 #[.int .i64 ((rd_T31 t229 (ji35)).f0), .int .i64 ((rd_T31 t229 (ji35)).f1), .slice (some ad233) y234.length co21] (0, 0) _ rfl (by refine sqPut (cs := #[.int .i64 ((rd_T31 t229 (ji35)).f0), .int .i64 ((rd_T31 t229 (ji35)).f1), .slice none 0 0]) ?_ 2; refine sqPut (cs := #[.int .i64 ((rd_T31 t229 (ji35)).f0), .int .i64 0, .slice none 0 0]) ?_ 1; refine sqPut (cs := #[.int .i64 0, .int .i64 0, .slice none 0 0]) ?_ 0; refine sqFar ?_ NB225_232; exact sqK BK225) Tryz.underlying34 rfl (by kernel_rfl)) rfl ?_
     exact ⟨_, by first | rfl | (simp [errP_none, errP_some] <;> rfl) | (simp only [← hji35]; first | rfl | (simp [errP_none, errP_some] <;> rfl)) | (simp [*, errP_none, errP_some] <;> rfl), (by (with_reducible repeat (first | apply Kd.Q_alloc | apply Kd.Q_drewN | apply Kd.Q_drew)); exact Kd.Q_mono (Kd.Q_far (p := ⟨gb225, 2, none⟩) (Kd.Q_far (p := ⟨gb225, 1, none⟩) (Kd.Q_far (p := ⟨gb225, 0, none⟩) (Kd.Q_far (p := ⟨gb232, 2, none⟩) (Kd.Q_types (Kd.Q_types HO236.out BK232.out (by decide)) BK225.out (by decide)) (fun _ hk => hk.1.2) (.slice (some ad233) y234.length co21)) (fun _ hk => hk.2) (.int .i64 ((rd_T31 t229 (ji35)).f0))) (fun _ hk => hk.2) (.int .i64 ((rd_T31 t229 (ji35)).f1))) (fun _ hk => hk.2) (.slice (some ad233) y234.length co21)) (fun _ hk => trivial)), sqB4 HB GE223 GE224 GE225 GE232⟩
    ·replace c34 := Bool.eq_false_iff.mpr c34
     subst c34
     rw [if_neg sqF] at H
     obtain ⟨⟨t237, t238, t239⟩, A49, H⟩ := sqD H
     try dsimp only at H
     have HC50 := Aside0.mk H
     clear H
     have hnb51 := NB223_224.out
     have hnc51 := NB224_223.out
     have hnb52 := NB223_225.out
     have hnc52 := NB225_223.out
     have hnb53 := NB223_232.out
     have hnc53 := NB232_223.out
     obtain ⟨hcz54_0, hcz54_1, hcz54_2, hfz54_0, hfz54_1, hfz54_2⟩ := sqY3 BK223
     have hnb55 := NB224_225.out
     have hnc55 := NB225_224.out
     have hnb56 := NB224_232.out
     have hnc56 := NB232_224.out
     obtain ⟨hcz57_0, hcz57_1, hfz57_0, hfz57_1⟩ := sqY2 BK224
     go_upto_region 10 with (first | ((with_reducible refine gate_callee (f := 57) rfl ?_); refine goesL_ (some 45) rfl rfl Tryz.func57 (by kernel_rfl) rfl #[.agg #[.int .i64 a0_0, .int .i64 a0_1], .agg #[.int .i64 a1_0, .string a1_1]] rfl sqA ?_; (with_reducible refine (spec_l11Made.calls kj5 a0_0 a0_1 a1_0 a1_1 t237 t238 t239 _ A49.out).mono ?_); rintro e w58 ⟨rfl, hb⟩; refine ⟨_, rfl, ?_⟩; replace HO_233002 := Aside0.mk (Kd.Q_below (Z29 HO_233002) hb); replace BK223 := sqT BK223 hb; replace BK224 := sqT BK224 hb; replace BK225 := sqT BK225 hb; replace BK232 := sqT BK232 hb; replace HB := sqS (sqB4 HB GE223 GE224 GE225 GE232) hb; (try clear hb)) | ((with_reducible refine gate_dst (N := 8) rfl ?_); (try (refine gate_guard (by rfl) ?_; dsimp only)); refine sqBox (N := 8) (cs := #[.int .i64 0, .int .i64 0]) (t := 31) ?_; intro gb240 hg w59 BK240 hb; replace HO_233002 := Aside0.mk (Kd.Q_below (Kd.Q_elderB (Z29 HO_233002) gb240 (Nat.le_of_eq hg.symm)) hb); have GW240 := Aside0.mk ((sqG hg (sqB4 HB GE223 GE224 GE225 GE232))); have GE240 := GW240; replace HB := sqS (sqB4 HB GE223 GE224 GE225 GE232) hb; obtain ⟨NB223_240, NB240_223⟩ := sqM hg BK223; replace BK223 := sqT BK223 hb; obtain ⟨NB224_240, NB240_224⟩ := sqM hg BK224; replace BK224 := sqT BK224 hb; obtain ⟨NB225_240, NB240_225⟩ := sqM hg BK225; replace BK225 := sqT BK225 hb; obtain ⟨NB232_240, NB240_232⟩ := sqM hg BK232; replace BK232 := sqT BK232 hb; clear hb hg; have hnb60 := NB240_223.out; have hnc60 := NB223_240.out; have hnb61 := NB240_224.out; have hnc61 := NB224_240.out; have hnb62 := NB240_225.out; have hnc62 := NB225_240.out; have hnb63 := NB240_232.out; have hnc63 := NB232_240.out; obtain ⟨hcz64_0, hcz64_1, hfz64_0, hfz64_1⟩ := sqY2 BK240))
     (try simp only [Act.put, List.setIfInBounds_toArray, List.set_cons_zero, List.set_cons_succ])
     go_cut [55] (fun v55 wc => ∃ (kq : Nat) (x55_49 : Bool), v55 = .bool x55_49 ∧ Aside0 (spec_DeskDo.j1 kq x55_49 t227 t228 t229 t237 t238 = some (r1, r2, r3, r4)) ∧ Aside0 (kq ≤ kj5) ∧ Aside0 (Kd.Q k31 31 wc w.heap.size (fun k_ => k_ ≠ gb240) (.slice Ao21 t229.length co21) t229) ∧ Aside0 (wc.heap[gb223]? = some (.cells #[.int .i64 a0_0, .int .i64 a0_1, (.slice A0_2 l0_2.length c0_2)] 34 (0, 0))) ∧ Aside0 (wc.heap[gb224]? = some (.cells #[.int .i64 a1_0, .string a1_1] 38 (0, 0))) ∧ Aside0 (wc.heap[gb225]? = some (.cells #[.int .i64 0, .int .i64 0, (.slice none 0 0)] 34 (0, 0))) ∧ Aside0 (wc.heap[gb232]? = some (.cells #[.int .i64 t227, .int .i64 t228, (.slice Ao21 t229.length co21)] 34 (0, 0))) ∧ Aside0 (wc.heap[gb240]? = some (.cells #[.int .i64 t237, .int .i64 t238] 31 (0, 0))) ∧ Aside0 (Below w.heap.size w wc))
     case first =>
      have H := HC50.out
      clear HC50
      by_cases c65 : t239 = true
      ·subst c65
       rw [if_pos rfl] at H
       have H' := Aside0.mk H
       clear H
       have hnb66 := NB240_223.out
       have hnc66 := NB223_240.out
       have hnb67 := NB240_224.out
       have hnc67 := NB224_240.out
       have hnb68 := NB240_225.out
       have hnc68 := NB225_240.out
       have hnb69 := NB240_232.out
       have hnc69 := NB232_240.out
       obtain ⟨hcz70_0, hcz70_1, hfz70_0, hfz70_1⟩ := sqY2 BK240
       have hnb71 := NB223_224.out
       have hnc71 := NB224_223.out
       have hnb72 := NB223_225.out
       have hnc72 := NB225_223.out
       have hnb73 := NB223_232.out
       have hnc73 := NB232_223.out
       obtain ⟨hcz74_0, hcz74_1, hcz74_2, hfz74_0, hfz74_1, hfz74_2⟩ := sqY3 BK223
       go_wp2
       go_meet
       case rel => exact ⟨_, ((t237 == a0_0 && (t238 == a0_1))), Z1, H', ⟨by have := HJ5.out; first | omega | exact Nat.le_refl _⟩, ⟨Z73 HO_233002⟩, ⟨Z14 NB223_240 BK223⟩, ⟨Z14 NB224_240 BK224⟩, ⟨Z14 NB225_240 BK225⟩, ⟨Z14 NB232_240 BK232⟩, ⟨Z74 BK240⟩, ⟨Z26 GE223 GE224 GE225 GE232 GE240⟩⟩
      ·replace c65 := Bool.eq_false_iff.mpr c65
       subst c65
       rw [if_neg sqF] at H
       have H' := Aside0.mk H
       clear H
       go_wp2
       go_meet
       case rel => exact ⟨_, (true), Z1, H', ⟨by have := HJ5.out; first | omega | exact Nat.le_refl _⟩, ⟨Z73 HO_233002⟩, ⟨Z14 NB223_240 BK223⟩, ⟨Z14 NB224_240 BK224⟩, ⟨Z14 NB225_240 BK225⟩, ⟨Z14 NB232_240 BK232⟩, ⟨Z74 BK240⟩, ⟨Z26 GE223 GE224 GE225 GE232 GE240⟩⟩
     case rest =>
      clear HC50
      try clear c1; try clear c2; try clear p2; try clear q2; try clear hx2; try clear c3; try clear c4; try clear q4; try clear c5; try clear c6; try clear p6; try clear c7; try clear c10; try clear c11; try clear c14; try clear c17; try clear c18; try clear c19; try clear c22; try clear c22b0; try clear c22b1; try clear c22b2; try clear c23; try clear p23; try clear q23; try clear hx23; try clear c24; try clear c25; try clear c27; try clear c28; try clear c30; try clear c31; try clear c32; try clear c34; try clear c36; try clear c36b0; try clear c37; try clear c37b0; try clear c38; try clear c38b0; try clear c38b1; try clear c39; try clear c40; try clear c41; try clear q45; try clear c46; try clear c47; try clear c51; try clear c52; try clear c53; try clear c55; try clear c56; try clear c57; try clear c60; try clear c61; try clear c62; try clear c63; try clear p64; try clear c65; try clear c66; try clear c67; try clear c68; try clear c69; try clear c71; try clear c72; try clear c73; try clear hcz12_0; try clear hcz12_1; try clear hcz12_2; try clear hcz14_0; try clear hcz14_1; try clear hcz14_2; try clear hcz20_0; try clear hcz20_1; try clear hcz20_2; try clear hcz26_0; try clear hcz26_1; try clear hcz29_0; try clear hcz29_1; try clear hcz29_2; try clear hcz33_0; try clear hcz33_1; try clear hcz42_0; try clear hcz42_1; try clear hcz42_2; try clear hcz44_0; try clear hcz44_1; try clear hcz44_2; try clear hcz48_0; try clear hcz48_1; try clear hcz48_2; try clear hcz54_0; try clear hcz54_1; try clear hcz54_2; try clear hcz57_0; try clear hcz57_1; try clear hcz64_0; try clear hcz64_1; try clear hcz70_0; try clear hcz70_1; try clear hcz74_0; try clear hcz74_1; try clear hcz74_2; try clear hfz12_0; try clear hfz12_1; try clear hfz12_2; try clear hfz14_0; try clear hfz14_1; try clear hfz14_2; try clear hfz20_0; try clear hfz20_1; try clear hfz20_2; try clear hfz26_0; try clear hfz26_1; try clear hfz29_0; try clear hfz29_1; try clear hfz29_2; try clear hfz33_0; try clear hfz33_1; try clear hfz42_0; try clear hfz42_1; try clear hfz42_2; try clear hfz44_0; try clear hfz44_1; try clear hfz44_2; try clear hfz48_0; try clear hfz48_1; try clear hfz48_2; try clear hfz54_0; try clear hfz54_1; try clear hfz54_2; try clear hfz57_0; try clear hfz57_1; try clear hfz64_0; try clear hfz64_1; try clear hfz70_0; try clear hfz70_1; try clear hfz74_0; try clear hfz74_1; try clear hfz74_2; try clear hx233_0; try clear hx233_1; try clear p2; try clear p233; try clear q233; try clear q45
      obtain ⟨kq, x55_49, rfl, HA, HJ49, HO_233002, BK223, BK224, BK225, BK232, BK240, HB⟩ := hcut
      cases kq with
      | zero => exact absurd HA.out (by simp [spec_DeskDo.j1])
      | succ kj49 =>
       have H := HA.out
       clear HA
       simp only [spec_DeskDo.j1] at H
       by_cases c75 : x55_49 = true
       ·subst c75
        rw [if_pos rfl] at H
        obtain ⟨rfl, rfl, rfl, rfl⟩ := sqO4 H
        have hnb76 := NB232_223.out
        have hnc76 := NB223_232.out
        have hnb77 := NB232_224.out
        have hnc77 := NB224_232.out
        have hnb78 := NB232_225.out
        have hnc78 := NB225_232.out
        have hnb79 := NB232_240.out
        have hnc79 := NB240_232.out
        obtain ⟨hcz80_0, hcz80_1, hcz80_2, hfz80_0, hfz80_1, hfz80_2⟩ := sqY3 BK232
        have hnb81 := NB225_223.out
        have hnc81 := NB223_225.out
        have hnb82 := NB225_224.out
        have hnc82 := NB224_225.out
        have hnb83 := NB225_240.out
        have hnc83 := NB240_225.out
        obtain ⟨hcz84_0, hcz84_1, hcz84_2, hfz84_0, hfz84_1, hfz84_2⟩ := sqY3 BK225
        go_wp2
        refine bodyPost_ret (results_ct rfl _ _ gb225 34 #[.int .i64 t227, .int .i64 t228, .slice Ao21 t229.length co21] (0, 0) _ rfl (Z72 BK225) Tryz.underlying34 rfl (by kernel_rfl)) rfl ?_
        exact ⟨_, Z3, by (with_reducible repeat (first | apply Kd.Q_alloc | apply Kd.Q_drewN | apply Kd.Q_drew)); exact Kd.Q_mono (Kd.Q_far (p := ⟨gb225, 2, none⟩) (Kd.Q_far (p := ⟨gb225, 1, none⟩) (Kd.Q_far (p := ⟨gb225, 0, none⟩) (Kd.Q_types HO_233002.out BK225.out (by decide)) (fun _ hk => hk.2) (.int .i64 t227)) (fun _ hk => hk.2) (.int .i64 t228)) (fun _ hk => hk.2) (.slice Ao21 t229.length co21)) (fun _ hk => trivial), Z26 GE223 GE224 GE225 GE232 GE240⟩
       ·replace c75 := Bool.eq_false_iff.mpr c75
        subst c75
        rw [if_neg sqF] at H
        obtain ⟨c85, H⟩ := sqI H
        have LMc85 := Aside0.mk c85
        clear c85
        obtain ⟨y241, hy241⟩ : ∃ y_ : List (S31), y_ = (t229 ++ [(⟨t227, t228⟩ : S31)]) := ⟨_, rfl⟩
        replace H : (if (y241.length : Int) > 8 then (if 1 ≤ (y241.length : Int) then (some (t237, t238, (y241.drop (1 : Int).toNat), true)) else (none)) else (some (t237, t238, y241, true))) = some (r1, r2, r3, r4) := sqW hy241 H
        have Ny241 := Aside0.mk hy241
        clear hy241
        by_cases c86 : (y241.length : Int) > 8
        ·rw [if_pos c86] at H
         have c86b0 : decide (8 < (y241.length : Int)) = true := decide_eq_true c86
         have c86b1 : decide (8 < y241.length) = true := decide_eq_true (by omega)
         clear c86
         obtain ⟨c87, H⟩ := sqI H
         have c87b0 := eq_true c87
         have c87b1 : decide (1 ≤ (y241.length : Int)) = true := decide_eq_true c87
         clear c87
         obtain ⟨y244, hy244⟩ : ∃ y_ : List (S31), y_ = (y241.drop (1 : Int).toNat) := ⟨_, rfl⟩
         replace H : (some (t237, t238, y244, true)) = some (r1, r2, r3, r4) := sqW hy244 H
         have Ny244 := Aside0.mk hy244
         clear hy244
         obtain ⟨rfl, rfl, rfl, rfl⟩ := sqO4 H
         have hnb88 := NB232_223.out
         have hnc88 := NB223_232.out
         have hnb89 := NB232_224.out
         have hnc89 := NB224_232.out
         have hnb90 := NB232_225.out
         have hnc90 := NB225_232.out
         have hnb91 := NB232_240.out
         have hnc91 := NB240_232.out
         obtain ⟨hcz92_0, hcz92_1, hcz92_2, hfz92_0, hfz92_1, hfz92_2⟩ := sqY3 BK232
         go_wp2_with (first | ((with_reducible refine gate_builtin (b := .append) (xs := #[.tmp 58, .tmp 61]) rfl ?_); (try (refine gate_guard (by rfl) ?_; dsimp only)); at_builtin; refine Kd.Q_append k31 (w0 := w) w.heap.size rfl (.tmp 58) (.tmp 61) 32 31 (.agg #[(.int .i64 0), (.int .i64 0)]) 16 rfl Tryz.underlying32 info31 rfl (by decide) (by omega) (.slice Ao21 t229.length co21) t229 (⟨t227, t228⟩ : S31) [.int .i64 t227, .int .i64 t228] (fun k_ => k_ ≠ gb240) (fun _ => False) rfl rfl ?aP (fun _ hk => hk.elim) ?aF ?aO ?aB ?aS ?aL ?_; (case aP => exact k31_mkM _ _ _ (⟨t227, t228⟩ : S31)); (case aB => exact (Z26 GE223 GE224 GE225 GE232 GE240)); (case aF => exact (fun k_ hk => Kd.freshB (sqK BK240) k_ hk)); (case aO => exact (Z29 HO_233002)); (case aS => exact (below_size (Z26 GE223 GE224 GE225 GE232 GE240))); (case aL => exact Z4 LMc85); intro v242 w93 ho hb hg hat; rw [← Ny241.out] at ho; replace BK223 := Aside0.mk (blk_grown (sqK BK223) hg (Kd.Q_ne HO_233002.out BK223.out (by decide))); replace BK224 := Aside0.mk (blk_grown (sqK BK224) hg (Kd.Q_ne HO_233002.out BK224.out (by decide))); replace BK225 := Aside0.mk (blk_grown (sqK BK225) hg (Kd.Q_ne HO_233002.out BK225.out (by decide))); replace BK232 := Aside0.mk (blk_grown (sqK BK232) hg (Kd.Q_ne HO_233002.out BK232.out (by decide))); replace BK240 := Aside0.mk (blk_grown (sqK BK240) hg (Kd.Q_away HO_233002.out (fun _ hk => hk))); replace HB := Aside0.mk (hb); have HO243 := Aside0.mk (ho); clear HO_233002; clear ho hb hg hat; obtain ⟨Ao94, co94, eo94, _⟩ := Kd.Q_slice HO243.out; subst eo94; obtain ⟨hcz95_0, hcz95_1, hcz95_2, hfz95_0, hfz95_1, hfz95_2⟩ := sqY3 BK232) | ((with_reducible refine gate_store (t := 32) (p := 63) rfl ?_); refine store_event (t := 32) (p := 63) (v := ?vo_w96) (w1 := (w93.setCell ⟨gb232, 2, none⟩ (.slice Ao94 y241.length co94))) ?hg ?ho ?hn ?hr ?_; (case ho => rfl); (case hg => rfl); (case hn => rfl); (case hr => exact Z7); intro w96 hw; replace HO243 : Aside0 (Kd.Q k31 31 w96 w.heap.size (fun k_ => k_ ≠ gb240) (.slice Ao94 y241.length co94) y241) := ⟨(by rw [hw]; exact (by (with_reducible repeat (first | apply Kd.Q_alloc | apply Kd.Q_drewN | apply Kd.Q_drew)); exact Kd.Q_mono (Kd.Q_far (p := ⟨gb232, 2, none⟩) (Kd.Q_types HO243.out BK232.out (by decide)) (fun _ hk => hk.2) (.slice Ao94 y241.length co94)) (fun _ hk => hk.1)))⟩; replace BK223 : Aside0 (w96.heap[gb223]? = some (.cells #[.int .i64 a0_0, .int .i64 a0_1, .slice A0_2 l0_2.length c0_2] 34 (0, 0))) := ⟨(by rw [hw]; exact (Z9 NB223_232 BK223))⟩; replace BK224 : Aside0 (w96.heap[gb224]? = some (.cells #[.int .i64 a1_0, .string a1_1] 38 (0, 0))) := ⟨(by rw [hw]; exact (Z9 NB224_232 BK224))⟩; replace BK225 : Aside0 (w96.heap[gb225]? = some (.cells #[.int .i64 0, .int .i64 0, .slice none 0 0] 34 (0, 0))) := ⟨(by rw [hw]; exact (Z9 NB225_232 BK225))⟩; replace BK232 : Aside0 (w96.heap[gb232]? = some (.cells #[.int .i64 t227, .int .i64 t228, .slice Ao94 y241.length co94] 34 (0, 0))) := ⟨(by rw [hw]; exact (by refine sqPut (cs := #[.int .i64 t227, .int .i64 t228, .slice Ao21 t229.length co21]) ?_ 2; exact sqK BK232))⟩; replace BK240 : Aside0 (w96.heap[gb240]? = some (.cells #[.int .i64 t237, .int .i64 t238] 31 (0, 0))) := ⟨(by rw [hw]; exact (Z9 NB240_232 BK240))⟩; replace HB : Aside0 (Below w.heap.size w w96) := ⟨(by rw [hw]; exact (Z26 GE223 GE224 GE225 GE232 GE240))⟩; clear hw; obtain ⟨hcz97_0, hcz97_1, hcz97_2, hfz97_0, hfz97_1, hfz97_2⟩ := sqY3 BK232; have q98 : (1 : Int) ≤ ((y241.length : Int) : Int) := of_decide_eq_true Z2; obtain ⟨i098, hi098, _, hsz98, _⟩ := info_parts info31; have hcut98 := cut_from (P := Tryz.prog) 32 31 .i64 Tryz.underlying32 hi098 2 hsz98 Ao94 y241.length co94 1 (by omega) q98; have hr98 := Kd.Q_drop (k := (1 : Int).toNat) HO243.out (by omega); obtain ⟨A98, hA98⟩ : ∃ A1, A1 = (if co94 = (1 : Int).toNat then Ao94 else (Ao94 : Option Addr).map (·.add ((1 : Int).toNat * 2))) := ⟨_, rfl⟩; obtain ⟨c98, hc98⟩ : ∃ c1, c1 = co94 - (1 : Int).toNat := ⟨_, rfl⟩; have hy98 : y244.length = y241.length - (1 : Int).toNat := (by rw [Ny244.out, List.length_drop]); rw [← Ny244.out] at hr98; rw [← hy98, ← hA98, ← hc98] at hcut98; replace hr98 : Kd.Q k31 31 w96 w.heap.size (fun k_ => k_ ≠ gb240) (.slice A98 y244.length c98) y244 := (by rw [hA98, hc98, hy98]; exact hr98); have HE98 : Aside0 ((Value.slice A98 y244.length c98).ownBlock = (.slice Ao94 y241.length co94 : Value).ownBlock) := ⟨by rw [hA98]; split <;> (cases (Ao94 : Option Addr) <;> rfl)⟩; clear hy98 hi098 hsz98 HO243 hA98 hc98; have HO246 := Aside0.mk hr98; clear hr98; replace q98 := eq_true q98; have hnb99 := NB240_223.out; have hnc99 := NB223_240.out; have hnb100 := NB240_224.out; have hnc100 := NB224_240.out; have hnb101 := NB240_225.out; have hnc101 := NB225_240.out; obtain ⟨hcz102_0, hcz102_1, hfz102_0, hfz102_1⟩ := sqY2 BK240; have hnb103 := NB225_223.out; have hnc103 := NB223_225.out; have hnb104 := NB225_224.out; have hnc104 := NB224_225.out; obtain ⟨hcz105_0, hcz105_1, hcz105_2, hfz105_0, hfz105_1, hfz105_2⟩ := sqY3 BK225))
         refine bodyPost_ret (results_ct rfl _ _ gb225 34 #[.int .i64 t237, .int .i64 t238, .slice A98 y244.length c98] (0, 0) _ rfl (Z75 NB225_232 BK225) Tryz.underlying34 rfl (by kernel_rfl)) rfl ?_
         exact ⟨_, Z3, by (with_reducible repeat (first | apply Kd.Q_alloc | apply Kd.Q_drewN | apply Kd.Q_drew)); exact Kd.Q_mono (Kd.Q_far (p := ⟨gb225, 2, none⟩) (Kd.Q_far (p := ⟨gb225, 1, none⟩) (Kd.Q_far (p := ⟨gb225, 0, none⟩) (Kd.Q_far (p := ⟨gb232, 1, none⟩) (Kd.Q_far (p := ⟨gb232, 0, none⟩) (Kd.Q_far (p := ⟨gb232, 2, none⟩) (Kd.Q_types (Kd.Q_types HO246.out BK232.out (by decide)) BK225.out (by decide)) (fun _ hk => hk.1.2) (.slice A98 y244.length c98)) (fun _ hk => hk.1.2) (.int .i64 t237)) (fun _ hk => hk.1.2) (.int .i64 t238)) (fun _ hk => hk.2) (.int .i64 t237)) (fun _ hk => hk.2) (.int .i64 t238)) (fun _ hk => hk.2) (.slice A98 y244.length c98)) (fun _ hk => trivial), Z26 GE223 GE224 GE225 GE232 GE240⟩
        ·rw [if_neg c86] at H
         have c86b0 : decide (8 < (y241.length : Int)) = false := decide_eq_false c86
         have c86b1 : decide (8 < y241.length) = false := decide_eq_false (by omega)
         clear c86
         obtain ⟨rfl, rfl, rfl, rfl⟩ := sqO4 H
         have hnb106 := NB232_223.out
         have hnc106 := NB223_232.out
         have hnb107 := NB232_224.out
         have hnc107 := NB224_232.out
         have hnb108 := NB232_225.out
         have hnc108 := NB225_232.out
         have hnb109 := NB232_240.out
         have hnc109 := NB240_232.out
         obtain ⟨hcz110_0, hcz110_1, hcz110_2, hfz110_0, hfz110_1, hfz110_2⟩ := sqY3 BK232
         go_wp2_with (first | ((with_reducible refine gate_builtin (b := .append) (xs := #[.tmp 58, .tmp 61]) rfl ?_); (try (refine gate_guard (by rfl) ?_; dsimp only)); at_builtin; refine Kd.Q_append k31 (w0 := w) w.heap.size rfl (.tmp 58) (.tmp 61) 32 31 (.agg #[(.int .i64 0), (.int .i64 0)]) 16 rfl Tryz.underlying32 info31 rfl (by decide) (by omega) (.slice Ao21 t229.length co21) t229 (⟨t227, t228⟩ : S31) [.int .i64 t227, .int .i64 t228] (fun k_ => k_ ≠ gb240) (fun _ => False) rfl rfl ?aP (fun _ hk => hk.elim) ?aF ?aO ?aB ?aS ?aL ?_; (case aP => exact k31_mkM _ _ _ (⟨t227, t228⟩ : S31)); (case aB => exact (Z26 GE223 GE224 GE225 GE232 GE240)); (case aF => exact (fun k_ hk => Kd.freshB (sqK BK240) k_ hk)); (case aO => exact (Z29 HO_233002)); (case aS => exact (below_size (Z26 GE223 GE224 GE225 GE232 GE240))); (case aL => exact Z4 LMc85); intro v242 w111 ho hb hg hat; rw [← Ny241.out] at ho; replace BK223 := Aside0.mk (blk_grown (sqK BK223) hg (Kd.Q_ne HO_233002.out BK223.out (by decide))); replace BK224 := Aside0.mk (blk_grown (sqK BK224) hg (Kd.Q_ne HO_233002.out BK224.out (by decide))); replace BK225 := Aside0.mk (blk_grown (sqK BK225) hg (Kd.Q_ne HO_233002.out BK225.out (by decide))); replace BK232 := Aside0.mk (blk_grown (sqK BK232) hg (Kd.Q_ne HO_233002.out BK232.out (by decide))); replace BK240 := Aside0.mk (blk_grown (sqK BK240) hg (Kd.Q_away HO_233002.out (fun _ hk => hk))); replace HB := Aside0.mk (hb); have HO243 := Aside0.mk (ho); clear HO_233002; clear ho hb hg hat; obtain ⟨Ao112, co112, eo112, _⟩ := Kd.Q_slice HO243.out; subst eo112; obtain ⟨hcz113_0, hcz113_1, hcz113_2, hfz113_0, hfz113_1, hfz113_2⟩ := sqY3 BK232; have hnb114 := NB240_223.out; have hnc114 := NB223_240.out; have hnb115 := NB240_224.out; have hnc115 := NB224_240.out; have hnb116 := NB240_225.out; have hnc116 := NB225_240.out; obtain ⟨hcz117_0, hcz117_1, hfz117_0, hfz117_1⟩ := sqY2 BK240; have hnb118 := NB225_223.out; have hnc118 := NB223_225.out; have hnb119 := NB225_224.out; have hnc119 := NB224_225.out; obtain ⟨hcz120_0, hcz120_1, hcz120_2, hfz120_0, hfz120_1, hfz120_2⟩ := sqY3 BK225))
         refine bodyPost_ret (results_ct rfl _ _ gb225 34 #[.int .i64 t237, .int .i64 t238, .slice Ao112 y241.length co112] (0, 0) _ rfl (Z75 NB225_232 BK225) Tryz.underlying34 rfl (by kernel_rfl)) rfl ?_
         exact ⟨_, Z3, by (with_reducible repeat (first | apply Kd.Q_alloc | apply Kd.Q_drewN | apply Kd.Q_drew)); exact Kd.Q_mono (Kd.Q_far (p := ⟨gb225, 2, none⟩) (Kd.Q_far (p := ⟨gb225, 1, none⟩) (Kd.Q_far (p := ⟨gb225, 0, none⟩) (Kd.Q_far (p := ⟨gb232, 1, none⟩) (Kd.Q_far (p := ⟨gb232, 0, none⟩) (Kd.Q_far (p := ⟨gb232, 2, none⟩) (Kd.Q_types (Kd.Q_types HO243.out BK232.out (by decide)) BK225.out (by decide)) (fun _ hk => hk.1.2) (.slice Ao112 y241.length co112)) (fun _ hk => hk.1.2) (.int .i64 t237)) (fun _ hk => hk.1.2) (.int .i64 t238)) (fun _ hk => hk.2) (.int .i64 t237)) (fun _ hk => hk.2) (.int .i64 t238)) (fun _ hk => hk.2) (.slice Ao112 y241.length co112)) (fun _ hk => trivial), Z26 GE223 GE224 GE225 GE232 GE240⟩
 ·replace c4 := Bool.eq_false_iff.mpr c4
  subst c4
  rw [if_neg sqF] at H
  obtain ⟨rfl, rfl, rfl, rfl⟩ := sqO4 H
  go_enter Tryz.func14, Tryz.ntmps14
  go_wp2_with (first | ((with_reducible refine gate_dst (N := 2) rfl ?_); (try (refine gate_guard (by rfl) ?_; dsimp only)); refine sqBox (N := 2) (cs := #[.int .i64 a0_0, .int .i64 a0_1, .slice A0_2 l0_2.length c0_2]) (t := 34) ?_; intro gb223 hg w121 BK223 hb; have GW223 := Aside0.mk ((sqG hg (sqB HB))); have GE223 := GW223; replace HB := sqS (sqB HB) hb; clear hb hg) | ((with_reducible refine gate_dst (N := 3) rfl ?_); (try (refine gate_guard (by rfl) ?_; dsimp only)); refine sqBox (N := 3) (cs := #[.int .i64 a1_0, .string a1_1]) (t := 38) ?_; intro gb224 hg w122 BK224 hb; have GW224 := Aside0.mk ((sqG hg (sqB1 HB GE223))); have GE224 := GW224; replace HB := sqS (sqB1 HB GE223) hb; obtain ⟨NB223_224, NB224_223⟩ := sqM hg BK223; replace BK223 := sqT BK223 hb; clear hb hg) | ((with_reducible refine gate_dst (N := 4) rfl ?_); (try (refine gate_guard (by rfl) ?_; dsimp only)); refine sqBox (N := 4) (cs := #[.int .i64 0, .int .i64 0, .slice none 0 0]) (t := 34) ?_; intro gb225 hg w123 BK225 hb; have GW225 := Aside0.mk ((sqG hg (sqB2 HB GE223 GE224))); have GE225 := GW225; replace HB := sqS (sqB2 HB GE223 GE224) hb; obtain ⟨NB223_225, NB225_223⟩ := sqM hg BK223; replace BK223 := sqT BK223 hb; obtain ⟨NB224_225, NB225_224⟩ := sqM hg BK224; replace BK224 := sqT BK224 hb; clear hb hg; have hnb124 := NB223_224.out; have hnc124 := NB224_223.out; have hnb125 := NB223_225.out; have hnc125 := NB225_223.out; obtain ⟨hcz126_0, hcz126_1, hcz126_2, hfz126_0, hfz126_1, hfz126_2⟩ := sqY3 BK223) | ((with_reducible refine gate_callee (f := 30) rfl ?_); refine goesL_ (some 11) rfl rfl Tryz.func30 (by kernel_rfl) rfl #[.agg #[.int .i64 a0_0, .int .i64 a0_1, .slice A0_2 l0_2.length c0_2]] rfl sqA ?_; (with_reducible refine (spec_DeskOk.calls k a0_0 a0_1 _ _ l0_2 false _ ?side1 ?side2 A3.out).mono ?_); (case side1 => exact Z6); (case side2 => exact HC0_2.out); rintro e w127 ⟨rfl, hb⟩; refine ⟨_, rfl, ?_⟩; replace BK223 := sqT BK223 hb; replace BK224 := sqT BK224 hb; replace BK225 := sqT BK225 hb; replace HB := sqS (sqB3 HB GE223 GE224 GE225) hb; (try clear hb); have hnb128 := NB225_224.out; have hnc128 := NB224_225.out; obtain ⟨hcz129_0, hcz129_1, hcz129_2, hfz129_0, hfz129_1, hfz129_2⟩ := sqY3 BK225))
  refine bodyPost_ret (results_ct rfl _ _ gb225 34 #[.int .i64 0, .int .i64 0, .slice none 0 0] (0, 0) _ rfl (Z32 BK225) Tryz.underlying34 rfl (by kernel_rfl)) rfl ?_
  exact ⟨_, Z3, Kd.Q_of_R Z33, sqB3 HB GE223 GE224 GE225⟩

/-! ### impl_isPart: function 116 -/
def impl_isPart.f (a0 : Int) : Option (Bool) := if a0 ≥ (-1000000) then (some (decide (a0 ≤ 1000000))) else (some false)
set_option maxHeartbeats 8000000 in
set_option maxRecDepth 100000 in
theorem impl_isPart.calls (a0 : Int) (r : Bool) (w : World) (h : impl_isPart.f a0 = some r) :
  Calls Tryz.prog 116 #[.int .i64 a0] w fun e w' => e = .returned (.bool r) ∧ Drawn0 w w' := by
 have H : (if a0 ≥ (-1000000) then (some (decide (a0 ≤ 1000000))) else (some false)) = some r := h
 clear h
 by_cases c2 : a0 ≥ (-1000000)
 ·rw [if_pos c2] at H
  have c2b0 : decide ((-1000000) ≤ a0) = true := decide_eq_true c2
  clear c2
  obtain rfl := Option.some.inj H
  go_enter Tryz.func116, Tryz.ntmps116
  go_wp2
  go_ret
  exact ⟨Z1, Z58⟩
 ·rw [if_neg c2] at H
  have c2b0 : decide ((-1000000) ≤ a0) = false := decide_eq_false c2
  clear c2
  obtain rfl := Option.some.inj H
  go_enter Tryz.func116, Tryz.ntmps116
  go_wp2
  go_ret
  exact ⟨Z1, Z58⟩

/-! ### impl_gcd: function 117 -/
def impl_gcd.l0 : Nat → Int → Int → Option (Int)
 | 0, _, _ => none
 | k + 1, x0, x1 => if x1 = 0 then (some (mx x0 (wrap64 (-x0)))) else (impl_gcd.l0 k x1 (Int.tmod x0 x1))
def impl_gcd.f (k : Nat) (a0 : Int) (a1 : Int) : Option (Int) := impl_gcd.l0 k a0 a1
theorem impl_gcd.mono_l : ∀ k, (∀ y0 y1, LeO (impl_gcd.l0 k y0 y1) (impl_gcd.l0 (k + 1) y0 y1))
 | 0 => fun _ _ r h => by simp [impl_gcd.l0] at h
 | k + 1 => by
  have ih0 := impl_gcd.mono_l k
  ·intro y0 y1
   unfold impl_gcd.l0
   repeat' first
   | (with_reducible exact ih0 _ _)
   | (with_reducible exact LeO.refl _)
   | (with_reducible exact LeO.none _)
   | (with_reducible refine LeO.ite ?_ ?_)
   | (with_reducible refine LeO.bind ?_ (fun _ => ?_))
theorem impl_gcd.mono : ∀ a0 a1 k, LeO (impl_gcd.f k a0 a1) (impl_gcd.f (k + 1) a0 a1) := by
 intro a0 a1 k
 have ih0 := impl_gcd.mono_l k
 unfold impl_gcd.f
 repeat' first
   | (with_reducible exact ih0 _ _)
   | (with_reducible exact LeO.refl _)
   | (with_reducible exact LeO.none _)
   | (with_reducible refine LeO.ite ?_ ?_)
   | (with_reducible refine LeO.bind ?_ (fun _ => ?_))
set_option maxHeartbeats 8000000 in
set_option maxRecDepth 100000 in
theorem impl_gcd.calls (k : Nat) (a0 : Int) (a1 : Int) (r : Int) (w : World) (h : impl_gcd.f k a0 a1 = some r) :
  Calls Tryz.prog 117 #[.int .i64 a0, .int .i64 a1] w fun e w' => e = .returned (.int .i64 r) ∧ Below w.heap.size w w' := by
 have HB := Aside0.mk (Below.refl w.heap.size w)
 have H : (impl_gcd.l0 k a0 a1) = some r := h
 clear h
 have H' := Aside0.mk H
 clear H
 go_enter Tryz.func117, Tryz.ntmps117
 go_wp2
 repeat (go_quiet (fail); try go_wp2)
 go_loopg [0, 1] k (fun kq v0 v1 w' => ∃ (x0_1 : Int) (x1_1 : Int), v0 = .int .i64 x0_1 ∧ v1 = .int .i64 x1_1 ∧ Aside0 (impl_gcd.l0 kq x0_1 x1_1 = some r) ∧ Aside0 (kq ≤ k) ∧ Aside0 (Below w.heap.size w w'))
 case atStart => exact ⟨(a0), (a1), Z1, Z1, H', ⟨Nat.le_refl _⟩, ⟨sqB HB⟩⟩
 case round =>
  clear H'
  try clear c1; try clear p2
  obtain ⟨x0_1, x1_1, rfl, rfl, HA, HK1, HB⟩ := hrel
  cases gk with
  | zero => exact absurd HA.out (by simp [impl_gcd.l0])
  | succ k1 =>
   have H := HA.out
   clear HA
   simp only [impl_gcd.l0] at H
   by_cases c3 : x1_1 = 0
   ·rw [if_pos c3] at H
    have c3b0 : (x1_1 == 0) = true := beq_iff_eq.mpr c3
    have c3b1 : (x1_1 != 0) = false := bne_eq_false_iff_eq.mpr c3
    clear c3
    obtain ⟨ji4, hji4⟩ : ∃ j_ : Int, (mx x0_1 (wrap64 (-x0_1))) = j_ := ⟨_, rfl⟩
    replace H : (some ji4) = some r := by first | (rw [hji4] at H; exact H) | (simp only [hji4] at H ⊢; exact H)
    have hji4_ : (if x0_1 < (wrap64 (-x0_1)) then (wrap64 (-x0_1)) else x0_1) = ji4 := hji4
    obtain rfl := Option.some.inj H
    go_wp2
    repeat (go_quiet (fail); try go_wp2)
    go_ret
    exact ⟨by first | rfl | (simp [errP_none, errP_some] <;> rfl) | (simp only [← hji4]; first | rfl | (simp [errP_none, errP_some] <;> rfl)) | (simp [*, errP_none, errP_some] <;> rfl), sqB HB⟩
   ·rw [if_neg c3] at H
    have c3b0 : (x1_1 == 0) = false := beq_eq_false_iff_ne.mpr c3
    have c3b1 : (x1_1 != 0) = true := bne_iff_ne.mpr c3
    have H' := Aside0.mk H
    clear H
    go_wp2
    repeat (go_quiet (fail); try go_wp2)
    go_roundg k1
    case measure => have := HK1.out; omega
    case rel => exact ⟨(x1_1), (Int.tmod x0_1 x1_1), Z1, Z1, H', ⟨Z4 HK1⟩, ⟨sqB HB⟩⟩

/-! ### impl_isFraction: function 70 -/
def impl_isFraction.f (k : Nat) (a0_0 : Int) (a0_1 : Int) : Option (Bool) := (impl_isPart.f a0_0).bind fun t248 => (if t248 = true then (if a0_1 < 0 then (some false) else (if a0_1 > 1000000 then (some false) else (if a0_1 = 0 then (if a0_0 = 1 then ((impl_gcd.f k a0_0 a0_1).bind fun t249 => (some (t249 == 1))) else (some false)) else ((impl_gcd.f k a0_0 a0_1).bind fun t250 => (some (t250 == 1)))))) else (some false))
theorem impl_isFraction.mono : ∀ a0 a1 k, LeO (impl_isFraction.f k a0 a1) (impl_isFraction.f (k + 1) a0 a1) := by
 intro a0 a1 k
 unfold impl_isFraction.f
 repeat' first
   | (with_reducible exact impl_gcd.mono _ _ _)
   | (with_reducible exact LeO.refl _)
   | (with_reducible exact LeO.none _)
   | (with_reducible refine LeO.ite ?_ ?_)
   | (with_reducible refine LeO.bind ?_ (fun _ => ?_))
set_option maxHeartbeats 8000000 in
set_option maxRecDepth 100000 in
theorem impl_isFraction.calls (k : Nat) (a0_0 : Int) (a0_1 : Int) (r : Bool) (w : World) (h : impl_isFraction.f k a0_0 a0_1 = some r) :
  Calls Tryz.prog 70 #[.agg #[.int .i64 a0_0, .int .i64 a0_1]] w fun e w' => e = .returned (.bool r) ∧ Below w.heap.size w w' := by
 have hu31 := Tryz.underlying31
 have HB := Aside0.mk (Below.refl w.heap.size w)
 have H : ((impl_isPart.f a0_0).bind fun t248 => (if t248 = true then (if a0_1 < 0 then (some false) else (if a0_1 > 1000000 then (some false) else (if a0_1 = 0 then (if a0_0 = 1 then ((impl_gcd.f k a0_0 a0_1).bind fun t249 => (some (t249 == 1))) else (some false)) else ((impl_gcd.f k a0_0 a0_1).bind fun t250 => (some (t250 == 1)))))) else (some false))) = some r := h
 clear h
 obtain ⟨t248, A2, H⟩ := sqD H
 by_cases c3 : t248 = true
 ·subst c3
  rw [if_pos rfl] at H
  by_cases c4 : a0_1 < 0
  ·rw [if_pos c4] at H
   have c4b0 : decide (a0_1 < 0) = true := decide_eq_true c4
   clear c4
   obtain rfl := Option.some.inj H
   go_enter Tryz.func70, Tryz.ntmps70
   go_wp2_with (first | ((with_reducible refine gate_dst (N := 1) rfl ?_); refine sqBox (N := 1) (cs := #[.int .i64 a0_0, .int .i64 a0_1]) (t := 31) ?_; intro gb247 hg w5 BK247 hb; have GW247 := Aside0.mk ((sqG hg (sqB HB))); have GE247 := GW247; replace HB := sqS (sqB HB) hb; clear hb hg; obtain ⟨hcz6_0, hcz6_1, hfz6_0, hfz6_1⟩ := sqY2 BK247) | ((with_reducible refine gate_callee (f := 116) rfl ?_); refine goesL_ (some 5) rfl rfl Tryz.func116 (by kernel_rfl) rfl #[.int .i64 a0_0] rfl sqA ?_; (with_reducible refine (impl_isPart.calls a0_0 true _ A2.out).mono ?_); rintro e w' ⟨rfl, ⟨nd, rfl⟩⟩; refine ⟨_, rfl, ?_⟩))
   go_ret
   exact ⟨Z3, sqB1 HB GE247⟩
  ·rw [if_neg c4] at H
   have c4b0 : decide (a0_1 < 0) = false := decide_eq_false c4
   clear c4
   by_cases c7 : a0_1 > 1000000
   ·rw [if_pos c7] at H
    have c7b0 : decide (1000000 < a0_1) = true := decide_eq_true c7
    clear c7
    obtain rfl := Option.some.inj H
    go_enter Tryz.func70, Tryz.ntmps70
    go_wp2_with (first | ((with_reducible refine gate_dst (N := 1) rfl ?_); refine sqBox (N := 1) (cs := #[.int .i64 a0_0, .int .i64 a0_1]) (t := 31) ?_; intro gb247 hg w8 BK247 hb; have GW247 := Aside0.mk ((sqG hg (sqB HB))); have GE247 := GW247; replace HB := sqS (sqB HB) hb; clear hb hg; obtain ⟨hcz9_0, hcz9_1, hfz9_0, hfz9_1⟩ := sqY2 BK247) | ((with_reducible refine gate_callee (f := 116) rfl ?_); refine goesL_ (some 5) rfl rfl Tryz.func116 (by kernel_rfl) rfl #[.int .i64 a0_0] rfl sqA ?_; (with_reducible refine (impl_isPart.calls a0_0 true _ A2.out).mono ?_); rintro e w' ⟨rfl, ⟨nd, rfl⟩⟩; refine ⟨_, rfl, ?_⟩))
    go_ret
    exact ⟨Z3, sqB1 HB GE247⟩
   ·rw [if_neg c7] at H
    have c7b0 : decide (1000000 < a0_1) = false := decide_eq_false c7
    clear c7
    by_cases c10 : a0_1 = 0
    ·rw [if_pos c10] at H
     have c10b0 : (a0_1 == 0) = true := beq_iff_eq.mpr c10
     have c10b1 : (a0_1 != 0) = false := bne_eq_false_iff_eq.mpr c10
     clear c10
     by_cases c11 : a0_0 = 1
     ·rw [if_pos c11] at H
      have c11b0 : (a0_0 == 1) = true := beq_iff_eq.mpr c11
      have c11b1 : (a0_0 != 1) = false := bne_eq_false_iff_eq.mpr c11
      clear c11
      obtain ⟨t249, A12, H⟩ := sqD H
      obtain rfl := Option.some.inj H
      go_enter Tryz.func70, Tryz.ntmps70
      go_wp2_with (first | ((with_reducible refine gate_dst (N := 1) rfl ?_); refine sqBox (N := 1) (cs := #[.int .i64 a0_0, .int .i64 a0_1]) (t := 31) ?_; intro gb247 hg w13 BK247 hb; have GW247 := Aside0.mk ((sqG hg (sqB HB))); have GE247 := GW247; replace HB := sqS (sqB HB) hb; clear hb hg; obtain ⟨hcz14_0, hcz14_1, hfz14_0, hfz14_1⟩ := sqY2 BK247) | ((with_reducible refine gate_callee (f := 116) rfl ?_); refine goesL_ (some 5) rfl rfl Tryz.func116 (by kernel_rfl) rfl #[.int .i64 a0_0] rfl sqA ?_; (with_reducible refine (impl_isPart.calls a0_0 true _ A2.out).mono ?_); rintro e w' ⟨rfl, ⟨nd, rfl⟩⟩; refine ⟨_, rfl, ?_⟩) | ((with_reducible refine gate_callee (f := 117) rfl ?_); refine goesL_ (some 31) rfl rfl Tryz.func117 (by kernel_rfl) rfl #[.int .i64 a0_0, .int .i64 a0_1] rfl sqA ?_; (with_reducible refine (impl_gcd.calls k a0_0 a0_1 t249 _ A12.out).mono ?_); rintro e w15 ⟨rfl, hb⟩; refine ⟨_, rfl, ?_⟩; replace BK247 := sqT BK247 hb; replace HB := sqS (sqB1 HB GE247) hb; (try clear hb)))
      go_ret
      exact ⟨Z3, sqB1 HB GE247⟩
     ·rw [if_neg c11] at H
      have c11b0 : (a0_0 == 1) = false := beq_eq_false_iff_ne.mpr c11
      have c11b1 : (a0_0 != 1) = true := bne_iff_ne.mpr c11
      obtain rfl := Option.some.inj H
      go_enter Tryz.func70, Tryz.ntmps70
      go_wp2_with (first | ((with_reducible refine gate_dst (N := 1) rfl ?_); refine sqBox (N := 1) (cs := #[.int .i64 a0_0, .int .i64 a0_1]) (t := 31) ?_; intro gb247 hg w16 BK247 hb; have GW247 := Aside0.mk ((sqG hg (sqB HB))); have GE247 := GW247; replace HB := sqS (sqB HB) hb; clear hb hg; obtain ⟨hcz17_0, hcz17_1, hfz17_0, hfz17_1⟩ := sqY2 BK247) | ((with_reducible refine gate_callee (f := 116) rfl ?_); refine goesL_ (some 5) rfl rfl Tryz.func116 (by kernel_rfl) rfl #[.int .i64 a0_0] rfl sqA ?_; (with_reducible refine (impl_isPart.calls a0_0 true _ A2.out).mono ?_); rintro e w' ⟨rfl, ⟨nd, rfl⟩⟩; refine ⟨_, rfl, ?_⟩))
      go_ret
      exact ⟨Z3, sqB1 HB GE247⟩
    ·rw [if_neg c10] at H
     have c10b0 : (a0_1 == 0) = false := beq_eq_false_iff_ne.mpr c10
     have c10b1 : (a0_1 != 0) = true := bne_iff_ne.mpr c10
     obtain ⟨t250, A18, H⟩ := sqD H
     obtain rfl := Option.some.inj H
     go_enter Tryz.func70, Tryz.ntmps70
     go_wp2_with (first | ((with_reducible refine gate_dst (N := 1) rfl ?_); refine sqBox (N := 1) (cs := #[.int .i64 a0_0, .int .i64 a0_1]) (t := 31) ?_; intro gb247 hg w19 BK247 hb; have GW247 := Aside0.mk ((sqG hg (sqB HB))); have GE247 := GW247; replace HB := sqS (sqB HB) hb; clear hb hg; obtain ⟨hcz20_0, hcz20_1, hfz20_0, hfz20_1⟩ := sqY2 BK247) | ((with_reducible refine gate_callee (f := 116) rfl ?_); refine goesL_ (some 5) rfl rfl Tryz.func116 (by kernel_rfl) rfl #[.int .i64 a0_0] rfl sqA ?_; (with_reducible refine (impl_isPart.calls a0_0 true _ A2.out).mono ?_); rintro e w' ⟨rfl, ⟨nd, rfl⟩⟩; refine ⟨_, rfl, ?_⟩) | ((with_reducible refine gate_callee (f := 117) rfl ?_); refine goesL_ (some 31) rfl rfl Tryz.func117 (by kernel_rfl) rfl #[.int .i64 a0_0, .int .i64 a0_1] rfl sqA ?_; (with_reducible refine (impl_gcd.calls k a0_0 a0_1 t250 _ A18.out).mono ?_); rintro e w21 ⟨rfl, hb⟩; refine ⟨_, rfl, ?_⟩; replace BK247 := sqT BK247 hb; replace HB := sqS (sqB1 HB GE247) hb; (try clear hb)))
     go_ret
     exact ⟨Z3, sqB1 HB GE247⟩
 ·replace c3 := Bool.eq_false_iff.mpr c3
  subst c3
  rw [if_neg sqF] at H
  obtain rfl := Option.some.inj H
  go_enter Tryz.func70, Tryz.ntmps70
  go_wp2_with (first | ((with_reducible refine gate_dst (N := 1) rfl ?_); refine sqBox (N := 1) (cs := #[.int .i64 a0_0, .int .i64 a0_1]) (t := 31) ?_; intro gb247 hg w22 BK247 hb; have GW247 := Aside0.mk ((sqG hg (sqB HB))); have GE247 := GW247; replace HB := sqS (sqB HB) hb; clear hb hg; obtain ⟨hcz23_0, hcz23_1, hfz23_0, hfz23_1⟩ := sqY2 BK247) | ((with_reducible refine gate_callee (f := 116) rfl ?_); refine goesL_ (some 5) rfl rfl Tryz.func116 (by kernel_rfl) rfl #[.int .i64 a0_0] rfl sqA ?_; (with_reducible refine (impl_isPart.calls a0_0 false _ A2.out).mono ?_); rintro e w' ⟨rfl, ⟨nd, rfl⟩⟩; refine ⟨_, rfl, ?_⟩))
  go_ret
  exact ⟨Z3, sqB1 HB GE247⟩

/-! ### impl_isDesk_1: function 110 -/
def impl_isDesk_1.f (k : Nat) (a0_0 : Int) (a0_1 : Int) : Option (Bool) := (impl_isFraction.f k a0_0 a0_1).bind fun t252 => (some (!t252))
theorem impl_isDesk_1.mono : ∀ a0 a1 k, LeO (impl_isDesk_1.f k a0 a1) (impl_isDesk_1.f (k + 1) a0 a1) := by
 intro a0 a1 k
 unfold impl_isDesk_1.f
 repeat' first
   | (with_reducible exact impl_isFraction.mono _ _ _)
   | (with_reducible exact LeO.refl _)
   | (with_reducible exact LeO.none _)
   | (with_reducible refine LeO.ite ?_ ?_)
   | (with_reducible refine LeO.bind ?_ (fun _ => ?_))
set_option maxHeartbeats 8000000 in
set_option maxRecDepth 100000 in
theorem impl_isDesk_1.calls (k : Nat) (a0_0 : Int) (a0_1 : Int) (r : Bool) (w : World) (h : impl_isDesk_1.f k a0_0 a0_1 = some r) :
  Calls Tryz.prog 110 #[.agg #[.int .i64 a0_0, .int .i64 a0_1]] w fun e w' => e = .returned (.bool r) ∧ Below w.heap.size w w' := by
 have hu31 := Tryz.underlying31
 have HB := Aside0.mk (Below.refl w.heap.size w)
 have H : ((impl_isFraction.f k a0_0 a0_1).bind fun t252 => (some (!t252))) = some r := h
 clear h
 obtain ⟨t252, A2, H⟩ := sqD H
 obtain rfl := Option.some.inj H
 go_enter Tryz.func110, Tryz.ntmps110
 go_wp2_with (first | ((with_reducible refine gate_dst (N := 1) rfl ?_); refine sqBox (N := 1) (cs := #[.int .i64 a0_0, .int .i64 a0_1]) (t := 31) ?_; intro gb251 hg w3 BK251 hb; have GW251 := Aside0.mk ((sqG hg (sqB HB))); have GE251 := GW251; replace HB := sqS (sqB HB) hb; clear hb hg; obtain ⟨hcz4_0, hcz4_1, hfz4_0, hfz4_1⟩ := sqY2 BK251) | ((with_reducible refine gate_callee (f := 70) rfl ?_); refine goesL_ (some 4) rfl rfl Tryz.func70 (by kernel_rfl) rfl #[.agg #[.int .i64 a0_0, .int .i64 a0_1]] rfl sqA ?_; (with_reducible refine (impl_isFraction.calls k a0_0 a0_1 t252 _ A2.out).mono ?_); rintro e w5 ⟨rfl, hb⟩; refine ⟨_, rfl, ?_⟩; replace BK251 := sqT BK251 hb; replace HB := sqS (sqB1 HB GE251) hb; (try clear hb)))
 go_ret
 exact ⟨Z3, sqB1 HB GE251⟩

end Go.Proofs.YtofmlbgfcohhoaaGreatDoor.PFnDeskDo
