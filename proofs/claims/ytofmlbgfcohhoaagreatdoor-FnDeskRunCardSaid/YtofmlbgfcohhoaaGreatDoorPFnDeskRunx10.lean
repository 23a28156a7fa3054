/- Lean functions of the Go functions that the law FnDeskRun reaches, each with its contract: made by a program of this session. -/
import Derived.Test.YtofmlbgfcohhoaaGreatDoorPFnDeskRunx0
import Derived.Test.YtofmlbgfcohhoaaGreatDoorPFnDeskRunx1
import Derived.Test.YtofmlbgfcohhoaaGreatDoorPFnDeskRunx2
import Derived.Test.YtofmlbgfcohhoaaGreatDoorPFnDeskRunx4
import Derived.Test.YtofmlbgfcohhoaaGreatDoorPFnDeskRunx9
namespace Go.Proofs.YtofmlbgfcohhoaaGreatDoor.PFnDeskRun
open Go.RowKit Go.Proofs.YtofmlbgfcohhoaaGreatDoorW.PrintWords Go.Proofs.YtofmlbgfcohhoaaGreatDoorW.PrintLast Go.Proofs.YtofmlbgfcohhoaaGreatDoorW.PrintMore Go.Proofs.YtofmlbgfcohhoaaGreatDoor.Lib
attribute [local go_sem] max2_int min2_int max_two min_two max_three min_three max_four min_four   -- for this text's walks alone
set_option linter.unusedVariables false
set_option linter.unusedSimpArgs false

attribute [local go_sem high] eqA31 eqA38
/-! ### spec_DeskDo: function 14 -/
mutual
def spec_DeskDo.j0 : Nat → Bool → Int → Int → List (S31) → Int → ByteArray → Int → Int → List (S31) → Option (Int × Int × (List (S31)) × Bool)
 | 0, _, _, _, _, _, _, _, _, _ => none
 | k + 1, x24, x249000, x249001, x249002, x250000, x250001, x258000, x258001, x258002 => if x24 = true then (if 0 ≤ (wrap64 ((x258002.length : Int) - 1)) then (if (wrap64 ((x258002.length : Int) - 1)) < (x258002.length : Int) then (if (wrap64 ((x258002.length : Int) - 1)) ≤ (x258002.length : Int) then (some ((rd_T31 x258002 (wrap64 ((x258002.length : Int) - 1))).f0, (rd_T31 x258002 (wrap64 ((x258002.length : Int) - 1))).f1, (x258002.take ((wrap64 ((x258002.length : Int) - 1)) : Int).toNat), true)) else (none)) else (none)) else (none)) else ((spec_l11Made.f k x249000 x249001 x250000 x250001).bind fun bt262 => (if bt262.2.2 = true then (spec_DeskDo.j1 k (bt262.1 == x249000 && (bt262.2.1 == x249001)) x258000 x258001 x258002 bt262.1 bt262.2.1) else (spec_DeskDo.j1 k true x258000 x258001 x258002 bt262.1 bt262.2.1)))
def spec_DeskDo.j1 : Nat → Bool → Int → Int → List (S31) → Int → Int → Option (Int × Int × (List (S31)) × Bool)
 | 0, _, _, _, _, _, _ => none
 | k + 1, x55, x258000, x258001, x258002, x266000, x266001 => if x55 = true then (some (x258000, x258001, x258002, false)) else (if x258002.length < 8796093022208 then ((some (x258002 ++ [(⟨x258000, x258001⟩ : S31)] : List (S31))).bind fun y266 => (if (y266.length : Int) > 8 then (if 1 ≤ (y266.length : Int) then (some (x266000, x266001, (y266.drop (1 : Int).toNat), true)) else (none)) else (some (x266000, x266001, y266, true)))) else (none))
end
def spec_DeskDo.f (k : Nat) (a0_0 : Int) (a0_1 : Int) (l0_2 : List (S31)) (a1_0 : Int) (a1_1 : ByteArray) : Option (Int × Int × (List (S31)) × Bool) := (spec_DeskOk.f k a0_0 a0_1 l0_2).bind fun t251 => (if t251 = true then ((spec_l11Copy.f a0_0 a0_1 l0_2).bind fun bt252 => (if (a1_0 == 4 && (a1_1.toList == ([] : List UInt8))) = true then (spec_DeskDo.j0 k (decide ((l0_2.length : Int) > 0)) a0_0 a0_1 l0_2 a1_0 a1_1 bt252.1 bt252.2.1 bt252.2.2) else (spec_DeskDo.j0 k false a0_0 a0_1 l0_2 a1_0 a1_1 bt252.1 bt252.2.1 bt252.2.2))) else (some (0, 0, ([] : List (S31)), false)))
theorem spec_DeskDo.mono_l : ∀ k, (∀ y0 y1 y2 y3 y4 y5 y6 y7 y8, LeO (spec_DeskDo.j0 k y0 y1 y2 y3 y4 y5 y6 y7 y8) (spec_DeskDo.j0 (k + 1) y0 y1 y2 y3 y4 y5 y6 y7 y8)) ∧ (∀ y0 y1 y2 y3 y4 y5, LeO (spec_DeskDo.j1 k y0 y1 y2 y3 y4 y5) (spec_DeskDo.j1 (k + 1) y0 y1 y2 y3 y4 y5))
 | 0 => ⟨fun _ _ _ _ _ _ _ _ _ r h => by simp [spec_DeskDo.j0] at h, fun _ _ _ _ _ _ r h => by simp [spec_DeskDo.j1] at h⟩
 | k + 1 => by
  obtain ⟨ih0, ih1⟩ := spec_DeskDo.mono_l k
  refine ⟨?_, ?_⟩
  ·intro y0 y1 y2 y3 y4 y5 y6 y7 y8
   unfold spec_DeskDo.j0
   repeat' first
   | (with_reducible exact ih0 _ _ _ _ _ _ _ _ _)
   | (with_reducible exact ih1 _ _ _ _ _ _)
   | (with_reducible exact spec_DeskOk.mono _ _ _ _)
   | (with_reducible exact spec_l11Made.mono _ _ _ _ _)
   | (with_reducible exact LeO.refl _)
   | (with_reducible exact LeO.none _)
   | (with_reducible refine LeO.ite ?_ ?_)
   | (with_reducible refine LeO.bind ?_ (fun _ => ?_))
  ·intro y0 y1 y2 y3 y4 y5
   unfold spec_DeskDo.j1
   repeat' first
   | (with_reducible exact ih0 _ _ _ _ _ _ _ _ _)
   | (with_reducible exact ih1 _ _ _ _ _ _)
   | (with_reducible exact spec_DeskOk.mono _ _ _ _)
   | (with_reducible exact spec_l11Made.mono _ _ _ _ _)
   | (with_reducible exact LeO.refl _)
   | (with_reducible exact LeO.none _)
   | (with_reducible refine LeO.ite ?_ ?_)
   | (with_reducible refine LeO.bind ?_ (fun _ => ?_))
theorem spec_DeskDo.mono : ∀ a0 a1 a2 a3 a4 k, LeO (spec_DeskDo.f k a0 a1 a2 a3 a4) (spec_DeskDo.f (k + 1) a0 a1 a2 a3 a4) := by
 intro a0 a1 a2 a3 a4 k
 obtain ⟨ih0, ih1⟩ := spec_DeskDo.mono_l k
 unfold spec_DeskDo.f
 repeat' first
   | (with_reducible exact ih0 _ _ _ _ _ _ _ _ _)
   | (with_reducible exact ih1 _ _ _ _ _ _)
   | (with_reducible exact spec_DeskOk.mono _ _ _ _)
   | (with_reducible exact spec_l11Made.mono _ _ _ _ _)
   | (with_reducible exact LeO.refl _)
   | (with_reducible exact LeO.none _)
   | (with_reducible refine LeO.ite ?_ ?_)
   | (with_reducible refine LeO.bind ?_ (fun _ => ?_))
set_option maxHeartbeats 8000000 in
set_option maxRecDepth 100000 in
theorem spec_DeskDo.calls (k : Nat) (a0_0 : Int) (a0_1 : Int) (A0_2 : Option Addr) (c0_2 : Nat) (l0_2 : List (S31)) (a1_0 : Int) (a1_1 : ByteArray) (r1 : Int) (r2 : Int) (r3 : List (S31)) (r4 : Bool) (w : World) (hr0_2 : Kd.C k31 w A0_2 l0_2.length l0_2) (hc0_2 : l0_2.length ≤ c0_2) (h : spec_DeskDo.f k a0_0 a0_1 l0_2 a1_0 a1_1 = some (r1, r2, r3, r4)) :
  Calls Tryz.prog 14 #[.agg #[.int .i64 a0_0, .int .i64 a0_1, .slice A0_2 l0_2.length c0_2], .agg #[.int .i64 a1_0, .string a1_1]] w fun e w' => ∃ v2_ : Value, e = .returned (.tuple #[.agg #[.int .i64 r1, .int .i64 r2, v2_], .bool r4]) ∧ Kd.Q k31 31 w' w.heap.size (fun _ => True) v2_ r3 ∧ Below w.heap.size w w' := by
 have hu34 := Tryz.underlying34
 have hu38 := Tryz.underlying38
 have hu31 := Tryz.underlying31
 have HR0_2 := Aside0.mk hr0_2
 have HC0_2 := Aside0.mk hc0_2
 clear hr0_2 hc0_2
 have HB := Aside0.mk (Below.refl w.heap.size w)
 have H : ((spec_DeskOk.f k a0_0 a0_1 l0_2).bind fun t251 => (if t251 = true then ((spec_l11Copy.f a0_0 a0_1 l0_2).bind fun bt252 => (if (a1_0 == 4 && (a1_1.toList == ([] : List UInt8))) = true then (spec_DeskDo.j0 k (decide ((l0_2.length : Int) > 0)) a0_0 a0_1 l0_2 a1_0 a1_1 bt252.1 bt252.2.1 bt252.2.2) else (spec_DeskDo.j0 k false a0_0 a0_1 l0_2 a1_0 a1_1 bt252.1 bt252.2.1 bt252.2.2))) else (some (0, 0, ([] : List (S31)), false)))) = some (r1, r2, r3, r4) := h
 clear h
 obtain ⟨t251, A3, H⟩ := sqD H
 by_cases c4 : t251 = true
 ·subst c4
  rw [if_pos rfl] at H
  obtain ⟨⟨t252, t253, t254⟩, A5, H⟩ := sqD H
  try dsimp only at H
  have HC6 := Aside0.mk H
  clear H
  go_enter Tryz.func14, Tryz.ntmps14
  go_upto_region 4 with (first | ((with_reducible refine gate_dst (N := 2) rfl ?_); (try (refine gate_guard (by rfl) ?_; dsimp only)); refine sqBox (N := 2) (cs := #[.int .i64 a0_0, .int .i64 a0_1, .slice A0_2 l0_2.length c0_2]) (t := 34) ?_; intro gb248 hg w7 BK248 hb; have GW248 := Aside0.mk ((sqG hg (sqB HB))); have GE248 := GW248; replace HB := sqS (sqB HB) hb; clear hb hg) | ((with_reducible refine gate_dst (N := 3) rfl ?_); (try (refine gate_guard (by rfl) ?_; dsimp only)); refine sqBox (N := 3) (cs := #[.int .i64 a1_0, .string a1_1]) (t := 38) ?_; intro gb249 hg w8 BK249 hb; have GW249 := Aside0.mk ((sqG hg (sqB1 HB GE248))); have GE249 := GW249; replace HB := sqS (sqB1 HB GE248) hb; obtain ⟨NB248_249, NB249_248⟩ := sqM hg BK248; replace BK248 := sqT BK248 hb; clear hb hg) | ((with_reducible refine gate_dst (N := 4) rfl ?_); (try (refine gate_guard (by rfl) ?_; dsimp only)); refine sqBox (N := 4) (cs := #[.int .i64 0, .int .i64 0, .slice none 0 0]) (t := 34) ?_; intro gb250 hg w9 BK250 hb; have GW250 := Aside0.mk ((sqG hg (sqB2 HB GE248 GE249))); have GE250 := GW250; replace HB := sqS (sqB2 HB GE248 GE249) hb; obtain ⟨NB248_250, NB250_248⟩ := sqM hg BK248; replace BK248 := sqT BK248 hb; obtain ⟨NB249_250, NB250_249⟩ := sqM hg BK249; replace BK249 := sqT BK249 hb; clear hb hg; have hnb10 := NB248_249.out; have hnc10 := NB249_248.out; have hnb11 := NB248_250.out; have hnc11 := NB250_248.out; obtain ⟨hcz12_0, hcz12_1, hcz12_2, hfz12_0, hfz12_1, hfz12_2⟩ := sqY3 BK248) | ((with_reducible refine gate_callee (f := 30) rfl ?_); refine goesL_ (some 11) rfl rfl Tryz.func30 (by kernel_rfl) rfl #[.agg #[.int .i64 a0_0, .int .i64 a0_1, .slice A0_2 l0_2.length c0_2]] rfl sqA ?_; (with_reducible refine (spec_DeskOk.calls k a0_0 a0_1 _ _ l0_2 true _ ?side1 ?side2 A3.out).mono ?_); (case side1 => exact Z1); (case side2 => exact HC0_2.out); rintro e w13 ⟨rfl, hb⟩; refine ⟨_, rfl, ?_⟩; replace BK248 := sqT BK248 hb; replace BK249 := sqT BK249 hb; replace BK250 := sqT BK250 hb; replace HB := sqS (sqB3 HB GE248 GE249 GE250) hb; (try clear hb); obtain ⟨hcz14_0, hcz14_1, hcz14_2, hfz14_0, hfz14_1, hfz14_2⟩ := sqY3 BK248) | ((with_reducible refine gate_callee (f := 56) rfl ?_); refine goesL_ (some 15) rfl rfl Tryz.func56 (by kernel_rfl) rfl #[.agg #[.int .i64 a0_0, .int .i64 a0_1, .slice A0_2 l0_2.length c0_2]] rfl sqA ?_; (with_reducible refine (spec_l11Copy.calls a0_0 a0_1 _ _ l0_2 t252 t253 t254 _ ?side1 ?side2 A5.out).mono ?_); (case side1 => exact Z1); (case side2 => exact HC0_2.out); rintro e w15 ⟨v255, rfl, ho0, hb⟩; refine ⟨_, rfl, ?_⟩; have HO256 := sqL ho0 (sqB3 HB GE248 GE249 GE250); replace BK248 := sqT BK248 hb; replace BK249 := sqT BK249 hb; replace BK250 := sqT BK250 hb; replace HB := sqS (sqB3 HB GE248 GE249 GE250) hb; (try clear hb); (try clear ho0)) | ((with_reducible refine gate_dst (N := 6) rfl ?_); (try (refine gate_guard (by rfl) ?_; dsimp only)); refine sqBox (N := 6) (cs := #[.int .i64 0, .int .i64 0, .slice none 0 0]) (t := 34) ?_; intro gb257 hg w16 BK257 hb; replace HO256 := sqU HO256 hb; have GW257 := Aside0.mk ((sqG hg (sqB3 HB GE248 GE249 GE250))); have GE257 := GW257; replace HB := sqS (sqB3 HB GE248 GE249 GE250) hb; obtain ⟨NB248_257, NB257_248⟩ := sqM hg BK248; replace BK248 := sqT BK248 hb; obtain ⟨NB249_257, NB257_249⟩ := sqM hg BK249; replace BK249 := sqT BK249 hb; obtain ⟨NB250_257, NB257_250⟩ := sqM hg BK250; replace BK250 := sqT BK250 hb; clear hb hg; have hnb17 := NB257_248.out; have hnc17 := NB248_257.out; have hnb18 := NB257_249.out; have hnc18 := NB249_257.out; have hnb19 := NB257_250.out; have hnc19 := NB250_257.out; obtain ⟨hcz20_0, hcz20_1, hcz20_2, hfz20_0, hfz20_1, hfz20_2⟩ := sqY3 BK257; obtain ⟨Ao21, co21, eo21⟩ := Kd.R_slice HO256.out; subst eo21))
  (try simp only [Act.put, List.setIfInBounds_toArray, List.set_cons_zero, List.set_cons_succ])
  go_cut [24] (fun v24 wc => ∃ (kq : Nat) (x24_5 : Bool), v24 = .bool x24_5 ∧ Aside0 (spec_DeskDo.j0 kq x24_5 a0_0 a0_1 l0_2 a1_0 a1_1 t252 t253 t254 = some (r1, r2, r3, r4)) ∧ Aside0 (kq ≤ k) ∧ Aside0 (Kd.Q k31 31 wc w.heap.size (fun _ => True) (.slice Ao21 t254.length co21) t254) ∧ Aside0 (wc.heap[gb248]? = some (.cells #[.int .i64 a0_0, .int .i64 a0_1, (.slice A0_2 l0_2.length c0_2)] 34 (0, 0))) ∧ Aside0 (wc.heap[gb249]? = some (.cells #[.int .i64 a1_0, .string a1_1] 38 (0, 0))) ∧ Aside0 (wc.heap[gb250]? = some (.cells #[.int .i64 0, .int .i64 0, (.slice none 0 0)] 34 (0, 0))) ∧ Aside0 (wc.heap[gb257]? = some (.cells #[.int .i64 t252, .int .i64 t253, (.slice Ao21 t254.length co21)] 34 (0, 0))) ∧ Aside0 (Below w.heap.size w wc))
  case first =>
   have H := HC6.out
   clear HC6
   by_cases c22 : (a1_0 == 4 && (a1_1.toList == ([] : List UInt8))) = true
   ·rw [if_pos c22] at H
    have c22b0 : (a1_0 == 4 && (a1_1.toList == ([] : List UInt8))) = true := c22
    try have c22b8 : (a1_0 == 4 && a1_1.toList.isEmpty) = true := by (have h_ := c22b0; (repeat rw [show ∀ z : List UInt8, (z == ([] : List UInt8)) = z.isEmpty from fun z => by cases z <;> rfl] at h_); exact h_)
    (try (have c22b1 : decide (a1_0 = 4 && (a1_1.toList == ([] : List UInt8))) = true := by simpa using c22))
    (try (have c22b2 : (a1_0 == 4 && (a1_1.toList == ([] : List UInt8))) = true := by simpa using c22))
    clear c22
    (first | rw [c22b0] | (simp only [i64_w, i32_w]; rw [c22b0]) | skip)
    have H' := Aside0.mk H
    clear H
    have hnb23 := NB249_248.out
    have hnc23 := NB248_249.out
    have hnb24 := NB249_250.out
    have hnc24 := NB250_249.out
    have hnb25 := NB249_257.out
    have hnc25 := NB257_249.out
    obtain ⟨hcz26_0, hcz26_1, hfz26_0, hfz26_1⟩ := sqY2 BK249
    have hnb27 := NB248_250.out
    have hnc27 := NB250_248.out
    have hnb28 := NB248_257.out
    have hnc28 := NB257_248.out
    obtain ⟨hcz29_0, hcz29_1, hcz29_2, hfz29_0, hfz29_1, hfz29_2⟩ := sqY3 BK248
    go_wp2
    go_meet
    case rel => exact ⟨_, (decide ((l0_2.length : Int) > 0)), Z2, H', ⟨Z3⟩, ⟨Kd.Q_of_R (Z4 HO256 BK257)⟩, ⟨Z5 NB248_257 BK248⟩, ⟨Z5 NB249_257 BK249⟩, ⟨Z5 NB250_257 BK250⟩, ⟨Z6 BK257⟩, ⟨sqB4 HB GE248 GE249 GE250 GE257⟩⟩
   ·rw [if_neg c22] at H
    have c22b0 : (a1_0 == 4 && (a1_1.toList == ([] : List UInt8))) = false := by simpa using c22
    try have c22b8 : (a1_0 == 4 && a1_1.toList.isEmpty) = false := by (have h_ := c22b0; (repeat rw [show ∀ z : List UInt8, (z == ([] : List UInt8)) = z.isEmpty from fun z => by cases z <;> rfl] at h_); exact h_)
    (try (have c22b1 : decide (a1_0 = 4 && (a1_1.toList == ([] : List UInt8))) = false := by simpa using c22))
    (try (have c22b2 : (a1_0 == 4 && (a1_1.toList == ([] : List UInt8))) = false := by simpa using c22))
    (try (have c22b3 : ¬ (a1_0 = 4 && (a1_1.toList == ([] : List UInt8))) := by simpa using c22))
    clear c22
    (first | rw [c22b0] | (simp only [i64_w, i32_w]; rw [c22b0]) | skip)
    have H' := Aside0.mk H
    clear H
    have hnb30 := NB249_248.out
    have hnc30 := NB248_249.out
    have hnb31 := NB249_250.out
    have hnc31 := NB250_249.out
    have hnb32 := NB249_257.out
    have hnc32 := NB257_249.out
    obtain ⟨hcz33_0, hcz33_1, hfz33_0, hfz33_1⟩ := sqY2 BK249
    go_wp2
    go_meet
    case rel => exact ⟨_, (false), Z2, H', ⟨Z3⟩, ⟨Kd.Q_of_R (Z4 HO256 BK257)⟩, ⟨Z5 NB248_257 BK248⟩, ⟨Z5 NB249_257 BK249⟩, ⟨Z5 NB250_257 BK250⟩, ⟨Z6 BK257⟩, ⟨sqB4 HB GE248 GE249 GE250 GE257⟩⟩
  case rest =>
   clear HC6
   try clear c1; try clear c2; try clear p2; try clear c3; try clear c4; try clear c5; try clear c10; try clear c11; try clear c14; try clear c17; try clear c18; try clear c19; try clear c22; try clear c22b0; try clear c22b1; try clear c22b2; try clear c23; try clear c24; try clear c25; try clear c27; try clear c28; try clear c30; try clear c31; try clear c32; try clear hcz12_0; try clear hcz12_1; try clear hcz12_2; try clear hcz14_0; try clear hcz14_1; try clear hcz14_2; try clear hcz20_0; try clear hcz20_1; try clear hcz20_2; try clear hcz26_0; try clear hcz26_1; try clear hcz29_0; try clear hcz29_1; try clear hcz29_2; try clear hcz33_0; try clear hcz33_1; try clear hfz12_0; try clear hfz12_1; try clear hfz12_2; try clear hfz14_0; try clear hfz14_1; try clear hfz14_2; try clear hfz20_0; try clear hfz20_1; try clear hfz20_2; try clear hfz26_0; try clear hfz26_1; try clear hfz29_0; try clear hfz29_1; try clear hfz29_2; try clear hfz33_0; try clear hfz33_1
   obtain ⟨kq, x24_5, rfl, HA, HJ5, HO_258002, BK248, BK249, BK250, BK257, HB⟩ := hcut
   cases kq with
   | zero => exact absurd HA.out (by simp [spec_DeskDo.j0])
   | succ kj5 =>
    have H := HA.out
    clear HA
    simp only [spec_DeskDo.j0] at H
    by_cases c34 : x24_5 = true
    ·subst c34
     rw [if_pos rfl] at H
     obtain ⟨ji35, hji35⟩ : ∃ j_ : Int, (wrap64 ((t254.length : Int) - 1)) = j_ := ⟨_, rfl⟩
     replace H : (if 0 ≤ (ji35) then (if (ji35) < (t254.length : Int) then (if (ji35) ≤ (t254.length : Int) then (some ((rd_T31 t254 (ji35)).f0, (rd_T31 t254 (ji35)).f1, (t254.take ((ji35) : Int).toNat), true)) else (none)) else (none)) else (none)) = some (r1, r2, r3, r4) := by first | (rw [hji35] at H; exact H) | (simp only [hji35] at H ⊢; exact H)
     have hji35w : (IntKind.i64.wrap ((t254.length : Int) - 1)) = ji35 := (i64_w _).trans hji35
     obtain ⟨c36, H⟩ := sqI H
     have c36b0 : decide (0 ≤ (ji35)) = true := decide_eq_true c36
     clear c36
     obtain ⟨c37, H⟩ := sqI H
     have c37b0 : decide ((ji35) < (t254.length : Int)) = true := decide_eq_true c37
     clear c37
     obtain ⟨c38, H⟩ := sqI H
     have c38b0 := eq_true c38
     have c38b1 : decide ((ji35) ≤ (t254.length : Int)) = true := decide_eq_true c38
     clear c38
     obtain ⟨y259, hy259⟩ : ∃ y_ : List (S31), y_ = (t254.take ((ji35) : Int).toNat) := ⟨_, rfl⟩
     replace H : (some ((rd_T31 t254 (ji35)).f0, (rd_T31 t254 (ji35)).f1, y259, true)) = some (r1, r2, r3, r4) := sqW hy259 H
     have Ny259 := Aside0.mk hy259
     clear hy259
     simp only [Option.some.injEq, Prod.mk.injEq] at H
     obtain ⟨rfl, rfl, rfl, rfl⟩ := H
     have hnb39 := NB257_248.out
     have hnc39 := NB248_257.out
     have hnb40 := NB257_249.out
     have hnc40 := NB249_257.out
     have hnb41 := NB257_250.out
     have hnc41 := NB250_257.out
     obtain ⟨hcz42_0, hcz42_1, hcz42_2, hfz42_0, hfz42_1, hfz42_2⟩ := sqY3 BK257
     have p258 : 0 ≤ ((ji35) : Int) := of_decide_eq_true Z7
     have q258 : (ji35) < (t254.length : Int) := of_decide_eq_true Z7
     obtain ⟨ad258, e258, hx258_0, hx258_1⟩ := at_T31 (Kd.Q_reads' HO_258002.out).2.2 (ji35) p258 q258
     cases e258
     replace p258 := eq_true p258
     replace q258 := eq_true q258
     go_wp2_with (first | ((with_reducible refine gate_store (t := 31) (p := 34) rfl ?_); refine store_event (t := 31) (p := 34) (v := ?vo_w43) (w1 := ((wc.setCell ⟨gb257, 0, none⟩ (.int .i64 ((rd_T31 t254 (ji35)).f0))).setCell ⟨gb257, 1, none⟩ (.int .i64 ((rd_T31 t254 (ji35)).f1)))) ?hg ?ho ?hn ?hr ?_; (case ho => rfl); (case hg => rfl); (case hn => rfl); (case hr => exact Z8); intro w43 hw; replace HO_258002 : Aside0 (Kd.Q k31 31 w43 w.heap.size (fun _ => True) (.slice (some ad258) t254.length co21) t254) := ⟨(by rw [hw]; exact (by (with_reducible repeat (first | apply Kd.Q_alloc | apply Kd.Q_drewN | apply Kd.Q_drew)); exact Kd.Q_mono (Kd.Q_far (p := ⟨gb257, 1, none⟩) (Kd.Q_far (p := ⟨gb257, 0, none⟩) (Kd.Q_types HO_258002.out BK257.out (by decide)) (fun _ hk => hk.2) (.int .i64 ((rd_T31 t254 (ji35)).f0))) (fun _ hk => hk.2) (.int .i64 ((rd_T31 t254 (ji35)).f1))) (fun _ hk => trivial)))⟩; replace BK248 : Aside0 (w43.heap[gb248]? = some (.cells #[.int .i64 a0_0, .int .i64 a0_1, .slice A0_2 l0_2.length c0_2] 34 (0, 0))) := ⟨(by rw [hw]; exact (Z9 NB248_257 BK248))⟩; replace BK249 : Aside0 (w43.heap[gb249]? = some (.cells #[.int .i64 a1_0, .string a1_1] 38 (0, 0))) := ⟨(by rw [hw]; exact (Z9 NB249_257 BK249))⟩; replace BK250 : Aside0 (w43.heap[gb250]? = some (.cells #[.int .i64 0, .int .i64 0, .slice none 0 0] 34 (0, 0))) := ⟨(by rw [hw]; exact (Z9 NB250_257 BK250))⟩; replace BK257 : Aside0 (w43.heap[gb257]? = some (.cells #[.int .i64 ((rd_T31 t254 (ji35)).f0), .int .i64 ((rd_T31 t254 (ji35)).f1), .slice (some ad258) t254.length co21] 34 (0, 0))) := ⟨(by rw [hw]; exact (by refine sqPut (cs := #[.int .i64 ((rd_T31 t254 (ji35)).f0), .int .i64 t253, .slice (some ad258) t254.length co21]) ?_ 1; refine sqPut (cs := #[.int .i64 t252, .int .i64 t253, .slice (some ad258) t254.length co21]) ?_ 0; exact sqK BK257))⟩; replace HB : Aside0 (Below w.heap.size w w43) := ⟨(by rw [hw]; exact (sqB4 HB GE248 GE249 GE250 GE257))⟩; clear hw; have hcz44_0 : w43.cell? ⟨gb257, 0, none⟩ = some (.int .i64 ((rd_T31 t254 (ji35)).f0)) := (blk_cell BK257.out 0).trans rfl; have hcz44_1 : w43.cell? ⟨gb257, 1, none⟩ = some (.int .i64 ((rd_T31 t254 (ji35)).f1)) := (blk_cell BK257.out 1).trans rfl; have hcz44_2 := sqZ BK257 2 (.slice (some ad258) t254.length co21); have hfz44_0 := blk_frozen BK257.out 0; have hfz44_1 := blk_frozen BK257.out 1; have hfz44_2 := blk_frozen BK257.out 2; have q45 : ((ji35) : Int) ≤ ((t254.length : Int) : Int) := of_decide_eq_true Z7; obtain ⟨i045, hi045, _, hsz45, _⟩ := info_parts info31; have hcut45 := cut_to (P := Tryz.prog) 32 31 .i64 Tryz.underlying32 hi045 (some ad258) t254.length co21 (ji35) (of_decide_eq_true Z7) q45 (Kd.Q_reads' HO_258002.out).2.1; have hr45 := Kd.Q_take (m := ((ji35) : Int).toNat) HO_258002.out (by omega); have hy45 : y259.length = ((ji35) : Int).toNat := (by rw [Ny259.out, List.length_take]; omega); rw [← Ny259.out] at hr45; rw [← hy45] at hr45 hcut45; clear hy45 hi045 hsz45 HO_258002; have HO261 := Aside0.mk hr45; clear hr45; replace q45 := eq_true q45; have hnb46 := NB250_248.out; have hnc46 := NB248_250.out; have hnb47 := NB250_249.out; have hnc47 := NB249_250.out; obtain ⟨hcz48_0, hcz48_1, hcz48_2, hfz48_0, hfz48_1, hfz48_2⟩ := sqY3 BK250))
     refine bodyPost_ret (results_ct rfl _ _ gb250 34 #[.int .i64 ((rd_T31 t254 (ji35)).f0), .int .i64 ((rd_T31 t254 (ji35)).f1), .slice (some ad258) y259.length co21] (0, 0) _ rfl (by refine sqPut (cs := #[.int .i64 ((rd_T31 t254 (ji35)).f0), .int .i64 ((rd_T31 t254 (ji35)).f1), .slice none 0 0]) ?_ 2; refine sqPut (cs := #[.int .i64 ((rd_T31 t254 (ji35)).f0), .int .i64 0, .slice none 0 0]) ?_ 1; refine sqPut (cs := #[.int .i64 0, .int .i64 0, .slice none 0 0]) ?_ 0; refine sqFar ?_ NB250_257; exact sqK BK250) Tryz.underlying34 rfl (by kernel_rfl)) rfl ?_
     exact ⟨_, by first | rfl | (simp [errP_none, errP_some] <;> rfl) | (simp only [← hji35]; first | rfl | (simp [errP_none, errP_some] <;> rfl)) | (simp [*, errP_none, errP_some] <;> rfl), (by (with_reducible repeat (first | apply Kd.Q_alloc | apply Kd.Q_drewN | apply Kd.Q_drew)); exact Kd.Q_mono (Kd.Q_far (p := ⟨gb250, 2, none⟩) (Kd.Q_far (p := ⟨gb250, 1, none⟩) (Kd.Q_far (p := ⟨gb250, 0, none⟩) (Kd.Q_far (p := ⟨gb257, 2, none⟩) (Kd.Q_types (Kd.Q_types HO261.out BK257.out (by decide)) BK250.out (by decide)) (fun _ hk => hk.1.2) (.slice (some ad258) y259.length co21)) (fun _ hk => hk.2) (.int .i64 ((rd_T31 t254 (ji35)).f0))) (fun _ hk => hk.2) (.int .i64 ((rd_T31 t254 (ji35)).f1))) (fun _ hk => hk.2) (.slice (some ad258) y259.length co21)) (fun _ hk => trivial)), sqB4 HB GE248 GE249 GE250 GE257⟩
    ·replace c34 := Bool.eq_false_iff.mpr c34
     subst c34
     rw [if_neg sqF] at H
     obtain ⟨⟨t262, t263, t264⟩, A49, H⟩ := sqD H
     try dsimp only at H
     have HC50 := Aside0.mk H
     clear H
     have hnb51 := NB248_249.out
     have hnc51 := NB249_248.out
     have hnb52 := NB248_250.out
     have hnc52 := NB250_248.out
     have hnb53 := NB248_257.out
     have hnc53 := NB257_248.out
     obtain ⟨hcz54_0, hcz54_1, hcz54_2, hfz54_0, hfz54_1, hfz54_2⟩ := sqY3 BK248
     have hnb55 := NB249_250.out
     have hnc55 := NB250_249.out
     have hnb56 := NB249_257.out
     have hnc56 := NB257_249.out
     obtain ⟨hcz57_0, hcz57_1, hfz57_0, hfz57_1⟩ := sqY2 BK249
     go_upto_region 10 with (first | ((with_reducible refine gate_callee (f := 57) rfl ?_); refine goesL_ (some 45) rfl rfl Tryz.func57 (by kernel_rfl) rfl #[.agg #[.int .i64 a0_0, .int .i64 a0_1], .agg #[.int .i64 a1_0, .string a1_1]] rfl sqA ?_; (with_reducible refine (spec_l11Made.calls kj5 a0_0 a0_1 a1_0 a1_1 t262 t263 t264 _ A49.out).mono ?_); rintro e w58 ⟨rfl, hb⟩; refine ⟨_, rfl, ?_⟩; replace HO_258002 := Aside0.mk (Kd.Q_below (Z10 HO_258002) hb); replace BK248 := sqT BK248 hb; replace BK249 := sqT BK249 hb; replace BK250 := sqT BK250 hb; replace BK257 := sqT BK257 hb; replace HB := sqS (sqB4 HB GE248 GE249 GE250 GE257) hb; (try clear hb)) | ((with_reducible refine gate_dst (N := 8) rfl ?_); (try (refine gate_guard (by rfl) ?_; dsimp only)); refine sqBox (N := 8) (cs := #[.int .i64 0, .int .i64 0]) (t := 31) ?_; intro gb265 hg w59 BK265 hb; replace HO_258002 := Aside0.mk (Kd.Q_below (Kd.Q_elderB (Z10 HO_258002) gb265 (Nat.le_of_eq hg.symm)) hb); have GW265 := Aside0.mk ((sqG hg (sqB4 HB GE248 GE249 GE250 GE257))); have GE265 := GW265; replace HB := sqS (sqB4 HB GE248 GE249 GE250 GE257) hb; obtain ⟨NB248_265, NB265_248⟩ := sqM hg BK248; replace BK248 := sqT BK248 hb; obtain ⟨NB249_265, NB265_249⟩ := sqM hg BK249; replace BK249 := sqT BK249 hb; obtain ⟨NB250_265, NB265_250⟩ := sqM hg BK250; replace BK250 := sqT BK250 hb; obtain ⟨NB257_265, NB265_257⟩ := sqM hg BK257; replace BK257 := sqT BK257 hb; clear hb hg; have hnb60 := NB265_248.out; have hnc60 := NB248_265.out; have hnb61 := NB265_249.out; have hnc61 := NB249_265.out; have hnb62 := NB265_250.out; have hnc62 := NB250_265.out; have hnb63 := NB265_257.out; have hnc63 := NB257_265.out; obtain ⟨hcz64_0, hcz64_1, hfz64_0, hfz64_1⟩ := sqY2 BK265))
     (try simp only [Act.put, List.setIfInBounds_toArray, List.set_cons_zero, List.set_cons_succ])
     go_cut [55] (fun v55 wc => ∃ (kq : Nat) (x55_49 : Bool), v55 = .bool x55_49 ∧ Aside0 (spec_DeskDo.j1 kq x55_49 t252 t253 t254 t262 t263 = some (r1, r2, r3, r4)) ∧ Aside0 (kq ≤ kj5) ∧ Aside0 (Kd.Q k31 31 wc w.heap.size (fun k_ => k_ ≠ gb265) (.slice Ao21 t254.length co21) t254) ∧ Aside0 (wc.heap[gb248]? = some (.cells #[.int .i64 a0_0, .int .i64 a0_1, (.slice A0_2 l0_2.length c0_2)] 34 (0, 0))) ∧ Aside0 (wc.heap[gb249]? = some (.cells #[.int .i64 a1_0, .string a1_1] 38 (0, 0))) ∧ Aside0 (wc.heap[gb250]? = some (.cells #[.int .i64 0, .int .i64 0, (.slice none 0 0)] 34 (0, 0))) ∧ Aside0 (wc.heap[gb257]? = some (.cells #[.int .i64 t252, .int .i64 t253, (.slice Ao21 t254.length co21)] 34 (0, 0))) ∧ Aside0 (wc.heap[gb265]? = some (.cells #[.int .i64 t262, .int .i64 t263] 31 (0, 0))) ∧ Aside0 (Below w.heap.size w wc))
     case first =>
      have H := HC50.out
      clear HC50
      by_cases c65 : t264 = true
      ·subst c65
       rw [if_pos rfl] at H
       have H' := Aside0.mk H
       clear H
       have hnb66 := NB265_248.out
       have hnc66 := NB248_265.out
       have hnb67 := NB265_249.out
       have hnc67 := NB249_265.out
       have hnb68 := NB265_250.out
       have hnc68 := NB250_265.out
       have hnb69 := NB265_257.out
       have hnc69 := NB257_265.out
       obtain ⟨hcz70_0, hcz70_1, hfz70_0, hfz70_1⟩ := sqY2 BK265
       have hnb71 := NB248_249.out
       have hnc71 := NB249_248.out
       have hnb72 := NB248_250.out
       have hnc72 := NB250_248.out
       have hnb73 := NB248_257.out
       have hnc73 := NB257_248.out
       obtain ⟨hcz74_0, hcz74_1, hcz74_2, hfz74_0, hfz74_1, hfz74_2⟩ := sqY3 BK248
       go_wp2
       go_meet
       case rel => exact ⟨_, ((t262 == a0_0 && (t263 == a0_1))), Z2, H', ⟨Z11⟩, ⟨Z12 HO_258002⟩, ⟨Z9 NB248_265 BK248⟩, ⟨Z9 NB249_265 BK249⟩, ⟨Z9 NB250_265 BK250⟩, ⟨Z9 NB257_265 BK257⟩, ⟨Z13 BK265⟩, ⟨Z14 GE248 GE249 GE250 GE257 GE265⟩⟩
      ·replace c65 := Bool.eq_false_iff.mpr c65
       subst c65
       rw [if_neg sqF] at H
       have H' := Aside0.mk H
       clear H
       go_wp2
       go_meet
       case rel => exact ⟨_, (true), Z2, H', ⟨Z11⟩, ⟨Z12 HO_258002⟩, ⟨Z9 NB248_265 BK248⟩, ⟨Z9 NB249_265 BK249⟩, ⟨Z9 NB250_265 BK250⟩, ⟨Z9 NB257_265 BK257⟩, ⟨Z13 BK265⟩, ⟨Z14 GE248 GE249 GE250 GE257 GE265⟩⟩
     case rest =>
      clear HC50
      try clear c1; try clear c2; try clear p2; try clear q2; try clear hx2; try clear c3; try clear c4; try clear q4; try clear c5; try clear c6; try clear p6; try clear c7; try clear c10; try clear c11; try clear c14; try clear c17; try clear c18; try clear c19; try clear c22; try clear c22b0; try clear c22b1; try clear c22b2; try clear c23; try clear c24; try clear c25; try clear p25; try clear q25; try clear hx25; try clear c27; try clear c28; try clear c30; try clear c31; try clear c32; try clear c34; try clear c36; try clear c36b0; try clear c37; try clear c37b0; try clear c38; try clear c38b0; try clear c38b1; try clear c39; try clear c40; try clear c41; try clear q45; try clear c46; try clear c47; try clear c51; try clear c52; try clear c53; try clear c55; try clear c56; try clear c57; try clear c60; try clear c61; try clear c62; try clear c63; try clear p64; try clear c65; try clear c66; try clear c67; try clear c68; try clear c69; try clear c71; try clear c72; try clear c73; try clear hcz12_0; try clear hcz12_1; try clear hcz12_2; try clear hcz14_0; try clear hcz14_1; try clear hcz14_2; try clear hcz20_0; try clear hcz20_1; try clear hcz20_2; try clear hcz26_0; try clear hcz26_1; try clear hcz29_0; try clear hcz29_1; try clear hcz29_2; try clear hcz33_0; try clear hcz33_1; try clear hcz42_0; try clear hcz42_1; try clear hcz42_2; try clear hcz44_0; try clear hcz44_1; try clear hcz44_2; try clear hcz48_0; try clear hcz48_1; try clear hcz48_2; try clear hcz54_0; try clear hcz54_1; try clear hcz54_2; try clear hcz57_0; try clear hcz57_1; try clear hcz64_0; try clear hcz64_1; try clear hcz70_0; try clear hcz70_1; try clear hcz74_0; try clear hcz74_1; try clear hcz74_2; try clear hfz12_0; try clear hfz12_1; try clear hfz12_2; try clear hfz14_0; try clear hfz14_1; try clear hfz14_2; try clear hfz20_0; try clear hfz20_1; try clear hfz20_2; try clear hfz26_0; try clear hfz26_1; try clear hfz29_0; try clear hfz29_1; try clear hfz29_2; try clear hfz33_0; try clear hfz33_1; try clear hfz42_0; try clear hfz42_1; try clear hfz42_2; try clear hfz44_0; try clear hfz44_1; try clear hfz44_2; try clear hfz48_0; try clear hfz48_1; try clear hfz48_2; try clear hfz54_0; try clear hfz54_1; try clear hfz54_2; try clear hfz57_0; try clear hfz57_1; try clear hfz64_0; try clear hfz64_1; try clear hfz70_0; try clear hfz70_1; try clear hfz74_0; try clear hfz74_1; try clear hfz74_2; try clear hx258_0; try clear hx258_1; try clear p2; try clear p258; try clear q258; try clear q45
      obtain ⟨kq, x55_49, rfl, HA, HJ49, HO_258002, BK248, BK249, BK250, BK257, BK265, HB⟩ := hcut
      cases kq with
      | zero => exact absurd HA.out (by simp [spec_DeskDo.j1])
      | succ kj49 =>
       have H := HA.out
       clear HA
       simp only [spec_DeskDo.j1] at H
       by_cases c75 : x55_49 = true
       ·subst c75
        rw [if_pos rfl] at H
        simp only [Option.some.injEq, Prod.mk.injEq] at H
        obtain ⟨rfl, rfl, rfl, rfl⟩ := H
        have hnb76 := NB257_248.out
        have hnc76 := NB248_257.out
        have hnb77 := NB257_249.out
        have hnc77 := NB249_257.out
        have hnb78 := NB257_250.out
        have hnc78 := NB250_257.out
        have hnb79 := NB257_265.out
        have hnc79 := NB265_257.out
        obtain ⟨hcz80_0, hcz80_1, hcz80_2, hfz80_0, hfz80_1, hfz80_2⟩ := sqY3 BK257
        have hnb81 := NB250_248.out
        have hnc81 := NB248_250.out
        have hnb82 := NB250_249.out
        have hnc82 := NB249_250.out
        have hnb83 := NB250_265.out
        have hnc83 := NB265_250.out
        obtain ⟨hcz84_0, hcz84_1, hcz84_2, hfz84_0, hfz84_1, hfz84_2⟩ := sqY3 BK250
        go_wp2
        refine bodyPost_ret (results_ct rfl _ _ gb250 34 #[.int .i64 t252, .int .i64 t253, .slice Ao21 t254.length co21] (0, 0) _ rfl (Z6 BK250) Tryz.underlying34 rfl (by kernel_rfl)) rfl ?_
        exact ⟨_, Z15, by (with_reducible repeat (first | apply Kd.Q_alloc | apply Kd.Q_drewN | apply Kd.Q_drew)); exact Kd.Q_mono (Kd.Q_far (p := ⟨gb250, 2, none⟩) (Kd.Q_far (p := ⟨gb250, 1, none⟩) (Kd.Q_far (p := ⟨gb250, 0, none⟩) (Kd.Q_types HO_258002.out BK250.out (by decide)) (fun _ hk => hk.2) (.int .i64 t252)) (fun _ hk => hk.2) (.int .i64 t253)) (fun _ hk => hk.2) (.slice Ao21 t254.length co21)) (fun _ hk => trivial), Z14 GE248 GE249 GE250 GE257 GE265⟩
       ·replace c75 := Bool.eq_false_iff.mpr c75
        subst c75
        rw [if_neg sqF] at H
        obtain ⟨c85, H⟩ := sqI H
        have LMc85 := Aside0.mk c85
        clear c85
        obtain ⟨y266, hy266⟩ : ∃ y_ : List (S31), y_ = (t254 ++ [(⟨t252, t253⟩ : S31)]) := ⟨_, rfl⟩
        replace H : (if (y266.length : Int) > 8 then (if 1 ≤ (y266.length : Int) then (some (t262, t263, (y266.drop (1 : Int).toNat), true)) else (none)) else (some (t262, t263, y266, true))) = some (r1, r2, r3, r4) := sqW hy266 H
        have Ny266 := Aside0.mk hy266
        clear hy266
        by_cases c86 : (y266.length : Int) > 8
        ·rw [if_pos c86] at H
         have c86b0 : decide (8 < (y266.length : Int)) = true := decide_eq_true c86
         have c86b1 : decide (8 < y266.length) = true := decide_eq_true (by omega)
         clear c86
         obtain ⟨c87, H⟩ := sqI H
         have c87b0 := eq_true c87
         have c87b1 : decide (1 ≤ (y266.length : Int)) = true := decide_eq_true c87
         clear c87
         obtain ⟨y269, hy269⟩ : ∃ y_ : List (S31), y_ = (y266.drop (1 : Int).toNat) := ⟨_, rfl⟩
         replace H : (some (t262, t263, y269, true)) = some (r1, r2, r3, r4) := sqW hy269 H
         have Ny269 := Aside0.mk hy269
         clear hy269
         simp only [Option.some.injEq, Prod.mk.injEq] at H
         obtain ⟨rfl, rfl, rfl, rfl⟩ := H
         have hnb88 := NB257_248.out
         have hnc88 := NB248_257.out
         have hnb89 := NB257_249.out
         have hnc89 := NB249_257.out
         have hnb90 := NB257_250.out
         have hnc90 := NB250_257.out
         have hnb91 := NB257_265.out
         have hnc91 := NB265_257.out
         obtain ⟨hcz92_0, hcz92_1, hcz92_2, hfz92_0, hfz92_1, hfz92_2⟩ := sqY3 BK257
         go_wp2_with (first | ((with_reducible refine gate_builtin (b := .append) (xs := #[.tmp 58, .tmp 61]) rfl ?_); (try (refine gate_guard (by rfl) ?_; dsimp only)); at_builtin; refine Kd.Q_append k31 (w0 := w) w.heap.size rfl (.tmp 58) (.tmp 61) 32 31 (.agg #[(.int .i64 0), (.int .i64 0)]) 16 rfl Tryz.underlying32 info31 rfl (by decide) (by omega) (.slice Ao21 t254.length co21) t254 (⟨t252, t253⟩ : S31) [.int .i64 t252, .int .i64 t253] (fun k_ => k_ ≠ gb265) (fun _ => False) rfl rfl ?aP (fun _ hk => hk.elim) ?aF ?aO ?aB ?aS ?aL ?_; (case aP => exact k31_mkM _ _ _ (⟨t252, t253⟩ : S31)); (case aB => exact (Z14 GE248 GE249 GE250 GE257 GE265)); (case aF => exact (fun k_ hk => Kd.freshB (sqK BK265) k_ hk)); (case aO => exact (Z10 HO_258002)); (case aS => exact (below_size (Z14 GE248 GE249 GE250 GE257 GE265))); (case aL => exact Z16 LMc85); intro v267 w93 ho hb hg hat; rw [← Ny266.out] at ho; replace BK248 := Aside0.mk (blk_grown (sqK BK248) hg (Kd.Q_ne HO_258002.out BK248.out (by decide))); replace BK249 := Aside0.mk (blk_grown (sqK BK249) hg (Kd.Q_ne HO_258002.out BK249.out (by decide))); replace BK250 := Aside0.mk (blk_grown (sqK BK250) hg (Kd.Q_ne HO_258002.out BK250.out (by decide))); replace BK257 := Aside0.mk (blk_grown (sqK BK257) hg (Kd.Q_ne HO_258002.out BK257.out (by decide))); replace BK265 := Aside0.mk (blk_grown (sqK BK265) hg (Kd.Q_away HO_258002.out (fun _ hk => hk))); replace HB := Aside0.mk (hb); have HO268 := Aside0.mk (ho); clear HO_258002; clear ho hb hg hat; obtain ⟨Ao94, co94, eo94, _⟩ := Kd.Q_slice HO268.out; subst eo94; obtain ⟨hcz95_0, hcz95_1, hcz95_2, hfz95_0, hfz95_1, hfz95_2⟩ := sqY3 BK257) | ((with_reducible refine gate_store (t := 32) (p := 63) rfl ?_); refine store_event (t := 32) (p := 63) (v := ?vo_w96) (w1 := (w93.setCell ⟨gb257, 2, none⟩ (.slice Ao94 y266.length co94))) ?hg ?ho ?hn ?hr ?_; (case ho => rfl); (case hg => rfl); (case hn => rfl); (case hr => exact Z8); intro w96 hw; replace HO268 : Aside0 (Kd.Q k31 31 w96 w.heap.size (fun k_ => k_ ≠ gb265) (.slice Ao94 y266.length co94) y266) := ⟨(by rw [hw]; exact (by (with_reducible repeat (first | apply Kd.Q_alloc | apply Kd.Q_drewN | apply Kd.Q_drew)); exact Kd.Q_mono (Kd.Q_far (p := ⟨gb257, 2, none⟩) (Kd.Q_types HO268.out BK257.out (by decide)) (fun _ hk => hk.2) (.slice Ao94 y266.length co94)) (fun _ hk => hk.1)))⟩; replace BK248 : Aside0 (w96.heap[gb248]? = some (.cells #[.int .i64 a0_0, .int .i64 a0_1, .slice A0_2 l0_2.length c0_2] 34 (0, 0))) := ⟨(by rw [hw]; exact (Z17 NB248_257 BK248))⟩; replace BK249 : Aside0 (w96.heap[gb249]? = some (.cells #[.int .i64 a1_0, .string a1_1] 38 (0, 0))) := ⟨(by rw [hw]; exact (Z17 NB249_257 BK249))⟩; replace BK250 : Aside0 (w96.heap[gb250]? = some (.cells #[.int .i64 0, .int .i64 0, .slice none 0 0] 34 (0, 0))) := ⟨(by rw [hw]; exact (Z17 NB250_257 BK250))⟩; replace BK257 : Aside0 (w96.heap[gb257]? = some (.cells #[.int .i64 t252, .int .i64 t253, .slice Ao94 y266.length co94] 34 (0, 0))) := ⟨(by rw [hw]; exact (by refine sqPut (cs := #[.int .i64 t252, .int .i64 t253, .slice Ao21 t254.length co21]) ?_ 2; exact sqK BK257))⟩; replace BK265 : Aside0 (w96.heap[gb265]? = some (.cells #[.int .i64 t262, .int .i64 t263] 31 (0, 0))) := ⟨(by rw [hw]; exact (Z17 NB265_257 BK265))⟩; replace HB : Aside0 (Below w.heap.size w w96) := ⟨(by rw [hw]; exact (Z14 GE248 GE249 GE250 GE257 GE265))⟩; clear hw; obtain ⟨hcz97_0, hcz97_1, hcz97_2, hfz97_0, hfz97_1, hfz97_2⟩ := sqY3 BK257; have q98 : (1 : Int) ≤ ((y266.length : Int) : Int) := of_decide_eq_true Z7; obtain ⟨i098, hi098, _, hsz98, _⟩ := info_parts info31; have hcut98 := cut_from (P := Tryz.prog) 32 31 .i64 Tryz.underlying32 hi098 2 hsz98 Ao94 y266.length co94 1 (by omega) q98; have hr98 := Kd.Q_drop (k := (1 : Int).toNat) HO268.out (by omega); obtain ⟨A98, hA98⟩ : ∃ A1, A1 = (if co94 = (1 : Int).toNat then Ao94 else (Ao94 : Option Addr).map (·.add ((1 : Int).toNat * 2))) := ⟨_, rfl⟩; obtain ⟨c98, hc98⟩ : ∃ c1, c1 = co94 - (1 : Int).toNat := ⟨_, rfl⟩; have hy98 : y269.length = y266.length - (1 : Int).toNat := (by rw [Ny269.out, List.length_drop]); rw [← Ny269.out] at hr98; rw [← hy98, ← hA98, ← hc98] at hcut98; replace hr98 : Kd.Q k31 31 w96 w.heap.size (fun k_ => k_ ≠ gb265) (.slice A98 y269.length c98) y269 := (by rw [hA98, hc98, hy98]; exact hr98); have HE98 : Aside0 ((Value.slice A98 y269.length c98).ownBlock = (.slice Ao94 y266.length co94 : Value).ownBlock) := ⟨by rw [hA98]; split <;> (cases (Ao94 : Option Addr) <;> rfl)⟩; clear hy98 hi098 hsz98 HO268 hA98 hc98; have HO271 := Aside0.mk hr98; clear hr98; replace q98 := eq_true q98; have hnb99 := NB265_248.out; have hnc99 := NB248_265.out; have hnb100 := NB265_249.out; have hnc100 := NB249_265.out; have hnb101 := NB265_250.out; have hnc101 := NB250_265.out; obtain ⟨hcz102_0, hcz102_1, hfz102_0, hfz102_1⟩ := sqY2 BK265; have hnb103 := NB250_248.out; have hnc103 := NB248_250.out; have hnb104 := NB250_249.out; have hnc104 := NB249_250.out; obtain ⟨hcz105_0, hcz105_1, hcz105_2, hfz105_0, hfz105_1, hfz105_2⟩ := sqY3 BK250))
         refine bodyPost_ret (results_ct rfl _ _ gb250 34 #[.int .i64 t262, .int .i64 t263, .slice A98 y269.length c98] (0, 0) _ rfl (Z18 NB250_257 BK250) Tryz.underlying34 rfl (by kernel_rfl)) rfl ?_
         exact ⟨_, Z15, by (with_reducible repeat (first | apply Kd.Q_alloc | apply Kd.Q_drewN | apply Kd.Q_drew)); exact Kd.Q_mono (Kd.Q_far (p := ⟨gb250, 2, none⟩) (Kd.Q_far (p := ⟨gb250, 1, none⟩) (Kd.Q_far (p := ⟨gb250, 0, none⟩) (Kd.Q_far (p := ⟨gb257, 1, none⟩) (Kd.Q_far (p := ⟨gb257, 0, none⟩) (Kd.Q_far (p := ⟨gb257, 2, none⟩) (Kd.Q_types (Kd.Q_types HO271.out BK257.out (by decide)) BK250.out (by decide)) (fun _ hk => hk.1.2) (.slice A98 y269.length c98)) (fun _ hk => hk.1.2) (.int .i64 t262)) (fun _ hk => hk.1.2) (.int .i64 t263)) (fun _ hk => hk.2) (.int .i64 t262)) (fun _ hk => hk.2) (.int .i64 t263)) (fun _ hk => hk.2) (.slice A98 y269.length c98)) (fun _ hk => trivial), Z14 GE248 GE249 GE250 GE257 GE265⟩
        ·rw [if_neg c86] at H
         have c86b0 : decide (8 < (y266.length : Int)) = false := decide_eq_false c86
         have c86b1 : decide (8 < y266.length) = false := decide_eq_false (by omega)
         clear c86
         simp only [Option.some.injEq, Prod.mk.injEq] at H
         obtain ⟨rfl, rfl, rfl, rfl⟩ := H
         have hnb106 := NB257_248.out
         have hnc106 := NB248_257.out
         have hnb107 := NB257_249.out
         have hnc107 := NB249_257.out
         have hnb108 := NB257_250.out
         have hnc108 := NB250_257.out
         have hnb109 := NB257_265.out
         have hnc109 := NB265_257.out
         obtain ⟨hcz110_0, hcz110_1, hcz110_2, hfz110_0, hfz110_1, hfz110_2⟩ := sqY3 BK257
         go_wp2_with (first | ((with_reducible refine gate_builtin (b := .append) (xs := #[.tmp 58, .tmp 61]) rfl ?_); (try (refine gate_guard (by rfl) ?_; dsimp only)); at_builtin; refine Kd.Q_append k31 (w0 := w) w.heap.size rfl (.tmp 58) (.tmp 61) 32 31 (.agg #[(.int .i64 0), (.int .i64 0)]) 16 rfl Tryz.underlying32 info31 rfl (by decide) (by omega) (.slice Ao21 t254.length co21) t254 (⟨t252, t253⟩ : S31) [.int .i64 t252, .int .i64 t253] (fun k_ => k_ ≠ gb265) (fun _ => False) rfl rfl ?aP (fun _ hk => hk.elim) ?aF ?aO ?aB ?aS ?aL ?_; (case aP => exact k31_mkM _ _ _ (⟨t252, t253⟩ : S31)); (case aB => exact (Z14 GE248 GE249 GE250 GE257 GE265)); (case aF => exact (fun k_ hk => Kd.freshB (sqK BK265) k_ hk)); (case aO => exact (Z10 HO_258002)); (case aS => exact (below_size (Z14 GE248 GE249 GE250 GE257 GE265))); (case aL => exact Z16 LMc85); intro v267 w111 ho hb hg hat; rw [← Ny266.out] at ho; replace BK248 := Aside0.mk (blk_grown (sqK BK248) hg (Kd.Q_ne HO_258002.out BK248.out (by decide))); replace BK249 := Aside0.mk (blk_grown (sqK BK249) hg (Kd.Q_ne HO_258002.out BK249.out (by decide))); replace BK250 := Aside0.mk (blk_grown (sqK BK250) hg (Kd.Q_ne HO_258002.out BK250.out (by decide))); replace BK257 := Aside0.mk (blk_grown (sqK BK257) hg (Kd.Q_ne HO_258002.out BK257.out (by decide))); replace BK265 := Aside0.mk (blk_grown (sqK BK265) hg (Kd.Q_away HO_258002.out (fun _ hk => hk))); replace HB := Aside0.mk (hb); have HO268 := Aside0.mk (ho); clear HO_258002; clear ho hb hg hat; obtain ⟨Ao112, co112, eo112, _⟩ := Kd.Q_slice HO268.out; subst eo112; obtain ⟨hcz113_0, hcz113_1, hcz113_2, hfz113_0, hfz113_1, hfz113_2⟩ := sqY3 BK257; have hnb114 := NB265_248.out; have hnc114 := NB248_265.out; have hnb115 := NB265_249.out; have hnc115 := NB249_265.out; have hnb116 := NB265_250.out; have hnc116 := NB250_265.out; obtain ⟨hcz117_0, hcz117_1, hfz117_0, hfz117_1⟩ := sqY2 BK265; have hnb118 := NB250_248.out; have hnc118 := NB248_250.out; have hnb119 := NB250_249.out; have hnc119 := NB249_250.out; obtain ⟨hcz120_0, hcz120_1, hcz120_2, hfz120_0, hfz120_1, hfz120_2⟩ := sqY3 BK250))
         refine bodyPost_ret (results_ct rfl _ _ gb250 34 #[.int .i64 t262, .int .i64 t263, .slice Ao112 y266.length co112] (0, 0) _ rfl (Z18 NB250_257 BK250) Tryz.underlying34 rfl (by kernel_rfl)) rfl ?_
         exact ⟨_, Z15, by (with_reducible repeat (first | apply Kd.Q_alloc | apply Kd.Q_drewN | apply Kd.Q_drew)); exact Kd.Q_mono (Kd.Q_far (p := ⟨gb250, 2, none⟩) (Kd.Q_far (p := ⟨gb250, 1, none⟩) (Kd.Q_far (p := ⟨gb250, 0, none⟩) (Kd.Q_far (p := ⟨gb257, 1, none⟩) (Kd.Q_far (p := ⟨gb257, 0, none⟩) (Kd.Q_far (p := ⟨gb257, 2, none⟩) (Kd.Q_types (Kd.Q_types HO268.out BK257.out (by decide)) BK250.out (by decide)) (fun _ hk => hk.1.2) (.slice Ao112 y266.length co112)) (fun _ hk => hk.1.2) (.int .i64 t262)) (fun _ hk => hk.1.2) (.int .i64 t263)) (fun _ hk => hk.2) (.int .i64 t262)) (fun _ hk => hk.2) (.int .i64 t263)) (fun _ hk => hk.2) (.slice Ao112 y266.length co112)) (fun _ hk => trivial), Z14 GE248 GE249 GE250 GE257 GE265⟩
 ·replace c4 := Bool.eq_false_iff.mpr c4
  subst c4
  rw [if_neg sqF] at H
  simp only [Option.some.injEq, Prod.mk.injEq] at H
  obtain ⟨rfl, rfl, rfl, rfl⟩ := H
  go_enter Tryz.func14, Tryz.ntmps14
  go_wp2_with (first | ((with_reducible refine gate_dst (N := 2) rfl ?_); (try (refine gate_guard (by rfl) ?_; dsimp only)); refine sqBox (N := 2) (cs := #[.int .i64 a0_0, .int .i64 a0_1, .slice A0_2 l0_2.length c0_2]) (t := 34) ?_; intro gb248 hg w121 BK248 hb; have GW248 := Aside0.mk ((sqG hg (sqB HB))); have GE248 := GW248; replace HB := sqS (sqB HB) hb; clear hb hg) | ((with_reducible refine gate_dst (N := 3) rfl ?_); (try (refine gate_guard (by rfl) ?_; dsimp only)); refine sqBox (N := 3) (cs := #[.int .i64 a1_0, .string a1_1]) (t := 38) ?_; intro gb249 hg w122 BK249 hb; have GW249 := Aside0.mk ((sqG hg (sqB1 HB GE248))); have GE249 := GW249; replace HB := sqS (sqB1 HB GE248) hb; obtain ⟨NB248_249, NB249_248⟩ := sqM hg BK248; replace BK248 := sqT BK248 hb; clear hb hg) | ((with_reducible refine gate_dst (N := 4) rfl ?_); (try (refine gate_guard (by rfl) ?_; dsimp only)); refine sqBox (N := 4) (cs := #[.int .i64 0, .int .i64 0, .slice none 0 0]) (t := 34) ?_; intro gb250 hg w123 BK250 hb; have GW250 := Aside0.mk ((sqG hg (sqB2 HB GE248 GE249))); have GE250 := GW250; replace HB := sqS (sqB2 HB GE248 GE249) hb; obtain ⟨NB248_250, NB250_248⟩ := sqM hg BK248; replace BK248 := sqT BK248 hb; obtain ⟨NB249_250, NB250_249⟩ := sqM hg BK249; replace BK249 := sqT BK249 hb; clear hb hg; have hnb124 := NB248_249.out; have hnc124 := NB249_248.out; have hnb125 := NB248_250.out; have hnc125 := NB250_248.out; obtain ⟨hcz126_0, hcz126_1, hcz126_2, hfz126_0, hfz126_1, hfz126_2⟩ := sqY3 BK248) | ((with_reducible refine gate_callee (f := 30) rfl ?_); refine goesL_ (some 11) rfl rfl Tryz.func30 (by kernel_rfl) rfl #[.agg #[.int .i64 a0_0, .int .i64 a0_1, .slice A0_2 l0_2.length c0_2]] rfl sqA ?_; (with_reducible refine (spec_DeskOk.calls k a0_0 a0_1 _ _ l0_2 false _ ?side1 ?side2 A3.out).mono ?_); (case side1 => exact Z1); (case side2 => exact HC0_2.out); rintro e w127 ⟨rfl, hb⟩; refine ⟨_, rfl, ?_⟩; replace BK248 := sqT BK248 hb; replace BK249 := sqT BK249 hb; replace BK250 := sqT BK250 hb; replace HB := sqS (sqB3 HB GE248 GE249 GE250) hb; (try clear hb); have hnb128 := NB250_249.out; have hnc128 := NB249_250.out; obtain ⟨hcz129_0, hcz129_1, hcz129_2, hfz129_0, hfz129_1, hfz129_2⟩ := sqY3 BK250))
  refine bodyPost_ret (results_ct rfl _ _ gb250 34 #[.int .i64 0, .int .i64 0, .slice none 0 0] (0, 0) _ rfl (Z19 BK250) Tryz.underlying34 rfl (by kernel_rfl)) rfl ?_
  exact ⟨_, Z15, Kd.Q_of_R Z20, sqB3 HB GE248 GE249 GE250⟩

/-! ### spec_l20Rd_pick: function 82 -/
def spec_l20Rd_pick.j0 : Nat → Int → Bool → List Int → Int → Option (Int × Int)
 | 0, _, _, _, _ => none
 | k + 1, x1, x24, x1000, x1001 => if x24 = true then (some (0, x1001)) else (if (wrap64 (x1001 - 1)) < (x1000.length : Int) then (if 0 ≤ (wrap64 (x1001 - 1)) then (if x1 = 0 then (none) else (some (Int.tmod (wrap64 (rd x1000 (wrap64 (x1001 - 1)))) x1, x1001))) else (none)) else (if (x1000.length : Int) = 0 then (none) else (if 0 ≤ (Int.tmod (wrap64 (x1001 - 1)) (x1000.length : Int)) then (if (Int.tmod (wrap64 (x1001 - 1)) (x1000.length : Int)) < (x1000.length : Int) then (if 0 ≤ (Int.tmod (wrap64 ((wrap64 ((wrap64 (x1001 - 1)) * 7)) + 3)) (x1000.length : Int)) then (if (Int.tmod (wrap64 ((wrap64 ((wrap64 (x1001 - 1)) * 7)) + 3)) (x1000.length : Int)) < (x1000.length : Int) then (if x1 = 0 then (none) else (some (Int.tmod (Go.bits .xor .i64 (wrap64 ((wrap64 ((wrap64 ((wrap64 ((wrap64 (rd x1000 (Int.tmod (wrap64 (x1001 - 1)) (x1000.length : Int)))) * 131)) + (wrap64 ((wrap64 (rd x1000 (Int.tmod (wrap64 ((wrap64 ((wrap64 (x1001 - 1)) * 7)) + 3)) (x1000.length : Int)))) * 1117)))) + (wrap64 ((wrap64 (x1001 - 1)) * 29)))) + (wrap64 ((wrap64 (Int.tdiv (wrap64 (x1001 - 1)) (x1000.length : Int))) * 53)))) (wrap64 (Int.tdiv (wrap64 ((wrap64 ((wrap64 ((wrap64 ((wrap64 (rd x1000 (Int.tmod (wrap64 (x1001 - 1)) (x1000.length : Int)))) * 131)) + (wrap64 ((wrap64 (rd x1000 (Int.tmod (wrap64 ((wrap64 ((wrap64 (x1001 - 1)) * 7)) + 3)) (x1000.length : Int)))) * 1117)))) + (wrap64 ((wrap64 (x1001 - 1)) * 29)))) + (wrap64 ((wrap64 (Int.tdiv (wrap64 (x1001 - 1)) (x1000.length : Int))) * 53)))) 64))) x1, x1001))) else (none)) else (none)) else (none)) else (none))))
def spec_l20Rd_pick.f (k : Nat) (s0_0 : List Int) (s0_1 : Int) (a1 : Int) : Option (Int × Int) := if a1 < 1 then (spec_l20Rd_pick.j0 k a1 true s0_0 (wrap64 (s0_1 + 1))) else (spec_l20Rd_pick.j0 k a1 ((s0_0.length : Int) == 0) s0_0 (wrap64 (s0_1 + 1)))
theorem spec_l20Rd_pick.mono_l : ∀ k, (∀ y0 y1 y2 y3, LeO (spec_l20Rd_pick.j0 k y0 y1 y2 y3) (spec_l20Rd_pick.j0 (k + 1) y0 y1 y2 y3))
 | 0 => fun _ _ _ _ r h => by simp [spec_l20Rd_pick.j0] at h
 | k + 1 => by
  have ih0 := spec_l20Rd_pick.mono_l k
  ·intro y0 y1 y2 y3
   unfold spec_l20Rd_pick.j0
   repeat' first
   | (with_reducible exact ih0 _ _ _ _)
   | (with_reducible exact LeO.refl _)
   | (with_reducible exact LeO.none _)
   | (with_reducible refine LeO.ite ?_ ?_)
   | (with_reducible refine LeO.bind ?_ (fun _ => ?_))
theorem spec_l20Rd_pick.mono : ∀ a0 a1 a2 k, LeO (spec_l20Rd_pick.f k a0 a1 a2) (spec_l20Rd_pick.f (k + 1) a0 a1 a2) := by
 intro a0 a1 a2 k
 have ih0 := spec_l20Rd_pick.mono_l k
 unfold spec_l20Rd_pick.f
 repeat' first
   | (with_reducible exact ih0 _ _ _ _)
   | (with_reducible exact LeO.refl _)
   | (with_reducible exact LeO.none _)
   | (with_reducible refine LeO.ite ?_ ?_)
   | (with_reducible refine LeO.bind ?_ (fun _ => ?_))
set_option maxHeartbeats 8000000 in
set_option maxRecDepth 100000 in
theorem spec_l20Rd_pick.calls (k : Nat) (g : Nat) (s0_0 : List Int) (s0_1 : Int) (a1 : Int) (r1 : Int) (r2 : Int) (w0 w : World) (hI : IsS131 w0 w g s0_0 s0_1) (hB : Below w0.heap.size w0 w) (h : spec_l20Rd_pick.f k s0_0 s0_1 a1 = some (r1, r2)) :
  Calls Tryz.prog 82 #[.pointer (some ⟨g, 0, none⟩), .int .i64 a1] w fun e w' => e = .returned (.int .i64 r1) ∧ IsS131 w0 w' g s0_0 r2 ∧ Below w0.heap.size w0 w' ∧ KeepBut w w' g none := by
 have HI0 := Aside0.mk hI
 have HK := Aside0.mk (KeepBut.refl w g none)
 have HL := Aside0.mk hB.size
 clear hI
 have HW0 := Aside0.mk hB.size
 have HB := Aside0.mk hB
 clear hB
 have H : (if a1 < 1 then (spec_l20Rd_pick.j0 k a1 true s0_0 (wrap64 (s0_1 + 1))) else (spec_l20Rd_pick.j0 k a1 ((s0_0.length : Int) == 0) s0_0 (wrap64 (s0_1 + 1)))) = some (r1, r2) := h
 clear h
 have HC3 := Aside0.mk H
 clear H
 obtain ⟨ASz4_0, cSz4_0, HGz4, hgz4, HSz4_0⟩ := HI0.out
 have hcz4_0 := cellS131_0 HGz4
 have hcz4_1 := cellS131_1 HGz4
 have hfz4_1 := blk_frozen HGz4 1
 clear HGz4 hgz4
 go_enter Tryz.func82, Tryz.ntmps82
 go_upto_region 2 with (fail)
 repeat (go_quiet (fail); go_upto_region 2 with (fail))
 go_cut [24] (fun v24 wc => ∃ (kq : Nat) (x24_2 : Bool), v24 = .bool x24_2 ∧ Aside0 (spec_l20Rd_pick.j0 kq a1 x24_2 s0_0 (wrap64 (s0_1 + 1)) = some (r1, r2)) ∧ Aside0 (kq ≤ k) ∧ Aside0 (IsS131 w0 wc g s0_0 (wrap64 (s0_1 + 1))) ∧ Aside0 (KeepBut w wc g none) ∧ Aside0 (Below w0.heap.size w0 wc))
 case first =>
  have H := HC3.out
  clear HC3
  by_cases c5 : a1 < 1
  ·rw [if_pos c5] at H
   have c5b0 : decide (a1 < 1) = true := decide_eq_true c5
   clear c5
   (first | rw [c5b0] | (simp only [i64_w, i32_w]; rw [c5b0]) | skip)
   have H' := Aside0.mk H
   clear H
   go_wp2
   repeat (go_quiet (fail); try go_wp2)
   go_meet
   case rel => exact ⟨_, (true), Z2, H', ⟨Z3⟩, ⟨Z21 HI0⟩, ⟨Z22⟩, ⟨Z23 HI0⟩⟩
  ·rw [if_neg c5] at H
   have c5b0 : decide (a1 < 1) = false := decide_eq_false c5
   clear c5
   (first | rw [c5b0] | (simp only [i64_w, i32_w]; rw [c5b0]) | skip)
   have H' := Aside0.mk H
   clear H
   obtain ⟨ASz6_0, cSz6_0, HGz6, hgz6, HSz6_0⟩ := HI0.out
   have hcz6_0 := cellS131_0 HGz6
   have hcz6_1 := cellS131_1 HGz6
   have hfz6_1 := blk_frozen HGz6 1
   clear HGz6 hgz6
   go_wp2
   repeat (go_quiet (fail); try go_wp2)
   go_meet
   case rel => exact ⟨_, (((s0_0.length : Int) == 0)), Z2, H', ⟨Z3⟩, ⟨Z21 HI0⟩, ⟨Z22⟩, ⟨Z23 HI0⟩⟩
 case rest =>
  clear HC3
  try clear p2; try clear c5; try clear c5b0; try clear p6; try clear hcz4_0; try clear hcz4_1; try clear hcz6_0; try clear hcz6_1; try clear hfz4_1; try clear hfz6_1
  obtain ⟨kq, x24_2, rfl, HA, HJ2, HI0, HK, HB⟩ := hcut
  cases kq with
  | zero => exact absurd HA.out (by simp [spec_l20Rd_pick.j0])
  | succ kj2 =>
   have H := HA.out
   clear HA
   simp only [spec_l20Rd_pick.j0] at H
   by_cases c7 : x24_2 = true
   ·subst c7
    rw [if_pos rfl] at H
    simp only [Option.some.injEq, Prod.mk.injEq] at H
    obtain ⟨rfl, rfl⟩ := H
    go_wp2
    repeat (go_quiet (fail); try go_wp2)
    go_ret
    exact ⟨Z15, Z21 HI0, Z23 HI0, Z22⟩
   ·replace c7 := Bool.eq_false_iff.mpr c7
    subst c7
    rw [if_neg sqF] at H
    by_cases c8 : (wrap64 ((wrap64 (s0_1 + 1)) - 1)) < (s0_0.length : Int)
    ·rw [if_pos c8] at H
     have c8b0 : decide ((wrap64 ((wrap64 (s0_1 + 1)) - 1)) < (s0_0.length : Int)) = true := decide_eq_true c8
     clear c8
     obtain ⟨ji9, hji9⟩ : ∃ j_ : Int, (wrap64 ((wrap64 (s0_1 + 1)) - 1)) = j_ := ⟨_, rfl⟩
     replace H : (if 0 ≤ (ji9) then (if a1 = 0 then (none) else (some (Int.tmod (wrap64 (rd s0_0 (ji9))) a1, (wrap64 (s0_1 + 1))))) else (none)) = some (r1, r2) := by first | (rw [hji9] at H; exact H) | (simp only [hji9] at H ⊢; exact H)
     (try rw [hji9] at c8b0)
     have hji9w : (IntKind.i64.wrap ((wrap64 (s0_1 + 1)) - 1)) = ji9 := (i64_w _).trans hji9
     obtain ⟨c10, H⟩ := sqI H
     have c10b0 : decide (0 ≤ (ji9)) = true := decide_eq_true c10
     clear c10
     by_cases c11 : a1 = 0
     ·rw [if_pos c11] at H
      exact absurd H (by simp)
     ·rw [if_neg c11] at H
      have c11b0 : (a1 == 0) = false := beq_eq_false_iff_ne.mpr c11
      have c11b1 : (a1 != 0) = true := bne_iff_ne.mpr c11
      simp only [Option.some.injEq, Prod.mk.injEq] at H
      obtain ⟨rfl, rfl⟩ := H
      obtain ⟨ASz12_0, cSz12_0, HGz12, hgz12, HSz12_0⟩ := HI0.out
      have hcz12_0 := cellS131_0 HGz12
      have hcz12_1 := cellS131_1 HGz12
      have hfz12_1 := blk_frozen HGz12 1
      clear HGz12 hgz12
      have p272 : 0 ≤ ((ji9) : Int) := of_decide_eq_true Z7
      have q272 : (ji9) < (s0_0.length : Int) := of_decide_eq_true Z7
      obtain ⟨ad272, e272, hx272_0⟩ := Kd.at_int HSz12_0 (ji9) p272 q272
      cases e272
      replace hx272_0 := pw_cell_below HB.out hx272_0
      replace p272 := eq_true p272
      replace q272 := eq_true q272
      go_wp2
      repeat (go_quiet (fail); try go_wp2)
      go_ret
      exact ⟨by first | rfl | (simp [errP_none, errP_some] <;> rfl) | (simp only [← hji9]; first | rfl | (simp [errP_none, errP_some] <;> rfl)) | (simp [*, errP_none, errP_some] <;> rfl), Z21 HI0, Z23 HI0, Z22⟩
    ·rw [if_neg c8] at H
     have c8b0 : decide ((wrap64 ((wrap64 (s0_1 + 1)) - 1)) < (s0_0.length : Int)) = false := decide_eq_false c8
     clear c8
     by_cases c13 : (s0_0.length : Int) = 0
     ·rw [if_pos c13] at H
      exact absurd H (by simp)
     ·rw [if_neg c13] at H
      have c13b0 : ((s0_0.length : Int) == 0) = false := beq_eq_false_iff_ne.mpr c13
      have c13b1 : ((s0_0.length : Int) != 0) = true := bne_iff_ne.mpr c13
      have c13b2 : ¬ (s0_0 = []) := fun h_ => c13 (by rw [h_]; rfl)
      obtain ⟨ji14, hji14⟩ : ∃ j_ : Int, (Int.tmod (wrap64 ((wrap64 (s0_1 + 1)) - 1)) (s0_0.length : Int)) = j_ := ⟨_, rfl⟩
      replace H : (if 0 ≤ (ji14) then (if (ji14) < (s0_0.length : Int) then (if 0 ≤ (Int.tmod (wrap64 ((wrap64 ((wrap64 ((wrap64 (s0_1 + 1)) - 1)) * 7)) + 3)) (s0_0.length : Int)) then (if (Int.tmod (wrap64 ((wrap64 ((wrap64 ((wrap64 (s0_1 + 1)) - 1)) * 7)) + 3)) (s0_0.length : Int)) < (s0_0.length : Int) then (if a1 = 0 then (none) else (some (Int.tmod (Go.bits .xor .i64 (wrap64 ((wrap64 ((wrap64 ((wrap64 ((wrap64 (rd s0_0 (ji14))) * 131)) + (wrap64 ((wrap64 (rd s0_0 (Int.tmod (wrap64 ((wrap64 ((wrap64 ((wrap64 (s0_1 + 1)) - 1)) * 7)) + 3)) (s0_0.length : Int)))) * 1117)))) + (wrap64 ((wrap64 ((wrap64 (s0_1 + 1)) - 1)) * 29)))) + (wrap64 ((wrap64 (Int.tdiv (wrap64 ((wrap64 (s0_1 + 1)) - 1)) (s0_0.length : Int))) * 53)))) (wrap64 (Int.tdiv (wrap64 ((wrap64 ((wrap64 ((wrap64 ((wrap64 (rd s0_0 (ji14))) * 131)) + (wrap64 ((wrap64 (rd s0_0 (Int.tmod (wrap64 ((wrap64 ((wrap64 ((wrap64 (s0_1 + 1)) - 1)) * 7)) + 3)) (s0_0.length : Int)))) * 1117)))) + (wrap64 ((wrap64 ((wrap64 (s0_1 + 1)) - 1)) * 29)))) + (wrap64 ((wrap64 (Int.tdiv (wrap64 ((wrap64 (s0_1 + 1)) - 1)) (s0_0.length : Int))) * 53)))) 64))) a1, (wrap64 (s0_1 + 1))))) else (none)) else (none)) else (none)) else (none)) = some (r1, r2) := by first | (rw [hji14] at H; exact H) | (simp only [hji14] at H ⊢; exact H)
      obtain ⟨c15, H⟩ := sqI H
      have c15b0 : decide (0 ≤ (ji14)) = true := decide_eq_true c15
      clear c15
      obtain ⟨c16, H⟩ := sqI H
      have c16b0 : decide ((ji14) < (s0_0.length : Int)) = true := decide_eq_true c16
      clear c16
      obtain ⟨ji17, hji17⟩ : ∃ j_ : Int, (Int.tmod (wrap64 ((wrap64 ((wrap64 ((wrap64 (s0_1 + 1)) - 1)) * 7)) + 3)) (s0_0.length : Int)) = j_ := ⟨_, rfl⟩
      replace H : (if 0 ≤ (ji17) then (if (ji17) < (s0_0.length : Int) then (if a1 = 0 then (none) else (some (Int.tmod (Go.bits .xor .i64 (wrap64 ((wrap64 ((wrap64 ((wrap64 ((wrap64 (rd s0_0 (ji14))) * 131)) + (wrap64 ((wrap64 (rd s0_0 (ji17))) * 1117)))) + (wrap64 ((wrap64 ((wrap64 (s0_1 + 1)) - 1)) * 29)))) + (wrap64 ((wrap64 (Int.tdiv (wrap64 ((wrap64 (s0_1 + 1)) - 1)) (s0_0.length : Int))) * 53)))) (wrap64 (Int.tdiv (wrap64 ((wrap64 ((wrap64 ((wrap64 ((wrap64 (rd s0_0 (ji14))) * 131)) + (wrap64 ((wrap64 (rd s0_0 (ji17))) * 1117)))) + (wrap64 ((wrap64 ((wrap64 (s0_1 + 1)) - 1)) * 29)))) + (wrap64 ((wrap64 (Int.tdiv (wrap64 ((wrap64 (s0_1 + 1)) - 1)) (s0_0.length : Int))) * 53)))) 64))) a1, (wrap64 (s0_1 + 1))))) else (none)) else (none)) = some (r1, r2) := by first | (rw [hji17] at H; exact H) | (simp only [hji17] at H ⊢; exact H)
      obtain ⟨c18, H⟩ := sqI H
      have c18b0 : decide (0 ≤ (ji17)) = true := decide_eq_true c18
      clear c18
      obtain ⟨c19, H⟩ := sqI H
      have c19b0 : decide ((ji17) < (s0_0.length : Int)) = true := decide_eq_true c19
      clear c19
      by_cases c20 : a1 = 0
      ·rw [if_pos c20] at H
       exact absurd H (by simp)
      ·rw [if_neg c20] at H
       have c20b0 : (a1 == 0) = false := beq_eq_false_iff_ne.mpr c20
       have c20b1 : (a1 != 0) = true := bne_iff_ne.mpr c20
       simp only [Option.some.injEq, Prod.mk.injEq] at H
       obtain ⟨rfl, rfl⟩ := H
       obtain ⟨ASz21_0, cSz21_0, HGz21, hgz21, HSz21_0⟩ := HI0.out
       have hcz21_0 := cellS131_0 HGz21
       have hcz21_1 := cellS131_1 HGz21
       have hfz21_1 := blk_frozen HGz21 1
       clear HGz21 hgz21
       have p273 : 0 ≤ ((ji14) : Int) := of_decide_eq_true Z7
       have q273 : (ji14) < (s0_0.length : Int) := of_decide_eq_true Z7
       obtain ⟨ad273, e273, hx273_0⟩ := Kd.at_int HSz21_0 (ji14) p273 q273
       cases e273
       replace hx273_0 := pw_cell_below HB.out hx273_0
       replace p273 := eq_true p273
       replace q273 := eq_true q273
       have p274 : 0 ≤ ((ji17) : Int) := of_decide_eq_true Z7
       have q274 : (ji17) < (s0_0.length : Int) := of_decide_eq_true Z7
       obtain ⟨ad274, e274, hx274_0⟩ := Kd.at_int HSz21_0 (ji17) p274 q274
       obtain rfl : ad273 = ad274 := (by injection e274)
       replace hx274_0 := pw_cell_below HB.out hx274_0
       replace p274 := eq_true p274
       replace q274 := eq_true q274
       go_wp2
       repeat (go_quiet (fail); try go_wp2)
       go_ret
       exact ⟨by first | rfl | (simp [errP_none, errP_some] <;> rfl) | (simp only [← hji14, ← hji17]; first | rfl | (simp [errP_none, errP_some] <;> rfl)) | (simp [*, errP_none, errP_some] <;> rfl), Z21 HI0, Z23 HI0, Z22⟩

end Go.Proofs.YtofmlbgfcohhoaaGreatDoor.PFnDeskRun
