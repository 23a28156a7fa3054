/- Lean functions of the Go functions that the law FnDeskDo reaches, each with its contract: made by a program of this session. -/
import Derived.Test.YtofmlbgfcohhoaaGreatDoorPFnDeskDox12
namespace Go.Proofs.YtofmlbgfcohhoaaGreatDoor.PFnDeskDo
open Go.RowKit Go.Proofs.YtofmlbgfcohhoaaGreatDoorW.PrintWords Go.Proofs.YtofmlbgfcohhoaaGreatDoorW.PrintLast Go.Proofs.YtofmlbgfcohhoaaGreatDoorW.PrintMore Go.Proofs.YtofmlbgfcohhoaaGreatDoor.Lib
attribute [local go_sem] max2_int min2_int max_two min_two max_three min_three max_four min_four   -- for this text's walks alone
set_option linter.unusedVariables false
set_option linter.unusedSimpArgs false

attribute [local go_sem high] eqA31 eqA38
/-! ### impl_deskDo: function 61 -/
def impl_deskDo.j0 : Nat → Bool → Int → Int → List (S31) → Int → Int → Option (Int × Int × (List (S31)) × Bool)
 | 0, _, _, _, _, _, _ => none
 | k + 1, x48, x333000, x333001, x333002, x347000, x347001 => if x48 = true then (some (x333000, x333001, x333002, false)) else (if x333002.length < 8796093022208 then ((some (x333002 ++ [(⟨x333000, x333001⟩ : S31)] : List (S31))).bind fun y347 => (if (y347.length : Int) > 8 then (if 1 ≤ (y347.length : Int) then ((impl_copyDesk.f x347000 x347001 (y347.drop (1 : Int).toNat)).bind fun bt353 => (some (bt353.1, bt353.2.1, bt353.2.2, true))) else (none)) else ((impl_copyDesk.f x347000 x347001 y347).bind fun bt358 => (some (bt358.1, bt358.2.1, bt358.2.2, true))))) else (none))
def impl_deskDo.f (k : Nat) (a0_0 : Int) (a0_1 : Int) (l0_2 : List (S31)) (a1_0 : Int) (a1_1 : ByteArray) : Option (Int × Int × (List (S31)) × Bool) := (impl_copyDesk.f a0_0 a0_1 l0_2).bind fun bt327 => (if (a1_0 == 4 && (a1_1.toList == ([] : List UInt8))) = true then (if (wrap64 ((bt327.2.2.length : Int) - 1)) < 0 then (some (bt327.1, bt327.2.1, bt327.2.2, false)) else (if 0 ≤ (wrap64 ((bt327.2.2.length : Int) - 1)) then (if (wrap64 ((bt327.2.2.length : Int) - 1)) < (bt327.2.2.length : Int) then (if (wrap64 ((bt327.2.2.length : Int) - 1)) ≤ (bt327.2.2.length : Int) then ((impl_copyDesk.f ((rd_T31 bt327.2.2 (wrap64 ((bt327.2.2.length : Int) - 1))).f0) ((rd_T31 bt327.2.2 (wrap64 ((bt327.2.2.length : Int) - 1))).f1) (bt327.2.2.take ((wrap64 ((bt327.2.2.length : Int) - 1)) : Int).toNat)).bind fun bt338 => (some (bt338.1, bt338.2.1, bt338.2.2, true))) else (none)) else (none)) else (none))) else ((impl_nextFraction.f k a0_0 a0_1 a1_0 a1_1).bind fun bt343 => (if bt343.2.2 = true then (impl_deskDo.j0 k (bt343.1 == a0_0 && (bt343.2.1 == a0_1)) bt327.1 bt327.2.1 bt327.2.2 bt343.1 bt343.2.1) else (impl_deskDo.j0 k true bt327.1 bt327.2.1 bt327.2.2 bt343.1 bt343.2.1))))
theorem impl_deskDo.mono_l : ∀ k, (∀ y0 y1 y2 y3 y4 y5, LeO (impl_deskDo.j0 k y0 y1 y2 y3 y4 y5) (impl_deskDo.j0 (k + 1) y0 y1 y2 y3 y4 y5))
 | 0 => fun _ _ _ _ _ _ r h => by simp [impl_deskDo.j0] at h
 | k + 1 => by
  have ih0 := impl_deskDo.mono_l k
  ·intro y0 y1 y2 y3 y4 y5
   unfold impl_deskDo.j0
   repeat' first
   | (with_reducible exact ih0 _ _ _ _ _ _)
   | (with_reducible exact impl_nextFraction.mono _ _ _ _ _)
   | (with_reducible exact LeO.refl _)
   | (with_reducible exact LeO.none _)
   | (with_reducible refine LeO.ite ?_ ?_)
   | (with_reducible refine LeO.bind ?_ (fun _ => ?_))
theorem impl_deskDo.mono : ∀ a0 a1 a2 a3 a4 k, LeO (impl_deskDo.f k a0 a1 a2 a3 a4) (impl_deskDo.f (k + 1) a0 a1 a2 a3 a4) := by
 intro a0 a1 a2 a3 a4 k
 have ih0 := impl_deskDo.mono_l k
 unfold impl_deskDo.f
 repeat' first
   | (with_reducible exact ih0 _ _ _ _ _ _)
   | (with_reducible exact impl_nextFraction.mono _ _ _ _ _)
   | (with_reducible exact LeO.refl _)
   | (with_reducible exact LeO.none _)
   | (with_reducible refine LeO.ite ?_ ?_)
   | (with_reducible refine LeO.bind ?_ (fun _ => ?_))
def impl_deskDo.T6 : Bool × List (List Nat × List Nat) := (true, [([], []), ([0], [0]), ([], []), ([1, 2], [1, 2]), ([3], [3]), ([], []), ([5], [5]), ([], []), ([6, 7], [6, 7]), ([4, 8], [4, 8]), ([9], [9]), ([10, 10, 0, 1, 2, 3, 4, 5, 6, 7, 8, 9, 10], [10]), ([11, 0, 1, 2, 3, 4, 5, 6, 7, 8, 9, 10, 11], [])])
def impl_deskDo.B6 : List Nat := [0, 1, 0, 7, 15, 0, 32, 0, 224, 511, 1023, 2047, 4095]
theorem impl_deskDo.tab6 : rtab .any (opsOf Tryz.f61 6) = impl_deskDo.T6 := by kernel_rfl
theorem impl_deskDo.bits6 : waitsOk impl_deskDo.T6.2 impl_deskDo.B6 = true := by kernel_rfl
set_option maxHeartbeats 8000000 in
set_option maxRecDepth 100000 in
theorem impl_deskDo.calls (k : Nat) (a0_0 : Int) (a0_1 : Int) (A0_2 : Option Addr) (c0_2 : Nat) (l0_2 : List (S31)) (a1_0 : Int) (a1_1 : ByteArray) (r1 : Int) (r2 : Int) (r3 : List (S31)) (r4 : Bool) (w : World) (hG : Glob w) (hr0_2 : Kd.C k31 w A0_2 l0_2.length l0_2) (hc0_2 : l0_2.length ≤ c0_2) (h : impl_deskDo.f k a0_0 a0_1 l0_2 a1_0 a1_1 = some (r1, r2, r3, r4)) :
  Calls Tryz.prog 61 #[.agg #[.int .i64 a0_0, .int .i64 a0_1, .slice A0_2 l0_2.length c0_2], .agg #[.int .i64 a1_0, .string a1_1]] w fun e w' => ∃ v2_ : Value, e = .returned (.tuple #[.agg #[.int .i64 r1, .int .i64 r2, v2_], .bool r4]) ∧ Kd.R k31 31 w' w.heap.size (fun _ => True) v2_ r3 ∧ Below w.heap.size w w' := by
 have hu34 := Tryz.underlying34
 have hu38 := Tryz.underlying38
 have hu31 := Tryz.underlying31
 have HR0_2 := Aside0.mk hr0_2
 have HC0_2 := Aside0.mk hc0_2
 clear hr0_2 hc0_2
 have HB := Aside0.mk (Below.refl w.heap.size w)
 have H : ((impl_copyDesk.f a0_0 a0_1 l0_2).bind fun bt327 => (if (a1_0 == 4 && (a1_1.toList == ([] : List UInt8))) = true then (if (wrap64 ((bt327.2.2.length : Int) - 1)) < 0 then (some (bt327.1, bt327.2.1, bt327.2.2, false)) else (if 0 ≤ (wrap64 ((bt327.2.2.length : Int) - 1)) then (if (wrap64 ((bt327.2.2.length : Int) - 1)) < (bt327.2.2.length : Int) then (if (wrap64 ((bt327.2.2.length : Int) - 1)) ≤ (bt327.2.2.length : Int) then ((impl_copyDesk.f ((rd_T31 bt327.2.2 (wrap64 ((bt327.2.2.length : Int) - 1))).f0) ((rd_T31 bt327.2.2 (wrap64 ((bt327.2.2.length : Int) - 1))).f1) (bt327.2.2.take ((wrap64 ((bt327.2.2.length : Int) - 1)) : Int).toNat)).bind fun bt338 => (some (bt338.1, bt338.2.1, bt338.2.2, true))) else (none)) else (none)) else (none))) else ((impl_nextFraction.f k a0_0 a0_1 a1_0 a1_1).bind fun bt343 => (if bt343.2.2 = true then (impl_deskDo.j0 k (bt343.1 == a0_0 && (bt343.2.1 == a0_1)) bt327.1 bt327.2.1 bt327.2.2 bt343.1 bt343.2.1) else (impl_deskDo.j0 k true bt327.1 bt327.2.1 bt327.2.2 bt343.1 bt343.2.1))))) = some (r1, r2, r3, r4) := h
 clear h
 obtain ⟨⟨t327, t328, t329⟩, A3, H⟩ := sqD H
 try dsimp only at H
 by_cases c4 : (a1_0 == 4 && (a1_1.toList == ([] : List UInt8))) = true
 ·rw [if_pos c4] at H
  have c4b0 : (a1_0 == 4 && (a1_1.toList == ([] : List UInt8))) = true := c4
  try have c4b8 : (a1_0 == 4 && a1_1.toList.isEmpty) = true := by (have h_ := c4b0; (repeat rw [show ∀ z : List UInt8, (z == ([] : List UInt8)) = z.isEmpty from fun z => by cases z <;> rfl] at h_); exact h_)
  (try (have c4b1 : decide (a1_0 = 4 && (a1_1.toList == ([] : List UInt8))) = true := by simpa using c4))
  (try (have c4b2 : (a1_0 == 4 && (a1_1.toList == ([] : List UInt8))) = true := by simpa using c4))
  clear c4
  by_cases c5 : (wrap64 ((t329.length : Int) - 1)) < 0
  ·rw [if_pos c5] at H
   have c5b0 : decide ((wrap64 ((t329.length : Int) - 1)) < 0) = true := decide_eq_true c5
   clear c5
   obtain ⟨rfl, rfl, rfl, rfl⟩ := sqO4 H
   go_enter Tryz.func61, Tryz.ntmps61
   go_wp2_with (first | ((with_reducible refine gate_dst (N := 2) rfl ?_); refine sqBox (N := 2) (cs := #[.int .i64 a0_0, .int .i64 a0_1, .slice A0_2 l0_2.length c0_2]) (t := 34) ?_; intro gb324 hg w6 BK324 hb; have GW324 := Aside0.mk ((sqG hg (sqB HB))); have GE324 := GW324; replace HB := sqS (sqB HB) hb; clear hb hg) | ((with_reducible refine gate_dst (N := 3) rfl ?_); refine sqBox (N := 3) (cs := #[.int .i64 a1_0, .string a1_1]) (t := 38) ?_; intro gb325 hg w7 BK325 hb; have GW325 := Aside0.mk ((sqG hg (sqB1 HB GE324))); have GE325 := GW325; replace HB := sqS (sqB1 HB GE324) hb; obtain ⟨NB324_325, NB325_324⟩ := sqM hg BK324; replace BK324 := sqT BK324 hb; clear hb hg) | ((with_reducible refine gate_dst (N := 4) rfl ?_); refine sqBox (N := 4) (cs := #[.int .i64 0, .int .i64 0, .slice none 0 0]) (t := 34) ?_; intro gb326 hg w8 BK326 hb; have GW326 := Aside0.mk ((sqG hg (sqB2 HB GE324 GE325))); have GE326 := GW326; replace HB := sqS (sqB2 HB GE324 GE325) hb; obtain ⟨NB324_326, NB326_324⟩ := sqM hg BK324; replace BK324 := sqT BK324 hb; obtain ⟨NB325_326, NB326_325⟩ := sqM hg BK325; replace BK325 := sqT BK325 hb; clear hb hg; have hnb9 := NB324_325.out; have hnc9 := NB325_324.out; have hnb10 := NB324_326.out; have hnc10 := NB326_324.out; obtain ⟨hcz11_0, hcz11_1, hcz11_2, hfz11_0, hfz11_1, hfz11_2⟩ := sqY3 BK324) | ((with_reducible refine gate_callee (f := 76) rfl ?_); refine goesL_ (some 12) rfl rfl Tryz.func76 (by kernel_rfl) rfl #[.agg #[.int .i64 a0_0, .int .i64 a0_1, .slice A0_2 l0_2.length c0_2]] rfl sqA ?_; (with_reducible refine (impl_copyDesk.calls a0_0 a0_1 _ _ l0_2 t327 t328 t329 _ ?side1 ?side2 A3.out).mono ?_); (case side1 => exact Z6); (case side2 => exact HC0_2.out); rintro e w12 ⟨v330, rfl, ho0, hb⟩; refine ⟨_, rfl, ?_⟩; have HO331 := sqL ho0 (sqB3 HB GE324 GE325 GE326); replace BK324 := sqT BK324 hb; replace BK325 := sqT BK325 hb; replace BK326 := sqT BK326 hb; replace HB := sqS (sqB3 HB GE324 GE325 GE326) hb; (try clear hb); (try clear ho0)) | ((with_reducible refine gate_dst (N := 6) rfl ?_); refine sqBox (N := 6) (cs := #[.int .i64 0, .int .i64 0, .slice none 0 0]) (t := 34) ?_; intro gb332 hg w13 BK332 hb; replace HO331 := sqU HO331 hb; have GW332 := Aside0.mk ((sqG hg (sqB3 HB GE324 GE325 GE326))); have GE332 := GW332; replace HB := sqS (sqB3 HB GE324 GE325 GE326) hb; obtain ⟨NB324_332, NB332_324⟩ := sqM hg BK324; replace BK324 := sqT BK324 hb; obtain ⟨NB325_332, NB332_325⟩ := sqM hg BK325; replace BK325 := sqT BK325 hb; obtain ⟨NB326_332, NB332_326⟩ := sqM hg BK326; replace BK326 := sqT BK326 hb; clear hb hg; have hnb14 := NB332_324.out; have hnc14 := NB324_332.out; have hnb15 := NB332_325.out; have hnc15 := NB325_332.out; have hnb16 := NB332_326.out; have hnc16 := NB326_332.out; obtain ⟨hcz17_0, hcz17_1, hcz17_2, hfz17_0, hfz17_1, hfz17_2⟩ := sqY3 BK332; obtain ⟨Ao18, co18, eo18⟩ := Kd.R_slice HO331.out; subst eo18; have hnb19 := NB325_326.out; have hnc19 := NB326_325.out; obtain ⟨hcz20_0, hcz20_1, hfz20_0, hfz20_1⟩ := sqY2 BK325; obtain ⟨hcz21_0, hcz21_1, hcz21_2, hfz21_0, hfz21_1, hfz21_2⟩ := sqY3 BK326))
   refine bodyPost_ret (results_ct rfl _ _ gb326 34 #[.int .i64 t327, .int .i64 t328, .slice Ao18 t329.length co18] (0, 0) _ rfl (by refine sqPut (cs := #[.int .i64 t327, .int .i64 t328, .slice none 0 0]) ?_ 2; refine sqPut (cs := #[.int .i64 t327, .int .i64 0, .slice none 0 0]) ?_ 1; refine sqPut (cs := #[.int .i64 0, .int .i64 0, .slice none 0 0]) ?_ 0; refine sqFar ?_ NB326_332; refine sqFar ?_ NB326_332; refine sqFar ?_ NB326_332; exact sqK BK326) Tryz.underlying34 rfl (by kernel_rfl)) rfl ?_
   exact ⟨_, Z3, by (with_reducible repeat (first | apply Kd.R_alloc | apply Kd.R_drewN | apply Kd.R_drew)); exact Kd.R_mono (Kd.R_far (p := ⟨gb326, 2, none⟩) (Kd.R_far (p := ⟨gb326, 1, none⟩) (Kd.R_far (p := ⟨gb326, 0, none⟩) (Kd.R_far (p := ⟨gb332, 2, none⟩) (Kd.R_far (p := ⟨gb332, 1, none⟩) (Kd.R_far (p := ⟨gb332, 0, none⟩) (Kd.R_types (Kd.R_types HO331.out BK332.out (by decide)) BK326.out (by decide)) (fun _ hk => hk.1.2) (.int .i64 t327)) (fun _ hk => hk.1.2) (.int .i64 t328)) (fun _ hk => hk.1.2) (.slice Ao18 t329.length co18)) (fun _ hk => hk.2) (.int .i64 t327)) (fun _ hk => hk.2) (.int .i64 t328)) (fun _ hk => hk.2) (.slice Ao18 t329.length co18)) (fun _ hk => trivial), sqB4 HB GE324 GE325 GE326 GE332⟩
  ·rw [if_neg c5] at H
   have c5b0 : decide ((wrap64 ((t329.length : Int) - 1)) < 0) = false := decide_eq_false c5
   clear c5
   obtain ⟨ji22, hji22⟩ : ∃ j_ : Int, (wrap64 ((t329.length : Int) - 1)) = j_ := ⟨_, rfl⟩
   replace H : (if 0 ≤ (ji22) then (if (ji22) < (t329.length : Int) then (if (ji22) ≤ (t329.length : Int) then ((impl_copyDesk.f ((rd_T31 t329 (ji22)).f0) ((rd_T31 t329 (ji22)).f1) (t329.take ((ji22) : Int).toNat)).bind fun bt338 => (some (bt338.1, bt338.2.1, bt338.2.2, true))) else (none)) else (none)) else (none)) = some (r1, r2, r3, r4) := by first | (rw [hji22] at H; exact H) | (simp only [hji22] at H ⊢; exact H)
   (try rw [hji22] at c5b0)
   (try rw [hji22] at A3)
   have hji22w : (IntKind.i64.wrap ((t329.length : Int) - 1)) = ji22 := (i64_w _).trans hji22
   obtain ⟨c23, H⟩ := sqI H
   have c23b0 : decide (0 ≤ (ji22)) = true := decide_eq_true c23
   clear c23
   obtain ⟨c24, H⟩ := sqI H
   have c24b0 : decide ((ji22) < (t329.length : Int)) = true := decide_eq_true c24
   clear c24
   have c25b0 := eq_true (of_decide_eq_true Z2 : 0 ≤ (ji22))
   obtain ⟨c26, H⟩ := sqI H
   have c26b0 := eq_true c26
   have c26b1 : decide ((ji22) ≤ (t329.length : Int)) = true := decide_eq_true c26
   clear c26
   obtain ⟨y334, hy334⟩ : ∃ y_ : List (S31), y_ = (t329.take ((ji22) : Int).toNat) := ⟨_, rfl⟩
   replace H : ((impl_copyDesk.f ((rd_T31 t329 (ji22)).f0) ((rd_T31 t329 (ji22)).f1) y334).bind fun bt338 => (some (bt338.1, bt338.2.1, bt338.2.2, true))) = some (r1, r2, r3, r4) := sqW hy334 H
   have Ny334 := Aside0.mk hy334
   clear hy334
   obtain ⟨⟨t338, t339, t340⟩, A27, H⟩ := sqD H
   try dsimp only at H
   obtain ⟨rfl, rfl, rfl, rfl⟩ := sqO4 H
   go_enter Tryz.func61, Tryz.ntmps61
   try go_wp2_with (first | ((with_reducible refine gate_dst (N := 2) rfl ?_); refine sqBox (N := 2) (cs := #[.int .i64 a0_0, .int .i64 a0_1, .slice A0_2 l0_2.length c0_2]) (t := 34) ?_; intro gb324 hg w28 BK324 hb; have GW324 := Aside0.mk ((sqG hg (sqB HB))); have GE324 := GW324; replace HB := sqS (sqB HB) hb; clear hb hg) | ((with_reducible refine gate_dst (N := 3) rfl ?_); refine sqBox (N := 3) (cs := #[.int .i64 a1_0, .string a1_1]) (t := 38) ?_; intro gb325 hg w29 BK325 hb; have GW325 := Aside0.mk ((sqG hg (sqB1 HB GE324))); have GE325 := GW325; replace HB := sqS (sqB1 HB GE324) hb; obtain ⟨NB324_325, NB325_324⟩ := sqM hg BK324; replace BK324 := sqT BK324 hb; clear hb hg) | ((with_reducible refine gate_dst (N := 4) rfl ?_); refine sqBox (N := 4) (cs := #[.int .i64 0, .int .i64 0, .slice none 0 0]) (t := 34) ?_; intro gb326 hg w30 BK326 hb; have GW326 := Aside0.mk ((sqG hg (sqB2 HB GE324 GE325))); have GE326 := GW326; replace HB := sqS (sqB2 HB GE324 GE325) hb; obtain ⟨NB324_326, NB326_324⟩ := sqM hg BK324; replace BK324 := sqT BK324 hb; obtain ⟨NB325_326, NB326_325⟩ := sqM hg BK325; replace BK325 := sqT BK325 hb; clear hb hg; have hnb31 := NB324_325.out; have hnc31 := NB325_324.out; have hnb32 := NB324_326.out; have hnc32 := NB326_324.out; obtain ⟨hcz33_0, hcz33_1, hcz33_2, hfz33_0, hfz33_1, hfz33_2⟩ := sqY3 BK324) | ((with_reducible refine gate_callee (f := 76) rfl ?_); refine goesL_ (some 12) rfl rfl Tryz.func76 (by kernel_rfl) rfl #[.agg #[.int .i64 a0_0, .int .i64 a0_1, .slice A0_2 l0_2.length c0_2]] rfl sqA ?_; (with_reducible refine (impl_copyDesk.calls a0_0 a0_1 _ _ l0_2 t327 t328 t329 _ ?side1 ?side2 A3.out).mono ?_); (case side1 => exact Z6); (case side2 => exact HC0_2.out); rintro e w34 ⟨v330, rfl, ho0, hb⟩; refine ⟨_, rfl, ?_⟩; have HO331 := sqL ho0 (sqB3 HB GE324 GE325 GE326); replace BK324 := sqT BK324 hb; replace BK325 := sqT BK325 hb; replace BK326 := sqT BK326 hb; replace HB := sqS (sqB3 HB GE324 GE325 GE326) hb; (try clear hb); (try clear ho0)) | ((with_reducible refine gate_dst (N := 6) rfl ?_); refine sqBox (N := 6) (cs := #[.int .i64 0, .int .i64 0, .slice none 0 0]) (t := 34) ?_; intro gb332 hg w35 BK332 hb; replace HO331 := sqU HO331 hb; have GW332 := Aside0.mk ((sqG hg (sqB3 HB GE324 GE325 GE326))); have GE332 := GW332; replace HB := sqS (sqB3 HB GE324 GE325 GE326) hb; obtain ⟨NB324_332, NB332_324⟩ := sqM hg BK324; replace BK324 := sqT BK324 hb; obtain ⟨NB325_332, NB332_325⟩ := sqM hg BK325; replace BK325 := sqT BK325 hb; obtain ⟨NB326_332, NB332_326⟩ := sqM hg BK326; replace BK326 := sqT BK326 hb; clear hb hg; have hnb36 := NB332_324.out; have hnc36 := NB324_332.out; have hnb37 := NB332_325.out; have hnc37 := NB325_332.out; have hnb38 := NB332_326.out; have hnc38 := NB326_332.out; obtain ⟨hcz39_0, hcz39_1, hcz39_2, hfz39_0, hfz39_1, hfz39_2⟩ := sqY3 BK332; obtain ⟨Ao40, co40, eo40⟩ := Kd.R_slice HO331.out; subst eo40; have hnb41 := NB325_326.out; have hnc41 := NB326_325.out; obtain ⟨hcz42_0, hcz42_1, hfz42_0, hfz42_1⟩ := sqY2 BK325))
   obtain ⟨w43, hw_⟩ : ∃ w_, ((w35.setCell ⟨gb332, 0, none⟩ (.int .i64 t327)).setCell ⟨gb332, 1, none⟩ (.int .i64 t328)).setCell ⟨gb332, 2, none⟩ (.slice Ao40 t329.length co40) = w_ := ⟨_, rfl⟩
   replace HO331 : Aside0 (Kd.R k31 31 w43 w.heap.size (fun _ => True) (.slice Ao40 t329.length co40) t329) := by rw [← hw_]; exact ⟨by (with_reducible repeat (first | apply Kd.R_alloc | apply Kd.R_drewN | apply Kd.R_drew)); exact Kd.R_mono (Kd.R_far (p := ⟨gb332, 2, none⟩) (Kd.R_far (p := ⟨gb332, 1, none⟩) (Kd.R_far (p := ⟨gb332, 0, none⟩) (Kd.R_types HO331.out BK332.out (by decide)) (fun _ hk => hk.2) (.int .i64 t327)) (fun _ hk => hk.2) (.int .i64 t328)) (fun _ hk => hk.2) (.slice Ao40 t329.length co40)) (fun _ hk => trivial)⟩
   replace BK324 : Aside0 (w43.heap[gb324]? = some (.cells #[.int .i64 a0_0, .int .i64 a0_1, .slice A0_2 l0_2.length c0_2] 34 (0, 0))) := by rw [← hw_]; exact ⟨Z20 NB324_332 BK324⟩
   replace BK325 : Aside0 (w43.heap[gb325]? = some (.cells #[.int .i64 a1_0, .string a1_1] 38 (0, 0))) := by rw [← hw_]; exact ⟨Z20 NB325_332 BK325⟩
   replace BK326 : Aside0 (w43.heap[gb326]? = some (.cells #[.int .i64 0, .int .i64 0, .slice none 0 0] 34 (0, 0))) := by rw [← hw_]; exact ⟨Z20 NB326_332 BK326⟩
   replace BK332 : Aside0 (w43.heap[gb332]? = some (.cells #[.int .i64 t327, .int .i64 t328, .slice Ao40 t329.length co40] 34 (0, 0))) := by rw [← hw_]; exact ⟨Z21 BK332⟩
   replace HB : Aside0 (Below w.heap.size w w43) := by rw [← hw_]; exact ⟨sqB4 HB GE324 GE325 GE326 GE332⟩
   rw [hw_]; clear hw_
   replace HO331 := Aside0.mk (Kd.R_drew HO331.out)
   replace BK324 := Aside0.mk (blk_drew BK324.out)
   replace BK325 := Aside0.mk (blk_drew BK325.out)
   replace BK326 := Aside0.mk (blk_drew BK326.out)
   replace BK332 := Aside0.mk (blk_drew BK332.out)
   replace HB := Aside0.mk (below_drew1 HB.out)
   have p333 : 0 ≤ ((ji22) : Int) := of_decide_eq_true Z2
   have q333 : (ji22) < (t329.length : Int) := of_decide_eq_true Z2
   obtain ⟨ad333, e333, hx333_0, hx333_1⟩ := at_T31 (Kd.R_reads' HO331.out).2.2 (ji22) p333 q333
   cases e333
   replace p333 := eq_true p333
   replace q333 := eq_true q333
   have q45 : ((ji22) : Int) ≤ ((t329.length : Int) : Int) := of_decide_eq_true Z2
   obtain ⟨i045, hi045, _, hsz45, _⟩ := info_parts info31
   have hroom45 : t329.length ≤ co40 := (Kd.R_reads' HO331.out).2.1
   have hC45 : Kd.C k31 _ (some ad333) t329.length t329 := (Kd.R_reads' HO331.out).2.2
   have hcut45 := cut_to (P := Tryz.prog) 32 31 .i64 Tryz.underlying32 hi045 (some ad333) t329.length co40 (ji22) (of_decide_eq_true Z2) q45 hroom45
   have hr45 := Kd.C_take (m := ((ji22) : Int).toNat) hC45 (by omega)
   have hy45 : y334.length = ((ji22) : Int).toNat := (by rw [Ny334.out, List.length_take]; omega)
   rw [← Ny334.out] at hr45
   rw [← hy45] at hcut45
   have HR337 := Aside0.mk hr45
   have HC337 := Aside0.mk (show y334.length ≤ co40 from by omega)
   clear hr45 hC45 hroom45 hi045 hsz45
   have KY45 := Aside0.mk hy45
   clear hy45
   have KL45 := Aside0.mk (show ((ji22) : Int).toNat ≤ t329.length from by omega)
   replace q45 := eq_true q45
   refine start_ (n := 13) (S := fun w' => w'.cell? ⟨gb332, 0, none⟩ = some (.int .i64 t327) ∧ w'.cell? ⟨gb332, 1, none⟩ = some (.int .i64 t328) ∧ w'.cell? ⟨gb332, 2, none⟩ = some (.slice (some ad333) t329.length co40) ∧ w'.cell? (ad333.add (((ji22)).toNat * 2)) = some (.int .i64 ((rd_T31 t329 (ji22)).f0)) ∧ w'.cell? ⟨(ad333.add (((ji22)).toNat * 2)).block, (ad333.add (((ji22)).toNat * 2)).off + 1, none⟩ = some (.int .i64 ((rd_T31 t329 (ji22)).f1))) (ds := []) #[false, false, false, false, false, false, false, false, false, false, false, false, false] (by kernel_rfl) rfl rfl ⟨(blk_cell BK332.out 0).trans rfl, (blk_cell BK332.out 1).trans rfl, (blk_cell BK332.out 2).trans rfl, hx333_0, hx333_1⟩ (fun hHeld => ?_); refine with_tabW impl_deskDo.tab6 impl_deskDo.bits6 (fun HT_ HW_ => ?_)
   generalize w43.drew = w44 at HO331 BK324 BK325 BK326 BK332 HB HR337 hx333_0 hx333_1 hHeld ⊢
   refine sqP (i := 0) (N := some 23) (h := ?_)
   refine sqP (i := 2) (N := some 25) (h := ?_)
   refine sqP (i := 5) (N := some 28) (h := ?_)
   refine sqP (i := 7) (N := some 30) (h := ?_)
   refine sqQ (i := 1) (N := some 24) hHeld (h := ?_)
   refine sqP (i := 3) (N := some 26) (h := ?_)
   refine sqQ (i := 4) (N := some 27) hHeld (h := ?_)
   refine sqQ (i := 6) (N := some 29) hHeld (h := ?_)
   refine sqP (i := 8) (N := some 31) (h := ?_)
   refine sqP (i := 9) (N := some 32) (h := ?_)
   refine one_ (i := 10) (N := some 33) #[true, true, true, true, true, true, true, true, true, true, true, false, false] rfl rfl (one_of HT_.out (by kernel_rfl)) (by decide) (fun K hK => ?_)
   refine goes_ Tryz.func76 (by kernel_rfl) rfl #[.agg #[.int .i64 ((rd_T31 t329 (ji22)).f0), .int .i64 ((rd_T31 t329 (ji22)).f1), .slice (some ad333) y334.length co40]] (by rfl) rfl rfl (by (try simp only [List.map_toArray, List.map_cons, List.map_nil]); first | done | (simp only [hji22]; rfl) | rfl | (simp only [List.length_drop, List.length_take]; rfl)) ?_
   with_reducible refine (impl_copyDesk.calls ((rd_T31 t329 (ji22)).f0) ((rd_T31 t329 (ji22)).f1) _ _ y334 t338 t339 t340 _ ?side1 ?side2 A27.out).mono ?_
   (case side1 => repeat (first | exact (Z22 HR337) | (with_reducible refine Kd.C_alloc ?_ _) | (with_reducible refine Kd.C_drewN ?_ _) | (with_reducible refine Kd.C_drew ?_)))
   (case side2 => exact HC337.out)
   rintro e w46 ⟨v341, rfl, ho0, hb⟩
   have HS3_ := (hb.cell (World.block_lt_of_cell? _ _ (hHeld.2.2.2.1))).trans (hHeld.2.2.2.1)
   have HS4_ := (hb.cell (World.block_lt_of_cell? _ _ (hHeld.2.2.2.2))).trans (hHeld.2.2.2.2)
   refine ⟨_, rfl, ?_⟩
   have HO342 := Aside0.mk (Kd.R_lower (Kd.R_new' ho0 (Kd.R_lt (sqR HO331))) (below_size (sqB4 HB GE324 GE325 GE326 GE332)))
   replace HO331 := Aside0.mk (Kd.R_elder' (sqR HO331) (Kd.R_base ho0) hb)
   replace BK324 := sqT BK324 hb
   replace BK325 := sqT BK325 hb
   replace BK326 := sqT BK326 hb
   replace BK332 := sqT BK332 hb
   replace HR337 := Aside0.mk (Kd.C_below (Z22 HR337) hb)
   replace HB := sqS (sqB4 HB GE324 GE325 GE326 GE332) hb
   (try clear hb)
   (try clear hb2)
   (try clear hk)
   (try clear hi)
   (try clear ho0)
   obtain ⟨Ao49, co49, eo49⟩ := Kd.R_slice HO342.out
   (first | subst eo49 | (injection eo49 with f1_ f2_ f3_; have f4_ := f1_.symm; have f5_ := f3_.symm; clear f1_ f2_ f3_; subst f4_; subst f5_))
   refine hK.out _ _ ⟨(blk_cell BK332.out 0).trans rfl, (blk_cell BK332.out 1).trans rfl, (blk_cell BK332.out 2).trans rfl, HS3_, HS4_⟩ (fun hHeld => ?_)
   clear hK K
   refine sqN (some 33) ?_
   refine one_ (i := 11) (N := none) #[true, true, true, true, true, true, true, true, true, true, true, true, false] rfl rfl (one_of HT_.out (by kernel_rfl)) (by decide) (fun K hK => ?_)
   have hs47 : w46.cell? ⟨gb326, 0, none⟩ = some (.int .i64 0) := (blk_cell BK326.out 0).trans rfl
   have hfs47 := blk_frozen BK326.out 0
   have hns47_0 := NB324_326.out
   have hns47_1 := NB325_326.out
   have hns47_3 := NB332_326.out
   have hms47_0 := NB326_324.out
   have hms47_1 := NB326_325.out
   have hms47_3 := NB326_332.out
   have hs48 : w46.cell? ⟨gb326, 1, none⟩ = some (.int .i64 0) := (blk_cell BK326.out 1).trans rfl
   have hfs48 := blk_frozen BK326.out 1
   have hns48_0 := NB324_326.out
   have hns48_1 := NB325_326.out
   have hns48_3 := NB332_326.out
   have hms48_0 := NB326_324.out
   have hms48_1 := NB326_325.out
   have hms48_3 := NB326_332.out
   have hs50 : w46.cell? ⟨gb326, 2, none⟩ = some (.slice none 0 0) := (blk_cell BK326.out 2).trans rfl
   have hfs50 := blk_frozen BK326.out 2
   have hns50_0 := NB324_326.out
   have hns50_1 := NB325_326.out
   have hns50_3 := NB332_326.out
   have hms50_0 := NB326_324.out
   have hms50_1 := NB326_325.out
   have hms50_3 := NB326_332.out
   refine skip_ (w1 := ?_) (by rfl) rfl ?_ ?_
   rotate_left
   ·go_simp
    rfl
   refine hK.out _ _ ⟨((cell_far (p := ⟨gb326, _, none⟩) NB332_326.out _).trans (((cell_far (p := ⟨gb326, _, none⟩) NB332_326.out _).trans (((cell_far (p := ⟨gb326, _, none⟩) NB332_326.out _).trans (hHeld.1)))))), ((cell_far (p := ⟨gb326, _, none⟩) NB332_326.out _).trans (((cell_far (p := ⟨gb326, _, none⟩) NB332_326.out _).trans (((cell_far (p := ⟨gb326, _, none⟩) NB332_326.out _).trans (hHeld.2.1)))))), ((cell_far (p := ⟨gb326, _, none⟩) NB332_326.out _).trans (((cell_far (p := ⟨gb326, _, none⟩) NB332_326.out _).trans (((cell_far (p := ⟨gb326, _, none⟩) NB332_326.out _).trans (hHeld.2.2.1)))))), ((cell_far (p := ⟨gb326, _, none⟩) (Z23 HO331 BK326) _).trans (((cell_far (p := ⟨gb326, _, none⟩) (Z23 HO331 BK326) _).trans (((cell_far (p := ⟨gb326, _, none⟩) (Z23 HO331 BK326) _).trans (hHeld.2.2.2.1)))))), ((cell_far (p := ⟨gb326, _, none⟩) (Z23 HO331 BK326) _).trans (((cell_far (p := ⟨gb326, _, none⟩) (Z23 HO331 BK326) _).trans (((cell_far (p := ⟨gb326, _, none⟩) (Z23 HO331 BK326) _).trans (hHeld.2.2.2.2))))))⟩ (fun hHeld => ?_)
   clear hK K
   refine sqP (i := 12) (N := some 5) (h := ?_)
   refine done_ (done_of HT_.out (by kernel_rfl)) ?_
   try go_wp2
   refine bodyPost_ret (results_ct rfl _ _ gb326 34 #[.int .i64 t338, .int .i64 t339, .slice Ao49 t340.length co49] (0, 0) _ rfl (by refine sqPut (cs := #[.int .i64 t338, .int .i64 t339, .slice none 0 0]) ?_ 2; refine sqPut (cs := #[.int .i64 t338, .int .i64 0, .slice none 0 0]) ?_ 1; refine sqPut (cs := #[.int .i64 0, .int .i64 0, .slice none 0 0]) ?_ 0; exact sqK BK326) Tryz.underlying34 rfl (by kernel_rfl)) rfl ?_
   exact ⟨_, by first | rfl | (simp [errP_none, errP_some] <;> rfl) | (simp only [← hji22]; first | rfl | (simp [errP_none, errP_some] <;> rfl)) | (simp [*, errP_none, errP_some] <;> rfl), by (with_reducible repeat (first | apply Kd.R_alloc | apply Kd.R_drewN | apply Kd.R_drew)); exact Kd.R_mono (Kd.R_far (p := ⟨gb326, 2, none⟩) (Kd.R_far (p := ⟨gb326, 1, none⟩) (Kd.R_far (p := ⟨gb326, 0, none⟩) (Kd.R_types HO342.out BK326.out (by decide)) (fun _ hk => hk.2) (.int .i64 t338)) (fun _ hk => hk.2) (.int .i64 t339)) (fun _ hk => hk.2) (.slice Ao49 t340.length co49)) (fun _ hk => trivial), sqB4 HB GE324 GE325 GE326 GE332⟩
 ·rw [if_neg c4] at H
  have c4b0 : (a1_0 == 4 && (a1_1.toList == ([] : List UInt8))) = false := by simpa using c4
  try have c4b8 : (a1_0 == 4 && a1_1.toList.isEmpty) = false := by (have h_ := c4b0; (repeat rw [show ∀ z : List UInt8, (z == ([] : List UInt8)) = z.isEmpty from fun z => by cases z <;> rfl] at h_); exact h_)
  (try (have c4b1 : decide (a1_0 = 4 && (a1_1.toList == ([] : List UInt8))) = false := by simpa using c4))
  (try (have c4b2 : (a1_0 == 4 && (a1_1.toList == ([] : List UInt8))) = false := by simpa using c4))
  (try (have c4b3 : ¬ (a1_0 = 4 && (a1_1.toList == ([] : List UInt8))) := by simpa using c4))
  clear c4
  obtain ⟨⟨t343, t344, t345⟩, A51, H⟩ := sqD H
  try dsimp only at H
  have HC52 := Aside0.mk H
  clear H
  go_enter Tryz.func61, Tryz.ntmps61
  go_upto_region 8 with (first | ((with_reducible refine gate_dst (N := 2) rfl ?_); refine sqBox (N := 2) (cs := #[.int .i64 a0_0, .int .i64 a0_1, .slice A0_2 l0_2.length c0_2]) (t := 34) ?_; intro gb324 hg w53 BK324 hb; have GW324 := Aside0.mk ((sqG hg (sqB HB))); have GE324 := GW324; replace HB := sqS (sqB HB) hb; clear hb hg) | ((with_reducible refine gate_dst (N := 3) rfl ?_); refine sqBox (N := 3) (cs := #[.int .i64 a1_0, .string a1_1]) (t := 38) ?_; intro gb325 hg w54 BK325 hb; have GW325 := Aside0.mk ((sqG hg (sqB1 HB GE324))); have GE325 := GW325; replace HB := sqS (sqB1 HB GE324) hb; obtain ⟨NB324_325, NB325_324⟩ := sqM hg BK324; replace BK324 := sqT BK324 hb; clear hb hg) | ((with_reducible refine gate_dst (N := 4) rfl ?_); refine sqBox (N := 4) (cs := #[.int .i64 0, .int .i64 0, .slice none 0 0]) (t := 34) ?_; intro gb326 hg w55 BK326 hb; have GW326 := Aside0.mk ((sqG hg (sqB2 HB GE324 GE325))); have GE326 := GW326; replace HB := sqS (sqB2 HB GE324 GE325) hb; obtain ⟨NB324_326, NB326_324⟩ := sqM hg BK324; replace BK324 := sqT BK324 hb; obtain ⟨NB325_326, NB326_325⟩ := sqM hg BK325; replace BK325 := sqT BK325 hb; clear hb hg; have hnb56 := NB324_325.out; have hnc56 := NB325_324.out; have hnb57 := NB324_326.out; have hnc57 := NB326_324.out; obtain ⟨hcz58_0, hcz58_1, hcz58_2, hfz58_0, hfz58_1, hfz58_2⟩ := sqY3 BK324) | ((with_reducible refine gate_callee (f := 76) rfl ?_); refine goesL_ (some 12) rfl rfl Tryz.func76 (by kernel_rfl) rfl #[.agg #[.int .i64 a0_0, .int .i64 a0_1, .slice A0_2 l0_2.length c0_2]] rfl sqA ?_; (with_reducible refine (impl_copyDesk.calls a0_0 a0_1 _ _ l0_2 t327 t328 t329 _ ?side1 ?side2 A3.out).mono ?_); (case side1 => exact Z6); (case side2 => exact HC0_2.out); rintro e w59 ⟨v330, rfl, ho0, hb⟩; refine ⟨_, rfl, ?_⟩; have HO331 := sqL ho0 (sqB3 HB GE324 GE325 GE326); replace BK324 := sqT BK324 hb; replace BK325 := sqT BK325 hb; replace BK326 := sqT BK326 hb; replace HB := sqS (sqB3 HB GE324 GE325 GE326) hb; (try clear hb); (try clear ho0)) | ((with_reducible refine gate_dst (N := 6) rfl ?_); refine sqBox (N := 6) (cs := #[.int .i64 0, .int .i64 0, .slice none 0 0]) (t := 34) ?_; intro gb332 hg w60 BK332 hb; replace HO331 := sqU HO331 hb; have GW332 := Aside0.mk ((sqG hg (sqB3 HB GE324 GE325 GE326))); have GE332 := GW332; replace HB := sqS (sqB3 HB GE324 GE325 GE326) hb; obtain ⟨NB324_332, NB332_324⟩ := sqM hg BK324; replace BK324 := sqT BK324 hb; obtain ⟨NB325_332, NB332_325⟩ := sqM hg BK325; replace BK325 := sqT BK325 hb; obtain ⟨NB326_332, NB332_326⟩ := sqM hg BK326; replace BK326 := sqT BK326 hb; clear hb hg; have hnb61 := NB332_324.out; have hnc61 := NB324_332.out; have hnb62 := NB332_325.out; have hnc62 := NB325_332.out; have hnb63 := NB332_326.out; have hnc63 := NB326_332.out; obtain ⟨hcz64_0, hcz64_1, hcz64_2, hfz64_0, hfz64_1, hfz64_2⟩ := sqY3 BK332; obtain ⟨Ao65, co65, eo65⟩ := Kd.R_slice HO331.out; subst eo65; have hnb66 := NB325_326.out; have hnc66 := NB326_325.out; obtain ⟨hcz67_0, hcz67_1, hfz67_0, hfz67_1⟩ := sqY2 BK325; obtain ⟨hcz68_0, hcz68_1, hcz68_2, hfz68_0, hfz68_1, hfz68_2⟩ := sqY3 BK324) | ((with_reducible refine gate_callee (f := 111) rfl ?_); refine goesL_ (some 38) rfl rfl Tryz.func111 (by kernel_rfl) rfl #[.agg #[.int .i64 a0_0, .int .i64 a0_1], .agg #[.int .i64 a1_0, .string a1_1]] rfl sqA ?_; (with_reducible refine (impl_nextFraction.calls k a0_0 a0_1 a1_0 a1_1 t343 t344 t345 _ ?sideG A51.out).mono ?_); (case sideG => exact Glob.below hG (sqB4 HB GE324 GE325 GE326 GE332)); rintro e w69 ⟨rfl, hb⟩; refine ⟨_, rfl, ?_⟩; replace HO331 := Aside0.mk (Kd.R_below (by (with_reducible repeat (first | apply Kd.R_alloc | apply Kd.R_drewN | apply Kd.R_drew)); exact (Kd.R_mono (Kd.R_far (p := ⟨gb332, 2, none⟩) (Kd.R_far (p := ⟨gb332, 1, none⟩) (Kd.R_far (p := ⟨gb332, 0, none⟩) (Kd.R_types HO331.out BK332.out (by decide)) (fun _ hk => hk.2) (.int .i64 t327)) (fun _ hk => hk.2) (.int .i64 t328)) (fun _ hk => hk.2) (.slice Ao65 t329.length co65)) (fun _ h_ => h_.1))) hb); replace BK324 := Aside0.mk (blk_below (g := gb324) (o := .cells #[.int .i64 a0_0, .int .i64 a0_1, .slice A0_2 l0_2.length c0_2] 34 (0, 0)) (Z20 NB324_332 BK324) hb); replace BK325 := Aside0.mk (blk_below (g := gb325) (o := .cells #[.int .i64 a1_0, .string a1_1] 38 (0, 0)) (Z20 NB325_332 BK325) hb); replace BK326 := Aside0.mk (blk_below (g := gb326) (o := .cells #[.int .i64 0, .int .i64 0, .slice none 0 0] 34 (0, 0)) (Z20 NB326_332 BK326) hb); replace BK332 := Aside0.mk (blk_below (g := gb332) (o := .cells #[.int .i64 t327, .int .i64 t328, .slice Ao65 t329.length co65] 34 (0, 0)) (Z21 BK332) hb); replace HB := sqS (sqB4 HB GE324 GE325 GE326 GE332) hb; (try clear hb)) | ((with_reducible refine gate_dst (N := 8) rfl ?_); refine sqBox (N := 8) (cs := #[.int .i64 0, .int .i64 0]) (t := 31) ?_; intro gb346 hg w70 BK346 hb; replace HO331 := Aside0.mk (Kd.R_below (Kd.R_elderB (sqR HO331) gb346 (Nat.le_of_eq hg.symm)) hb); have GW346 := Aside0.mk ((sqG hg (sqB4 HB GE324 GE325 GE326 GE332))); have GE346 := GW346; replace HB := sqS (sqB4 HB GE324 GE325 GE326 GE332) hb; obtain ⟨NB324_346, NB346_324⟩ := sqM hg BK324; replace BK324 := sqT BK324 hb; obtain ⟨NB325_346, NB346_325⟩ := sqM hg BK325; replace BK325 := sqT BK325 hb; obtain ⟨NB326_346, NB346_326⟩ := sqM hg BK326; replace BK326 := sqT BK326 hb; obtain ⟨NB332_346, NB346_332⟩ := sqM hg BK332; replace BK332 := sqT BK332 hb; clear hb hg; have hnb71 := NB346_324.out; have hnc71 := NB324_346.out; have hnb72 := NB346_325.out; have hnc72 := NB325_346.out; have hnb73 := NB346_326.out; have hnc73 := NB326_346.out; have hnb74 := NB346_332.out; have hnc74 := NB332_346.out; obtain ⟨hcz75_0, hcz75_1, hfz75_0, hfz75_1⟩ := sqY2 BK346))
  (try simp only [Act.put, List.setIfInBounds_toArray, List.set_cons_zero, List.set_cons_succ])
  go_cut [48] (fun v48 wc => ∃ (kq : Nat) (x48_51 : Bool), v48 = .bool x48_51 ∧ Aside0 (impl_deskDo.j0 kq x48_51 t327 t328 t329 t343 t344 = some (r1, r2, r3, r4)) ∧ Aside0 (kq ≤ k) ∧ Aside0 (Kd.R k31 31 wc w.heap.size (fun k_ => k_ ≠ gb346) (.slice Ao65 t329.length co65) t329) ∧ Aside0 (wc.heap[gb324]? = some (.cells #[.int .i64 a0_0, .int .i64 a0_1, (.slice A0_2 l0_2.length c0_2)] 34 (0, 0))) ∧ Aside0 (wc.heap[gb325]? = some (.cells #[.int .i64 a1_0, .string a1_1] 38 (0, 0))) ∧ Aside0 (wc.heap[gb326]? = some (.cells #[.int .i64 0, .int .i64 0, (.slice none 0 0)] 34 (0, 0))) ∧ Aside0 (wc.heap[gb332]? = some (.cells #[.int .i64 t327, .int .i64 t328, (.slice Ao65 t329.length co65)] 34 (0, 0))) ∧ Aside0 (wc.heap[gb346]? = some (.cells #[.int .i64 t343, .int .i64 t344] 31 (0, 0))) ∧ Aside0 (Below w.heap.size w wc))
  case first =>
   have H := HC52.out
   clear HC52
   by_cases c76 : t345 = true
   ·subst c76
    rw [if_pos rfl] at H
    have H' := Aside0.mk H
    clear H
    have hnb77 := NB346_324.out
    have hnc77 := NB324_346.out
    have hnb78 := NB346_325.out
    have hnc78 := NB325_346.out
    have hnb79 := NB346_326.out
    have hnc79 := NB326_346.out
    have hnb80 := NB346_332.out
    have hnc80 := NB332_346.out
    obtain ⟨hcz81_0, hcz81_1, hfz81_0, hfz81_1⟩ := sqY2 BK346
    have hnb82 := NB324_325.out
    have hnc82 := NB325_324.out
    have hnb83 := NB324_326.out
    have hnc83 := NB326_324.out
    have hnb84 := NB324_332.out
    have hnc84 := NB332_324.out
    obtain ⟨hcz85_0, hcz85_1, hcz85_2, hfz85_0, hfz85_1, hfz85_2⟩ := sqY3 BK324
    go_wp2
    go_meet
    case rel => exact ⟨_, ((t343 == a0_0 && (t344 == a0_1))), Z1, H', ⟨Z16⟩, ⟨Z24 HO331⟩, ⟨Z14 NB324_346 BK324⟩, ⟨Z14 NB325_346 BK325⟩, ⟨Z14 NB326_346 BK326⟩, ⟨Z14 NB332_346 BK332⟩, ⟨Z25 BK346⟩, ⟨Z26 GE324 GE325 GE326 GE332 GE346⟩⟩
   ·replace c76 := Bool.eq_false_iff.mpr c76
    subst c76
    rw [if_neg sqF] at H
    have H' := Aside0.mk H
    clear H
    go_wp2
    go_meet
    case rel => exact ⟨_, (true), Z1, H', ⟨Z16⟩, ⟨Z24 HO331⟩, ⟨Z14 NB324_346 BK324⟩, ⟨Z14 NB325_346 BK325⟩, ⟨Z14 NB326_346 BK326⟩, ⟨Z14 NB332_346 BK332⟩, ⟨Z25 BK346⟩, ⟨Z26 GE324 GE325 GE326 GE332 GE346⟩⟩
  case rest =>
   clear HC52
   try clear c1; try clear c2; try clear p2; try clear c3; try clear p3; try clear q3; try clear hx3; try clear c4; try clear c4b0; try clear c4b1; try clear c4b2; try clear q4; try clear c5; try clear c5b0; try clear c6; try clear p6; try clear c7; try clear c8; try clear c9; try clear c10; try clear c11; try clear c14; try clear c15; try clear c16; try clear c19; try clear c23; try clear c23b0; try clear c24; try clear c24b0; try clear c25; try clear c25b0; try clear c26; try clear c26b0; try clear c26b1; try clear c31; try clear c32; try clear p33; try clear q33; try clear hx33; try clear c36; try clear c37; try clear c38; try clear c41; try clear q45; try clear c56; try clear c57; try clear c61; try clear c62; try clear c63; try clear p64; try clear c66; try clear c71; try clear c72; try clear c73; try clear c74; try clear c76; try clear c77; try clear c78; try clear c79; try clear c80; try clear c82; try clear c83; try clear c84; try clear hcz11_0; try clear hcz11_1; try clear hcz11_2; try clear hcz17_0; try clear hcz17_1; try clear hcz17_2; try clear hcz20_0; try clear hcz20_1; try clear hcz21_0; try clear hcz21_1; try clear hcz21_2; try clear hcz33_0; try clear hcz33_1; try clear hcz33_2; try clear hcz39_0; try clear hcz39_1; try clear hcz39_2; try clear hcz42_0; try clear hcz42_1; try clear hcz58_0; try clear hcz58_1; try clear hcz58_2; try clear hcz64_0; try clear hcz64_1; try clear hcz64_2; try clear hcz67_0; try clear hcz67_1; try clear hcz68_0; try clear hcz68_1; try clear hcz68_2; try clear hcz75_0; try clear hcz75_1; try clear hcz81_0; try clear hcz81_1; try clear hcz85_0; try clear hcz85_1; try clear hcz85_2; try clear hfz11_0; try clear hfz11_1; try clear hfz11_2; try clear hfz17_0; try clear hfz17_1; try clear hfz17_2; try clear hfz20_0; try clear hfz20_1; try clear hfz21_0; try clear hfz21_1; try clear hfz21_2; try clear hfz33_0; try clear hfz33_1; try clear hfz33_2; try clear hfz39_0; try clear hfz39_1; try clear hfz39_2; try clear hfz42_0; try clear hfz42_1; try clear hfz58_0; try clear hfz58_1; try clear hfz58_2; try clear hfz64_0; try clear hfz64_1; try clear hfz64_2; try clear hfz67_0; try clear hfz67_1; try clear hfz68_0; try clear hfz68_1; try clear hfz68_2; try clear hfz75_0; try clear hfz75_1; try clear hfz81_0; try clear hfz81_1; try clear hfz85_0; try clear hfz85_1; try clear hfz85_2; try clear hx333_0; try clear hx333_1; try clear p333; try clear q333; try clear q45
   obtain ⟨kq, x48_51, rfl, HA, HJ51, HO_333002, BK324, BK325, BK326, BK332, BK346, HB⟩ := hcut
   cases kq with
   | zero => exact absurd HA.out (by simp [impl_deskDo.j0])
   | succ kj51 =>
    have H := HA.out
    clear HA
    simp only [impl_deskDo.j0] at H
    by_cases c86 : x48_51 = true
    ·subst c86
     rw [if_pos rfl] at H
     obtain ⟨rfl, rfl, rfl, rfl⟩ := sqO4 H
     have hnb87 := NB332_324.out
     have hnc87 := NB324_332.out
     have hnb88 := NB332_325.out
     have hnc88 := NB325_332.out
     have hnb89 := NB332_326.out
     have hnc89 := NB326_332.out
     have hnb90 := NB332_346.out
     have hnc90 := NB346_332.out
     obtain ⟨hcz91_0, hcz91_1, hcz91_2, hfz91_0, hfz91_1, hfz91_2⟩ := sqY3 BK332
     have hnb92 := NB326_324.out
     have hnc92 := NB324_326.out
     have hnb93 := NB326_325.out
     have hnc93 := NB325_326.out
     have hnb94 := NB326_346.out
     have hnc94 := NB346_326.out
     obtain ⟨hcz95_0, hcz95_1, hcz95_2, hfz95_0, hfz95_1, hfz95_2⟩ := sqY3 BK326
     go_wp2
     refine bodyPost_ret (results_ct rfl _ _ gb326 34 #[.int .i64 t327, .int .i64 t328, .slice Ao65 t329.length co65] (0, 0) _ rfl (Z21 BK326) Tryz.underlying34 rfl (by kernel_rfl)) rfl ?_
     exact ⟨_, Z3, by (with_reducible repeat (first | apply Kd.R_alloc | apply Kd.R_drewN | apply Kd.R_drew)); exact Kd.R_mono (Kd.R_far (p := ⟨gb326, 2, none⟩) (Kd.R_far (p := ⟨gb326, 1, none⟩) (Kd.R_far (p := ⟨gb326, 0, none⟩) (Kd.R_types HO_333002.out BK326.out (by decide)) (fun _ hk => hk.2) (.int .i64 t327)) (fun _ hk => hk.2) (.int .i64 t328)) (fun _ hk => hk.2) (.slice Ao65 t329.length co65)) (fun _ hk => trivial), Z26 GE324 GE325 GE326 GE332 GE346⟩
    ·replace c86 := Bool.eq_false_iff.mpr c86
     subst c86
     rw [if_neg sqF] at H
     obtain ⟨c96, H⟩ := sqI H
     have LMc96 := Aside0.mk c96
     clear c96
     obtain ⟨y347, hy347⟩ : ∃ y_ : List (S31), y_ = (t329 ++ [(⟨t327, t328⟩ : S31)]) := ⟨_, rfl⟩
     replace H : (if (y347.length : Int) > 8 then (if 1 ≤ (y347.length : Int) then ((impl_copyDesk.f t343 t344 (y347.drop (1 : Int).toNat)).bind fun bt353 => (some (bt353.1, bt353.2.1, bt353.2.2, true))) else (none)) else ((impl_copyDesk.f t343 t344 y347).bind fun bt358 => (some (bt358.1, bt358.2.1, bt358.2.2, true)))) = some (r1, r2, r3, r4) := sqW hy347 H
     have Ny347 := Aside0.mk hy347
     clear hy347
     by_cases c97 : (y347.length : Int) > 8
     ·rw [if_pos c97] at H
      have c97b0 : decide (8 < (y347.length : Int)) = true := decide_eq_true c97
      have c97b1 : decide (8 < y347.length) = true := decide_eq_true (by omega)
      clear c97
      obtain ⟨c98, H⟩ := sqI H
      have c98b0 := eq_true c98
      have c98b1 : decide (1 ≤ (y347.length : Int)) = true := decide_eq_true c98
      clear c98
      obtain ⟨y350, hy350⟩ : ∃ y_ : List (S31), y_ = (y347.drop (1 : Int).toNat) := ⟨_, rfl⟩
      replace H : ((impl_copyDesk.f t343 t344 y350).bind fun bt353 => (some (bt353.1, bt353.2.1, bt353.2.2, true))) = some (r1, r2, r3, r4) := sqW hy350 H
      have Ny350 := Aside0.mk hy350
      clear hy350
      obtain ⟨⟨t353, t354, t355⟩, A99, H⟩ := sqD H
      try dsimp only at H
      obtain ⟨rfl, rfl, rfl, rfl⟩ := sqO4 H
      have hnb100 := NB332_324.out
      have hnc100 := NB324_332.out
      have hnb101 := NB332_325.out
      have hnc101 := NB325_332.out
      have hnb102 := NB332_326.out
      have hnc102 := NB326_332.out
      have hnb103 := NB332_346.out
      have hnc103 := NB346_332.out
      obtain ⟨hcz104_0, hcz104_1, hcz104_2, hfz104_0, hfz104_1, hfz104_2⟩ := sqY3 BK332
      go_wp2_with (first | ((with_reducible refine gate_builtin (b := .append) (xs := #[.tmp 51, .tmp 54]) rfl ?_); at_builtin; refine Kd.R_append k31 (w0 := w) w.heap.size rfl (.tmp 51) (.tmp 54) 32 31 (.agg #[(.int .i64 0), (.int .i64 0)]) 16 rfl Tryz.underlying32 info31 rfl (by decide) (by omega) (.slice Ao65 t329.length co65) t329 (⟨t327, t328⟩ : S31) [.int .i64 t327, .int .i64 t328] (fun k_ => k_ ≠ gb346) (fun _ => False) rfl rfl ?aP (fun _ hk => hk.elim) ?aF ?aO ?aB ?aS ?aL ?_; (case aP => exact k31_mkM _ _ _ (⟨t327, t328⟩ : S31)); (case aB => exact (Z26 GE324 GE325 GE326 GE332 GE346)); (case aF => exact (fun k_ hk => Kd.freshB (sqK BK346) k_ hk)); (case aO => exact (sqR HO_333002)); (case aS => exact (below_size (Z26 GE324 GE325 GE326 GE332 GE346))); (case aL => exact Z4 LMc96); intro v348 w105 ho hb hg hat; rw [← Ny347.out] at ho; replace BK324 := Aside0.mk (blk_grown (sqK BK324) hg (Kd.R_ne HO_333002.out BK324.out (by decide))); replace BK325 := Aside0.mk (blk_grown (sqK BK325) hg (Kd.R_ne HO_333002.out BK325.out (by decide))); replace BK326 := Aside0.mk (blk_grown (sqK BK326) hg (Kd.R_ne HO_333002.out BK326.out (by decide))); replace BK332 := Aside0.mk (blk_grown (sqK BK332) hg (Kd.R_ne HO_333002.out BK332.out (by decide))); replace BK346 := Aside0.mk (blk_grown (sqK BK346) hg (Kd.R_away HO_333002.out (fun _ hk => hk))); replace HB := Aside0.mk (hb); have HO349 := Aside0.mk (ho); clear HO_333002; clear ho hb hg hat; obtain ⟨Ao106, co106, eo106⟩ := Kd.R_slice HO349.out; subst eo106; have q107 : (1 : Int) ≤ ((y347.length : Int) : Int) := of_decide_eq_true Z2; obtain ⟨i0107, hi0107, _, hsz107, _⟩ := info_parts info31; have hcut107 := cut_from (P := Tryz.prog) 32 31 .i64 Tryz.underlying32 hi0107 2 hsz107 Ao106 y347.length co106 1 (by omega) q107; have hr107 := Kd.Q_drop (k := (1 : Int).toNat) (Kd.Q_of_R HO349.out) (by omega); obtain ⟨A107, hA107⟩ : ∃ A1, A1 = (if co106 = (1 : Int).toNat then Ao106 else (Ao106 : Option Addr).map (·.add ((1 : Int).toNat * 2))) := ⟨_, rfl⟩; obtain ⟨c107, hc107⟩ : ∃ c1, c1 = co106 - (1 : Int).toNat := ⟨_, rfl⟩; have hy107 : y350.length = y347.length - (1 : Int).toNat := (by rw [Ny350.out, List.length_drop]); rw [← Ny350.out] at hr107; rw [← hy107, ← hA107, ← hc107] at hcut107; replace hr107 : Kd.Q k31 31 w105 w.heap.size (fun k_ => k_ ≠ gb346) (.slice A107 y350.length c107) y350 := (by rw [hA107, hc107, hy107]; exact hr107); have HE107 : Aside0 ((Value.slice A107 y350.length c107).ownBlock = (.slice Ao106 y347.length co106 : Value).ownBlock) := ⟨by rw [hA107]; split <;> (cases (Ao106 : Option Addr) <;> rfl)⟩; clear hy107 hi0107 hsz107 HO349 hA107 hc107; have HO352 := Aside0.mk hr107; clear hr107; replace q107 := eq_true q107; have hnb108 := NB346_324.out; have hnc108 := NB324_346.out; have hnb109 := NB346_325.out; have hnc109 := NB325_346.out; have hnb110 := NB346_326.out; have hnc110 := NB326_346.out; obtain ⟨hcz111_0, hcz111_1, hfz111_0, hfz111_1⟩ := sqY2 BK346) | ((with_reducible refine gate_callee (f := 76) rfl ?_); refine goesL_ (some 64) rfl rfl Tryz.func76 (by kernel_rfl) rfl #[.agg #[.int .i64 t343, .int .i64 t344, .slice A107 y350.length c107]] rfl sqA ?_; (with_reducible refine (impl_copyDesk.calls t343 t344 _ _ y350 t353 t354 t355 _ ?side1 ?side2 A99.out).mono ?_); (case side1 => exact Z27 HO352); (case side2 => exact Z28 HO352); rintro e w112 ⟨v356, rfl, ho0, hb⟩; refine ⟨_, rfl, ?_⟩; have HO357 := Aside0.mk (Kd.R_lower (Kd.R_newB (Kd.R_new' ho0 (Kd.Q_lt (Z29 HO352))) (sqK BK346)) (below_size (Z26 GE324 GE325 GE326 GE332 GE346))); replace HO352 := Aside0.mk (Kd.Q_elder' (Z29 HO352) (Kd.R_base ho0) hb); replace BK324 := sqT BK324 hb; replace BK325 := sqT BK325 hb; replace BK326 := sqT BK326 hb; replace BK332 := sqT BK332 hb; replace BK346 := sqT BK346 hb; replace HB := Aside0.mk (below_step (Z26 GE324 GE325 GE326 GE332 GE346) hb); (try clear hb); (try clear ho0); have hnb113 := NB326_324.out; have hnc113 := NB324_326.out; have hnb114 := NB326_325.out; have hnc114 := NB325_326.out; obtain ⟨hcz115_0, hcz115_1, hcz115_2, hfz115_0, hfz115_1, hfz115_2⟩ := sqY3 BK326; obtain ⟨Ao116, co116, eo116⟩ := Kd.R_slice HO357.out; subst eo116))
      refine bodyPost_ret (results_ct rfl _ _ gb326 34 #[.int .i64 t353, .int .i64 t354, .slice Ao116 t355.length co116] (0, 0) _ rfl (by refine sqPut (cs := #[.int .i64 t353, .int .i64 t354, .slice none 0 0]) ?_ 2; refine sqPut (cs := #[.int .i64 t353, .int .i64 0, .slice none 0 0]) ?_ 1; refine sqPut (cs := #[.int .i64 0, .int .i64 0, .slice none 0 0]) ?_ 0; exact sqK BK326) Tryz.underlying34 rfl (by kernel_rfl)) rfl ?_
      exact ⟨_, Z3, by (with_reducible repeat (first | apply Kd.R_alloc | apply Kd.R_drewN | apply Kd.R_drew)); exact Kd.R_mono (Kd.R_far (p := ⟨gb326, 2, none⟩) (Kd.R_far (p := ⟨gb326, 1, none⟩) (Kd.R_far (p := ⟨gb326, 0, none⟩) (Kd.R_types HO357.out BK326.out (by decide)) (fun _ hk => hk.2) (.int .i64 t353)) (fun _ hk => hk.2) (.int .i64 t354)) (fun _ hk => hk.2) (.slice Ao116 t355.length co116)) (fun _ hk => trivial), Z26 GE324 GE325 GE326 GE332 GE346⟩
     ·rw [if_neg c97] at H
      have c97b0 : decide (8 < (y347.length : Int)) = false := decide_eq_false c97
      have c97b1 : decide (8 < y347.length) = false := decide_eq_false (by omega)
      clear c97
      obtain ⟨⟨t358, t359, t360⟩, A117, H⟩ := sqD H
      try dsimp only at H
      obtain ⟨rfl, rfl, rfl, rfl⟩ := sqO4 H
      have hnb118 := NB332_324.out
      have hnc118 := NB324_332.out
      have hnb119 := NB332_325.out
      have hnc119 := NB325_332.out
      have hnb120 := NB332_326.out
      have hnc120 := NB326_332.out
      have hnb121 := NB332_346.out
      have hnc121 := NB346_332.out
      obtain ⟨hcz122_0, hcz122_1, hcz122_2, hfz122_0, hfz122_1, hfz122_2⟩ := sqY3 BK332
      go_wp2_with (first | ((with_reducible refine gate_builtin (b := .append) (xs := #[.tmp 51, .tmp 54]) rfl ?_); at_builtin; refine Kd.R_append k31 (w0 := w) w.heap.size rfl (.tmp 51) (.tmp 54) 32 31 (.agg #[(.int .i64 0), (.int .i64 0)]) 16 rfl Tryz.underlying32 info31 rfl (by decide) (by omega) (.slice Ao65 t329.length co65) t329 (⟨t327, t328⟩ : S31) [.int .i64 t327, .int .i64 t328] (fun k_ => k_ ≠ gb346) (fun _ => False) rfl rfl ?aP (fun _ hk => hk.elim) ?aF ?aO ?aB ?aS ?aL ?_; (case aP => exact k31_mkM _ _ _ (⟨t327, t328⟩ : S31)); (case aB => exact (Z26 GE324 GE325 GE326 GE332 GE346)); (case aF => exact (fun k_ hk => Kd.freshB (sqK BK346) k_ hk)); (case aO => exact (sqR HO_333002)); (case aS => exact (below_size (Z26 GE324 GE325 GE326 GE332 GE346))); (case aL => exact Z4 LMc96); intro v348 w123 ho hb hg hat; rw [← Ny347.out] at ho; replace BK324 := Aside0.mk (blk_grown (sqK BK324) hg (Kd.R_ne HO_333002.out BK324.out (by decide))); replace BK325 := Aside0.mk (blk_grown (sqK BK325) hg (Kd.R_ne HO_333002.out BK325.out (by decide))); replace BK326 := Aside0.mk (blk_grown (sqK BK326) hg (Kd.R_ne HO_333002.out BK326.out (by decide))); replace BK332 := Aside0.mk (blk_grown (sqK BK332) hg (Kd.R_ne HO_333002.out BK332.out (by decide))); replace BK346 := Aside0.mk (blk_grown (sqK BK346) hg (Kd.R_away HO_333002.out (fun _ hk => hk))); replace HB := Aside0.mk (hb); have HO349 := Aside0.mk (ho); clear HO_333002; clear ho hb hg hat; obtain ⟨Ao124, co124, eo124⟩ := Kd.R_slice HO349.out; subst eo124; have hnb125 := NB346_324.out; have hnc125 := NB324_346.out; have hnb126 := NB346_325.out; have hnc126 := NB325_346.out; have hnb127 := NB346_326.out; have hnc127 := NB326_346.out; obtain ⟨hcz128_0, hcz128_1, hfz128_0, hfz128_1⟩ := sqY2 BK346) | ((with_reducible refine gate_callee (f := 76) rfl ?_); refine goesL_ (some 64) rfl rfl Tryz.func76 (by kernel_rfl) rfl #[.agg #[.int .i64 t343, .int .i64 t344, .slice Ao124 y347.length co124]] rfl sqA ?_; (with_reducible refine (impl_copyDesk.calls t343 t344 _ _ y347 t358 t359 t360 _ ?side1 ?side2 A117.out).mono ?_); (case side1 => exact Z30 HO349); (case side2 => exact Z31 HO349); rintro e w129 ⟨v361, rfl, ho0, hb⟩; refine ⟨_, rfl, ?_⟩; have HO362 := Aside0.mk (Kd.R_lower (Kd.R_newB (Kd.R_new' ho0 (Kd.R_lt (sqR HO349))) (sqK BK346)) (below_size (Z26 GE324 GE325 GE326 GE332 GE346))); replace HO349 := Aside0.mk (Kd.R_elder' (sqR HO349) (Kd.R_base ho0) hb); replace BK324 := sqT BK324 hb; replace BK325 := sqT BK325 hb; replace BK326 := sqT BK326 hb; replace BK332 := sqT BK332 hb; replace BK346 := sqT BK346 hb; replace HB := Aside0.mk (below_step (Z26 GE324 GE325 GE326 GE332 GE346) hb); (try clear hb); (try clear ho0); have hnb130 := NB326_324.out; have hnc130 := NB324_326.out; have hnb131 := NB326_325.out; have hnc131 := NB325_326.out; obtain ⟨hcz132_0, hcz132_1, hcz132_2, hfz132_0, hfz132_1, hfz132_2⟩ := sqY3 BK326; obtain ⟨Ao133, co133, eo133⟩ := Kd.R_slice HO362.out; subst eo133))
      refine bodyPost_ret (results_ct rfl _ _ gb326 34 #[.int .i64 t358, .int .i64 t359, .slice Ao133 t360.length co133] (0, 0) _ rfl (by refine sqPut (cs := #[.int .i64 t358, .int .i64 t359, .slice none 0 0]) ?_ 2; refine sqPut (cs := #[.int .i64 t358, .int .i64 0, .slice none 0 0]) ?_ 1; refine sqPut (cs := #[.int .i64 0, .int .i64 0, .slice none 0 0]) ?_ 0; exact sqK BK326) Tryz.underlying34 rfl (by kernel_rfl)) rfl ?_
      exact ⟨_, Z3, by (with_reducible repeat (first | apply Kd.R_alloc | apply Kd.R_drewN | apply Kd.R_drew)); exact Kd.R_mono (Kd.R_far (p := ⟨gb326, 2, none⟩) (Kd.R_far (p := ⟨gb326, 1, none⟩) (Kd.R_far (p := ⟨gb326, 0, none⟩) (Kd.R_types HO362.out BK326.out (by decide)) (fun _ hk => hk.2) (.int .i64 t358)) (fun _ hk => hk.2) (.int .i64 t359)) (fun _ hk => hk.2) (.slice Ao133 t360.length co133)) (fun _ hk => trivial), Z26 GE324 GE325 GE326 GE332 GE346⟩

/-! ### impl_DeskDo: function 17 -/
def impl_DeskDo.f (k : Nat) (a0_0 : Int) (a0_1 : Int) (l0_2 : List (S31)) (a1_0 : Int) (a1_1 : ByteArray) : Option (Int × Int × (List (S31)) × Bool) := (impl_isDesk.f k a0_0 a0_1 l0_2).bind fun t366 => (if t366 = true then ((impl_deskDo.f k a0_0 a0_1 l0_2 a1_0 a1_1).bind fun bt367 => (some (bt367.1, bt367.2.1, bt367.2.2.1, bt367.2.2.2))) else (some (0, 0, ([] : List (S31)), false)))
theorem impl_DeskDo.mono : ∀ a0 a1 a2 a3 a4 k, LeO (impl_DeskDo.f k a0 a1 a2 a3 a4) (impl_DeskDo.f (k + 1) a0 a1 a2 a3 a4) := by
 intro a0 a1 a2 a3 a4 k
 unfold impl_DeskDo.f
 repeat' first
   | (with_reducible exact impl_deskDo.mono _ _ _ _ _ _)
   | (with_reducible exact impl_isDesk.mono _ _ _ _)
   | (with_reducible exact LeO.refl _)
   | (with_reducible exact LeO.none _)
   | (with_reducible refine LeO.ite ?_ ?_)
   | (with_reducible refine LeO.bind ?_ (fun _ => ?_))
set_option maxHeartbeats 8000000 in
set_option maxRecDepth 100000 in
theorem impl_DeskDo.calls (k : Nat) (a0_0 : Int) (a0_1 : Int) (A0_2 : Option Addr) (c0_2 : Nat) (l0_2 : List (S31)) (a1_0 : Int) (a1_1 : ByteArray) (r1 : Int) (r2 : Int) (r3 : List (S31)) (r4 : Bool) (w : World) (hG : Glob w) (hr0_2 : Kd.C k31 w A0_2 l0_2.length l0_2) (hc0_2 : l0_2.length ≤ c0_2) (h : impl_DeskDo.f k a0_0 a0_1 l0_2 a1_0 a1_1 = some (r1, r2, r3, r4)) :
  Calls Tryz.prog 17 #[.agg #[.int .i64 a0_0, .int .i64 a0_1, .slice A0_2 l0_2.length c0_2], .agg #[.int .i64 a1_0, .string a1_1]] w fun e w' => ∃ v2_ : Value, e = .returned (.tuple #[.agg #[.int .i64 r1, .int .i64 r2, v2_], .bool r4]) ∧ Kd.R k31 31 w' w.heap.size (fun _ => True) v2_ r3 ∧ Below w.heap.size w w' := by
 have hu34 := Tryz.underlying34
 have hu38 := Tryz.underlying38
 have HR0_2 := Aside0.mk hr0_2
 have HC0_2 := Aside0.mk hc0_2
 clear hr0_2 hc0_2
 have HB := Aside0.mk (Below.refl w.heap.size w)
 have H : ((impl_isDesk.f k a0_0 a0_1 l0_2).bind fun t366 => (if t366 = true then ((impl_deskDo.f k a0_0 a0_1 l0_2 a1_0 a1_1).bind fun bt367 => (some (bt367.1, bt367.2.1, bt367.2.2.1, bt367.2.2.2))) else (some (0, 0, ([] : List (S31)), false)))) = some (r1, r2, r3, r4) := h
 clear h
 obtain ⟨t366, A3, H⟩ := sqD H
 by_cases c4 : t366 = true
 ·subst c4
  rw [if_pos rfl] at H
  obtain ⟨⟨t367, t368, t369, t372⟩, A5, H⟩ := sqD H
  try dsimp only at H
  obtain ⟨rfl, rfl, rfl, rfl⟩ := sqO4 H
  go_enter Tryz.func17, Tryz.ntmps17
  go_wp2_with (first | ((with_reducible refine gate_dst (N := 2) rfl ?_); refine sqBox (N := 2) (cs := #[.int .i64 a0_0, .int .i64 a0_1, .slice A0_2 l0_2.length c0_2]) (t := 34) ?_; intro gb363 hg w6 BK363 hb; have GW363 := Aside0.mk ((sqG hg (sqB HB))); have GE363 := GW363; replace HB := sqS (sqB HB) hb; clear hb hg) | ((with_reducible refine gate_dst (N := 3) rfl ?_); refine sqBox (N := 3) (cs := #[.int .i64 a1_0, .string a1_1]) (t := 38) ?_; intro gb364 hg w7 BK364 hb; have GW364 := Aside0.mk ((sqG hg (sqB1 HB GE363))); have GE364 := GW364; replace HB := sqS (sqB1 HB GE363) hb; obtain ⟨NB363_364, NB364_363⟩ := sqM hg BK363; replace BK363 := sqT BK363 hb; clear hb hg) | ((with_reducible refine gate_dst (N := 4) rfl ?_); refine sqBox (N := 4) (cs := #[.int .i64 0, .int .i64 0, .slice none 0 0]) (t := 34) ?_; intro gb365 hg w8 BK365 hb; have GW365 := Aside0.mk ((sqG hg (sqB2 HB GE363 GE364))); have GE365 := GW365; replace HB := sqS (sqB2 HB GE363 GE364) hb; obtain ⟨NB363_365, NB365_363⟩ := sqM hg BK363; replace BK363 := sqT BK363 hb; obtain ⟨NB364_365, NB365_364⟩ := sqM hg BK364; replace BK364 := sqT BK364 hb; clear hb hg; have hnb9 := NB363_364.out; have hnc9 := NB364_363.out; have hnb10 := NB363_365.out; have hnc10 := NB365_363.out; obtain ⟨hcz11_0, hcz11_1, hcz11_2, hfz11_0, hfz11_1, hfz11_2⟩ := sqY3 BK363) | ((with_reducible refine gate_callee (f := 60) rfl ?_); refine goesL_ (some 7) rfl rfl Tryz.func60 (by kernel_rfl) rfl #[.agg #[.int .i64 a0_0, .int .i64 a0_1, .slice A0_2 l0_2.length c0_2]] rfl sqA ?_; (with_reducible refine (impl_isDesk.calls k a0_0 a0_1 _ _ l0_2 true _ ?side1 ?side2 A3.out).mono ?_); (case side1 => exact Z6); (case side2 => exact HC0_2.out); rintro e w12 ⟨rfl, hb⟩; refine ⟨_, rfl, ?_⟩; replace BK363 := sqT BK363 hb; replace BK364 := sqT BK364 hb; replace BK365 := sqT BK365 hb; replace HB := sqS (sqB3 HB GE363 GE364 GE365) hb; (try clear hb); obtain ⟨hcz13_0, hcz13_1, hcz13_2, hfz13_0, hfz13_1, hfz13_2⟩ := sqY3 BK363; have hnb14 := NB364_365.out; have hnc14 := NB365_364.out; obtain ⟨hcz15_0, hcz15_1, hfz15_0, hfz15_1⟩ := sqY2 BK364) | ((with_reducible refine gate_callee (f := 61) rfl ?_); refine goesL_ (some 12) rfl rfl Tryz.func61 (by kernel_rfl) rfl #[.agg #[.int .i64 a0_0, .int .i64 a0_1, .slice A0_2 l0_2.length c0_2], .agg #[.int .i64 a1_0, .string a1_1]] rfl sqA ?_; (with_reducible refine (impl_deskDo.calls k a0_0 a0_1 _ _ l0_2 a1_0 a1_1 t367 t368 t369 t372 _ ?sideG ?side1 ?side2 A5.out).mono ?_); (case sideG => exact Glob.below hG (sqB3 HB GE363 GE364 GE365)); (case side1 => exact Z6); (case side2 => exact HC0_2.out); rintro e w16 ⟨v370, rfl, ho0, hb⟩; refine ⟨_, rfl, ?_⟩; have HO371 := sqL ho0 (sqB3 HB GE363 GE364 GE365); replace BK363 := sqT BK363 hb; replace BK364 := sqT BK364 hb; replace BK365 := sqT BK365 hb; replace HB := sqS (sqB3 HB GE363 GE364 GE365) hb; (try clear hb); (try clear ho0); obtain ⟨hcz17_0, hcz17_1, hcz17_2, hfz17_0, hfz17_1, hfz17_2⟩ := sqY3 BK365; obtain ⟨Ao18, co18, eo18⟩ := Kd.R_slice HO371.out; subst eo18))
  refine bodyPost_ret (results_ct rfl _ _ gb365 34 #[.int .i64 t367, .int .i64 t368, .slice Ao18 t369.length co18] (0, 0) _ rfl (by refine sqPut (cs := #[.int .i64 t367, .int .i64 t368, .slice none 0 0]) ?_ 2; refine sqPut (cs := #[.int .i64 t367, .int .i64 0, .slice none 0 0]) ?_ 1; refine sqPut (cs := #[.int .i64 0, .int .i64 0, .slice none 0 0]) ?_ 0; exact sqK BK365) Tryz.underlying34 rfl (by kernel_rfl)) rfl ?_
  exact ⟨_, Z3, by (with_reducible repeat (first | apply Kd.R_alloc | apply Kd.R_drewN | apply Kd.R_drew)); exact Kd.R_mono (Kd.R_far (p := ⟨gb365, 2, none⟩) (Kd.R_far (p := ⟨gb365, 1, none⟩) (Kd.R_far (p := ⟨gb365, 0, none⟩) (Kd.R_types HO371.out BK365.out (by decide)) (fun _ hk => hk.2) (.int .i64 t367)) (fun _ hk => hk.2) (.int .i64 t368)) (fun _ hk => hk.2) (.slice Ao18 t369.length co18)) (fun _ hk => trivial), sqB3 HB GE363 GE364 GE365⟩
 ·replace c4 := Bool.eq_false_iff.mpr c4
  subst c4
  rw [if_neg sqF] at H
  obtain ⟨rfl, rfl, rfl, rfl⟩ := sqO4 H
  go_enter Tryz.func17, Tryz.ntmps17
  go_wp2_with (first | ((with_reducible refine gate_dst (N := 2) rfl ?_); refine sqBox (N := 2) (cs := #[.int .i64 a0_0, .int .i64 a0_1, .slice A0_2 l0_2.length c0_2]) (t := 34) ?_; intro gb363 hg w19 BK363 hb; have GW363 := Aside0.mk ((sqG hg (sqB HB))); have GE363 := GW363; replace HB := sqS (sqB HB) hb; clear hb hg) | ((with_reducible refine gate_dst (N := 3) rfl ?_); refine sqBox (N := 3) (cs := #[.int .i64 a1_0, .string a1_1]) (t := 38) ?_; intro gb364 hg w20 BK364 hb; have GW364 := Aside0.mk ((sqG hg (sqB1 HB GE363))); have GE364 := GW364; replace HB := sqS (sqB1 HB GE363) hb; obtain ⟨NB363_364, NB364_363⟩ := sqM hg BK363; replace BK363 := sqT BK363 hb; clear hb hg) | ((with_reducible refine gate_dst (N := 4) rfl ?_); refine sqBox (N := 4) (cs := #[.int .i64 0, .int .i64 0, .slice none 0 0]) (t := 34) ?_; intro gb365 hg w21 BK365 hb; have GW365 := Aside0.mk ((sqG hg (sqB2 HB GE363 GE364))); have GE365 := GW365; replace HB := sqS (sqB2 HB GE363 GE364) hb; obtain ⟨NB363_365, NB365_363⟩ := sqM hg BK363; replace BK363 := sqT BK363 hb; obtain ⟨NB364_365, NB365_364⟩ := sqM hg BK364; replace BK364 := sqT BK364 hb; clear hb hg; have hnb22 := NB363_364.out; have hnc22 := NB364_363.out; have hnb23 := NB363_365.out; have hnc23 := NB365_363.out; obtain ⟨hcz24_0, hcz24_1, hcz24_2, hfz24_0, hfz24_1, hfz24_2⟩ := sqY3 BK363) | ((with_reducible refine gate_callee (f := 60) rfl ?_); refine goesL_ (some 7) rfl rfl Tryz.func60 (by kernel_rfl) rfl #[.agg #[.int .i64 a0_0, .int .i64 a0_1, .slice A0_2 l0_2.length c0_2]] rfl sqA ?_; (with_reducible refine (impl_isDesk.calls k a0_0 a0_1 _ _ l0_2 false _ ?side1 ?side2 A3.out).mono ?_); (case side1 => exact Z6); (case side2 => exact HC0_2.out); rintro e w25 ⟨rfl, hb⟩; refine ⟨_, rfl, ?_⟩; replace BK363 := sqT BK363 hb; replace BK364 := sqT BK364 hb; replace BK365 := sqT BK365 hb; replace HB := sqS (sqB3 HB GE363 GE364 GE365) hb; (try clear hb); have hnb26 := NB365_364.out; have hnc26 := NB364_365.out; obtain ⟨hcz27_0, hcz27_1, hcz27_2, hfz27_0, hfz27_1, hfz27_2⟩ := sqY3 BK365))
  refine bodyPost_ret (results_ct rfl _ _ gb365 34 #[.int .i64 0, .int .i64 0, .slice none 0 0] (0, 0) _ rfl (Z32 BK365) Tryz.underlying34 rfl (by kernel_rfl)) rfl ?_
  exact ⟨_, Z3, Z33, sqB3 HB GE363 GE364 GE365⟩

/-- A state of type 131 at block g of W; what its slices lead to came in by w0. -/
def IsS131 (w0 W : World) (g : Nat) (f0 : List Int) (f1 : Int) : Prop := ∃ A0 c0, W.heap[g]? = some (.cells #[.slice A0 f0.length c0, .int .i64 f1] 131 (0, 0)) ∧ w0.heap.size ≤ g ∧ Kd.C (Kd.int .u8) w0 A0 f0.length f0
theorem IsS131.grown {w0 W : World} {g : Nat} {f0 : List Int} {f1 : Int} {W1 : World} {row : Option Nat} (h : IsS131 w0 W g f0 f1) (hw : W.grownBy W1 row) (hne : some g ≠ row) : IsS131 w0 W1 g f0 f1 := by
 obtain ⟨A0, c0, hb, hg, hr0⟩ := h
 exact ⟨A0, c0, blk_grown hb hw hne, hg, hr0⟩
theorem IsS131.own_neN {w0 W : World} {g : Nat} {f0 : List Int} {f1 : Int} {α : Type} {d : Kd α} {e : Nat} {base : Nat} {ok : Nat → Prop} {v : Value} {xs : List α} (h : IsS131 w0 W g f0 f1) (ho : Kd.N d e W base ok v xs) (ht : e ≠ 131) : some g ≠ v.ownBlock := by
 obtain ⟨A0, c0, hb, hg, hr0⟩ := h
 exact Kd.N_ne ho hb ht
theorem IsS131.fresh {w0 W : World} {g : Nat} {f0 : List Int} {f1 : Int} (h : IsS131 w0 W g f0 f1) : ∀ k, W.heap.size ≤ k → k ≠ g := by
 obtain ⟨A0, c0, hb, hg, hr0⟩ := h
 exact Kd.freshB hb
theorem IsS131.kept {w0 W : World} {g : Nat} {f0 : List Int} {f1 : Int} {W1 : World} {S : Nat → Prop} (h : IsS131 w0 W g f0 f1) (hk : Kept W W1 S) (hne : ¬ S g) : IsS131 w0 W1 g f0 f1 := by
 obtain ⟨A0, c0, hb, hg, hr0⟩ := h
 exact ⟨A0, c0, blk_kept hb hk hne, hg, hr0⟩
theorem IsS131.below {w0 W : World} {g : Nat} {f0 : List Int} {f1 : Int} {W1 : World} (h : IsS131 w0 W g f0 f1) (hw : Below W.heap.size W W1) : IsS131 w0 W1 g f0 f1 := h.grown (grown_of_below hw none) (by simp)
theorem IsS131.alloc {w0 W : World} {g : Nat} {f0 : List Int} {f1 : Int} (h : IsS131 w0 W g f0 f1) (o : Obj) : IsS131 w0 (W.alloc o) g f0 f1 := h.below (below_alloc (Below.refl _ _) o)
theorem IsS131.drewN {w0 W : World} {g : Nat} {f0 : List Int} {f1 : Int} (h : IsS131 w0 W g f0 f1) (m : Nat) : IsS131 w0 (W.drewN m) g f0 f1 := h
theorem IsS131.drew {w0 W : World} {g : Nat} {f0 : List Int} {f1 : Int} (h : IsS131 w0 W g f0 f1) : IsS131 w0 W.drew g f0 f1 := h
theorem IsS131.at_ {w0 W : World} {g : Nat} {f0 : List Int} {f1 : Int} {w' : World} {m : Nat} (hq : W.drewN m = w') (h : IsS131 w0 W g f0 f1) : IsS131 w0 w' g f0 f1 := by subst hq; exact IsS131.drewN h m
theorem IsS131.apart {w0 W : World} {g : Nat} {f0 : List Int} {f1 : Int} {α : Type} {d : Kd α} {e : Nat} {base : Nat} {ok : Nat → Prop} {v : Value} {xs : List α} (h : IsS131 w0 W g f0 f1) (ho : d.R e W base ok v xs) (ht : ∀ q, q ∈ e :: d.E → q ≠ 131) : d.R e W base (fun k => ok k ∧ k ≠ g) v xs := by
 obtain ⟨A0, c0, hb, hg, hr0⟩ := h
 exact Kd.R_types ho hb ht
theorem IsS131.own_ne {w0 W : World} {g : Nat} {f0 : List Int} {f1 : Int} {α : Type} {d : Kd α} {e : Nat} {base : Nat} {ok : Nat → Prop} {v : Value} {xs : List α} (h : IsS131 w0 W g f0 f1) (ho : d.R e W base ok v xs) (ht : e ≠ 131) : some g ≠ v.ownBlock := by
 obtain ⟨A0, c0, hb, hg, hr0⟩ := h
 exact Kd.R_ne ho hb ht
theorem IsS131.apartQ {w0 W : World} {g : Nat} {f0 : List Int} {f1 : Int} {α : Type} {d : Kd α} {e : Nat} {base : Nat} {ok : Nat → Prop} {v : Value} {xs : List α} (h : IsS131 w0 W g f0 f1) (ho : d.Q e W base ok v xs) (ht : ∀ q, q ∈ e :: d.E → q ≠ 131) : d.Q e W base (fun k => ok k ∧ k ≠ g) v xs := by
 obtain ⟨A0, c0, hb, hg, hr0⟩ := h
 exact Kd.Q_types ho hb ht
theorem IsS131.own_neQ {w0 W : World} {g : Nat} {f0 : List Int} {f1 : Int} {α : Type} {d : Kd α} {e : Nat} {base : Nat} {ok : Nat → Prop} {v : Value} {xs : List α} (h : IsS131 w0 W g f0 f1) (ho : d.Q e W base ok v xs) (ht : e ≠ 131) : some g ≠ v.ownBlock := by
 obtain ⟨A0, c0, hb, hg, hr0⟩ := h
 exact Kd.Q_ne ho hb ht
theorem IsS131.apartS {w0 W : World} {g : Nat} {f0 : List Int} {f1 : Int} {α : Type} {d : Kd α} {e : Nat} {base : Nat} {ok : Nat → Prop} {v : Value} {xs : List α} (h : IsS131 w0 W g f0 f1) (ho : d.S e W base ok v xs) (ht : ∀ q, q ∈ e :: d.E → q ≠ 131) : d.S e W base (fun k => ok k ∧ k ≠ g) v xs := by
 obtain ⟨A0, c0, hb, hg, hr0⟩ := h
 exact Kd.S_types ho hb ht
theorem IsS131.own_neS {w0 W : World} {g : Nat} {f0 : List Int} {f1 : Int} {α : Type} {d : Kd α} {e : Nat} {base : Nat} {ok : Nat → Prop} {v : Value} {xs : List α} (h : IsS131 w0 W g f0 f1) (ho : d.S e W base ok v xs) (ht : e ≠ 131) : some g ≠ v.ownBlock := by
 obtain ⟨A0, c0, hb, hg, hr0⟩ := h
 exact Kd.S_ne ho hb ht
theorem IsS131.lt {w0 W : World} {g : Nat} {f0 : List Int} {f1 : Int} (h : IsS131 w0 W g f0 f1) : g < W.heap.size := by
 obtain ⟨A0, c0, hb, hg, hr0⟩ := h
 exact blk_lt hb
theorem IsS131.ge {w0 W : World} {g : Nat} {f0 : List Int} {f1 : Int} (h : IsS131 w0 W g f0 f1) : w0.heap.size ≤ g := by
 obtain ⟨A0, c0, hb, hg, hr0⟩ := h
 exact hg
theorem IsS131.ne_blk {w0 W : World} {g : Nat} {f0 : List Int} {f1 : Int} {a : Nat} {cs : Array Value} {t : TypeId} {fr : Nat × Nat} (h : IsS131 w0 W g f0 f1) (hb2 : W.heap[a]? = some (.cells cs t fr)) (ht : t ≠ 131) : g ≠ a := by
 obtain ⟨A0, c0, hb, hg, hr0⟩ := h
 rintro rfl
 rw [hb] at hb2
 injection hb2 with hb2
 injection hb2 with _ ht2
 exact ht ht2.symm
theorem IsS131.far {w0 W : World} {g : Nat} {f0 : List Int} {f1 : Int} {p : Addr} (h : IsS131 w0 W g f0 f1) (hne : g ≠ p.block) (u : Value) : IsS131 w0 (W.setCell p u) g f0 f1 := by
 obtain ⟨A0, c0, hb, hg, hr0⟩ := h
 exact ⟨A0, c0, blk_far hb hne u, hg, hr0⟩
theorem cellS131_0 {W : World} {g : Nat} {A0 : Option Addr} {c0 : Nat} {f0 : List Int} {f1 : Int} (h : W.heap[g]? = some (.cells #[.slice A0 f0.length c0, .int .i64 f1] 131 (0, 0))) : W.cell? ⟨g, 0, none⟩ = some (.slice A0 f0.length c0) := (blk_cell h 0).trans rfl
theorem cellS131_1 {W : World} {g : Nat} {A0 : Option Addr} {c0 : Nat} {f0 : List Int} {f1 : Int} (h : W.heap[g]? = some (.cells #[.slice A0 f0.length c0, .int .i64 f1] 131 (0, 0))) : W.cell? ⟨g, 1, none⟩ = some (.int .i64 f1) := (blk_cell h 1).trans rfl
theorem IsS131.set_1 {w0 W : World} {g : Nat} {f0 : List Int} {f1 : Int} (h : IsS131 w0 W g f0 f1) (x : Int) : IsS131 w0 (W.setCell ⟨g, 1, none⟩ (.int .i64 x)) g f0 x := by
 obtain ⟨A0, c0, hb, hg, hr0⟩ := h
 exact ⟨A0, c0, by simpa using blk_set hb 1 (.int .i64 x), hg, hr0⟩
theorem IsS131.new (w0 W : World) (A0 : Option Addr) (c0 : Nat) (f0 : List Int) (f1 : Int) (hB : Below w0.heap.size w0 W) (hr0 : Kd.C (Kd.int .u8) w0 A0 f0.length f0) : IsS131 w0 (W.alloc (.cells #[.slice A0 f0.length c0, .int .i64 f1] 131)) W.heap.size f0 f1 := ⟨A0, c0, by simpa using heap_alloc_new W _, hB.size, hr0⟩

/-! ### spec_l20Open: function 66 -/
def spec_l20Open.f (l0 : List Int) : Option (List Int × Int) := if (l0.length : Int) > 2000 then (if 2000 ≤ (l0.length : Int) then (some (l0.take 2000, 0)) else (none)) else (some (l0, 0))
set_option maxHeartbeats 8000000 in
set_option maxRecDepth 100000 in
theorem spec_l20Open.calls (A0 : Option Addr) (c0 : Nat) (l0 : List Int) (r1 : List Int) (r2 : Int) (w0 w : World) (hB : Below w0.heap.size w0 w) (hr0 : Kd.C (Kd.int .u8) w0 A0 l0.length l0) (hc0 : l0.length ≤ c0) (h : spec_l20Open.f l0 = some (r1, r2)) :
  Calls Tryz.prog 66 #[.slice A0 l0.length c0] w fun e w' => ∃ g_ : Nat, e = .returned (.pointer (some ⟨g_, 0, none⟩)) ∧ IsS131 w0 w' g_ r1 r2 ∧ Below w0.heap.size w0 w' ∧ Below w.heap.size w w' := by
 have hu131 := Tryz.underlying131
 have HR0 := Aside0.mk hr0
 have HC0 := Aside0.mk hc0
 clear hr0 hc0
 have HBW := Aside0.mk (Below.refl w.heap.size w)
 have HW0 := Aside0.mk hB.size
 have HB := Aside0.mk hB
 clear hB
 have H : (if (l0.length : Int) > 2000 then (if 2000 ≤ (l0.length : Int) then (some (l0.take 2000, 0)) else (none)) else (some (l0, 0))) = some (r1, r2) := h
 clear h
 by_cases c2 : (l0.length : Int) > 2000
 ·rw [if_pos c2] at H
  have c2b0 : decide (2000 < (l0.length : Int)) = true := decide_eq_true c2
  have c2b1 : decide (2000 < l0.length) = true := decide_eq_true (by omega)
  clear c2
  obtain ⟨c3, H⟩ := sqI H
  have c3b0 := eq_true c3
  have c3b1 : decide (2000 ≤ (l0.length : Int)) = true := decide_eq_true c3
  clear c3
  obtain ⟨rfl, rfl⟩ := sqO2 H
  obtain ⟨i04, hi04, _, hsz4, _⟩ := info_parts info5
  obtain ⟨hcut4, hA4, hC4⟩ := print_take_of (P := Tryz.prog) (Value.int .u8) 0 43 5 .i64 Tryz.underlying43 hi04 hsz4 A0 c0 l0 2000 (by omega) (of_decide_eq_true Z2) HC0.out
  have HR373 := Aside0.mk (Kd.C_of_reads (h1 := fun _ => rfl) (hA4 _ (Kd.reads_of_C HR0.out)))
  have HC373 := Aside0.mk hC4
  clear hA4 hC4 hi04 hsz4
  go_enter Tryz.func66, Tryz.ntmps66
  go_wp2_with (first | ((with_reducible refine gate_dst (N := 10) rfl ?_); refine sqBox (N := 10) (cs := #[.slice A0 (l0.take 2000).length c0, .int .i64 0]) (t := 131) ?_; intro gb374 hg w5 BK374 hb; replace HB := sqS (sqB HB) hb; have GW374 := Aside0.mk ((sqG hg (sqB HBW))); have GE374 := Aside0.mk ((Nat.le_trans HW0.out (sqG hg (sqB HBW)) : w0.heap.size ≤ gb374)); replace HBW := Aside0.mk (below_step HBW.out hb); clear hb hg))
  go_ret
  exact ⟨_, rfl, (show IsS131 w0 _ gb374 (l0.take 2000) 0 from ⟨_, _, by exact sqK BK374, GE374.out, HR373.out⟩), sqB1 HB GE374, sqB1 HBW GW374⟩
 ·rw [if_neg c2] at H
  have c2b0 : decide (2000 < (l0.length : Int)) = false := decide_eq_false c2
  have c2b1 : decide (2000 < l0.length) = false := decide_eq_false (by omega)
  clear c2
  obtain ⟨rfl, rfl⟩ := sqO2 H
  go_enter Tryz.func66, Tryz.ntmps66
  go_wp2_with (first | ((with_reducible refine gate_dst (N := 10) rfl ?_); refine sqBox (N := 10) (cs := #[.slice A0 l0.length c0, .int .i64 0]) (t := 131) ?_; intro gb375 hg w6 BK375 hb; replace HB := sqS (sqB HB) hb; have GW375 := Aside0.mk ((sqG hg (sqB HBW))); have GE375 := Aside0.mk ((Nat.le_trans HW0.out (sqG hg (sqB HBW)) : w0.heap.size ≤ gb375)); replace HBW := Aside0.mk (below_step HBW.out hb); clear hb hg))
  go_ret
  exact ⟨_, rfl, (show IsS131 w0 _ gb375 l0 0 from ⟨_, _, by exact sqK BK375, GE375.out, HR0.out⟩), sqB1 HB GE375, sqB1 HBW GW375⟩

end Go.Proofs.YtofmlbgfcohhoaaGreatDoor.PFnDeskDo
