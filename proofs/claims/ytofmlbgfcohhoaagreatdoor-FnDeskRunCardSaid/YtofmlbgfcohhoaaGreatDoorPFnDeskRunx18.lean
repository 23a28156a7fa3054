/- Lean functions of the Go functions that the law FnDeskRun reaches, each with its contract: made by a program of this session. -/
import Derived.Test.YtofmlbgfcohhoaaGreatDoorPFnDeskRunx0
import Derived.Test.YtofmlbgfcohhoaaGreatDoorPFnDeskRunx1
import Derived.Test.YtofmlbgfcohhoaaGreatDoorPFnDeskRunx2
import Derived.Test.YtofmlbgfcohhoaaGreatDoorPFnDeskRunx15
import Derived.Test.YtofmlbgfcohhoaaGreatDoorPFnDeskRunx17
namespace Go.Proofs.YtofmlbgfcohhoaaGreatDoor.PFnDeskRun
open Go.RowKit Go.Proofs.YtofmlbgfcohhoaaGreatDoorW.PrintWords Go.Proofs.YtofmlbgfcohhoaaGreatDoorW.PrintLast Go.Proofs.YtofmlbgfcohhoaaGreatDoorW.PrintMore Go.Proofs.YtofmlbgfcohhoaaGreatDoor.Lib
attribute [local go_sem] max2_int min2_int max_two min_two max_three min_three max_four min_four   -- for this text's walks alone
set_option linter.unusedVariables false
set_option linter.unusedSimpArgs false

attribute [local go_sem high] eqA31 eqA38
/-! ### impl_deskDo: function 61 -/
def impl_deskDo.j0 : Nat → Bool → Int → Int → List (S31) → Int → Int → Option (Int × Int × (List (S31)) × Bool)
 | 0, _, _, _, _, _, _ => none
 | k + 1, x48, x490000, x490001, x490002, x504000, x504001 => if x48 = true then (some (x490000, x490001, x490002, false)) else (if x490002.length < 8796093022208 then ((some (x490002 ++ [(⟨x490000, x490001⟩ : S31)] : List (S31))).bind fun y504 => (if (y504.length : Int) > 8 then (if 1 ≤ (y504.length : Int) then ((impl_copyDesk.f x504000 x504001 (y504.drop (1 : Int).toNat)).bind fun bt510 => (some (bt510.1, bt510.2.1, bt510.2.2, true))) else (none)) else ((impl_copyDesk.f x504000 x504001 y504).bind fun bt515 => (some (bt515.1, bt515.2.1, bt515.2.2, true))))) else (none))
def impl_deskDo.f (k : Nat) (a0_0 : Int) (a0_1 : Int) (l0_2 : List (S31)) (a1_0 : Int) (a1_1 : ByteArray) : Option (Int × Int × (List (S31)) × Bool) := (impl_copyDesk.f a0_0 a0_1 l0_2).bind fun bt484 => (if (a1_0 == 4 && (a1_1.toList == ([] : List UInt8))) = true then (if (wrap64 ((bt484.2.2.length : Int) - 1)) < 0 then (some (bt484.1, bt484.2.1, bt484.2.2, false)) else (if 0 ≤ (wrap64 ((bt484.2.2.length : Int) - 1)) then (if (wrap64 ((bt484.2.2.length : Int) - 1)) < (bt484.2.2.length : Int) then (if (wrap64 ((bt484.2.2.length : Int) - 1)) ≤ (bt484.2.2.length : Int) then ((impl_copyDesk.f ((rd_T31 bt484.2.2 (wrap64 ((bt484.2.2.length : Int) - 1))).f0) ((rd_T31 bt484.2.2 (wrap64 ((bt484.2.2.length : Int) - 1))).f1) (bt484.2.2.take ((wrap64 ((bt484.2.2.length : Int) - 1)) : Int).toNat)).bind fun bt495 => (some (bt495.1, bt495.2.1, bt495.2.2, true))) else (none)) else (none)) else (none))) else ((impl_nextFraction.f k a0_0 a0_1 a1_0 a1_1).bind fun bt500 => (if bt500.2.2 = true then (impl_deskDo.j0 k (bt500.1 == a0_0 && (bt500.2.1 == a0_1)) bt484.1 bt484.2.1 bt484.2.2 bt500.1 bt500.2.1) else (impl_deskDo.j0 k true bt484.1 bt484.2.1 bt484.2.2 bt500.1 bt500.2.1))))
theorem impl_deskDo.mono_l : ∀ k, (∀ y0 y1 y2 y3 y4 y5, LeO (impl_deskDo.j0 k y0 y1 y2 y3 y4 y5) (impl_deskDo.j0 (k + 1) y0 y1 y2 y3 y4 y5))
 | 0 => fun _ _ _ _ _ _ r h => by simp [impl_deskDo.j0] at h
 | k + 1 => by
  have ih0 := impl_deskDo.mono_l k
  ·intro y0 y1 y2 y3 y4 y5
   unfold impl_deskDo.j0
   repeat' first
   | (with_reducible exact ih0 _ _ _ _ _ _)
   | (with_reducible exact impl_nextFraction.mono _ _ _ _ _)
   | (with_reducible exact LeO.refl _)
   | (with_reducible exact LeO.none _)
   | (with_reducible refine LeO.ite ?_ ?_)
   | (with_reducible refine LeO.bind ?_ (fun _ => ?_))
theorem impl_deskDo.mono : ∀ a0 a1 a2 a3 a4 k, LeO (impl_deskDo.f k a0 a1 a2 a3 a4) (impl_deskDo.f (k + 1) a0 a1 a2 a3 a4) := by
 intro a0 a1 a2 a3 a4 k
 have ih0 := impl_deskDo.mono_l k
 unfold impl_deskDo.f
 repeat' first
   | (with_reducible exact ih0 _ _ _ _ _ _)
   | (with_reducible exact impl_nextFraction.mono _ _ _ _ _)
   | (with_reducible exact LeO.refl _)
   | (with_reducible exact LeO.none _)
   | (with_reducible refine LeO.ite ?_ ?_)
   | (with_reducible refine LeO.bind ?_ (fun _ => ?_))
def impl_deskDo.T6 : Bool × List (List Nat × List Nat) := (true, [([], []), ([0], [0]), ([], []), ([1, 2], [1, 2]), ([3], [3]), ([], []), ([5], [5]), ([], []), ([6, 7], [6, 7]), ([4, 8], [4, 8]), ([9], [9]), ([10, 10, 0, 1, 2, 3, 4, 5, 6, 7, 8, 9, 10], [10]), ([11, 0, 1, 2, 3, 4, 5, 6, 7, 8, 9, 10, 11], [])])
def impl_deskDo.B6 : List Nat := [0, 1, 0, 7, 15, 0, 32, 0, 224, 511, 1023, 2047, 4095]
theorem impl_deskDo.tab6 : rtab .any (opsOf Tryz.f61 6) = impl_deskDo.T6 := by kernel_rfl
theorem impl_deskDo.bits6 : waitsOk impl_deskDo.T6.2 impl_deskDo.B6 = true := by kernel_rfl
set_option maxHeartbeats 8000000 in
set_option maxRecDepth 100000 in
theorem impl_deskDo.calls (k : Nat) (a0_0 : Int) (a0_1 : Int) (A0_2 : Option Addr) (c0_2 : Nat) (l0_2 : List (S31)) (a1_0 : Int) (a1_1 : ByteArray) (r1 : Int) (r2 : Int) (r3 : List (S31)) (r4 : Bool) (w : World) (hG : Glob w) (hr0_2 : Kd.C k31 w A0_2 l0_2.length l0_2) (hc0_2 : l0_2.length ≤ c0_2) (h : impl_deskDo.f k a0_0 a0_1 l0_2 a1_0 a1_1 = some (r1, r2, r3, r4)) :
  Calls Tryz.prog 61 #[.agg #[.int .i64 a0_0, .int .i64 a0_1, .slice A0_2 l0_2.length c0_2], .agg #[.int .i64 a1_0, .string a1_1]] w fun e w' => ∃ v2_ : Value, e = .returned (.tuple #[.agg #[.int .i64 r1, .int .i64 r2, v2_], .bool r4]) ∧ Kd.R k31 31 w' w.heap.size (fun _ => True) v2_ r3 ∧ Below w.heap.size w w' := by
 have hu34 := Tryz.underlying34
 have hu38 := Tryz.underlying38
 have hu31 := Tryz.underlying31
 have HR0_2 := Aside0.mk hr0_2
 have HC0_2 := Aside0.mk hc0_2
 clear hr0_2 hc0_2
 have HB := Aside0.mk (Below.refl w.heap.size w)
 have H : ((impl_copyDesk.f a0_0 a0_1 l0_2).bind fun bt484 => (if (a1_0 == 4 && (a1_1.toList == ([] : List UInt8))) = true then (if (wrap64 ((bt484.2.2.length : Int) - 1)) < 0 then (some (bt484.1, bt484.2.1, bt484.2.2, false)) else (if 0 ≤ (wrap64 ((bt484.2.2.length : Int) - 1)) then (if (wrap64 ((bt484.2.2.length : Int) - 1)) < (bt484.2.2.length : Int) then (if (wrap64 ((bt484.2.2.length : Int) - 1)) ≤ (bt484.2.2.length : Int) then ((impl_copyDesk.f ((rd_T31 bt484.2.2 (wrap64 ((bt484.2.2.length : Int) - 1))).f0) ((rd_T31 bt484.2.2 (wrap64 ((bt484.2.2.length : Int) - 1))).f1) (bt484.2.2.take ((wrap64 ((bt484.2.2.length : Int) - 1)) : Int).toNat)).bind fun bt495 => (some (bt495.1, bt495.2.1, bt495.2.2, true))) else (none)) else (none)) else (none))) else ((impl_nextFraction.f k a0_0 a0_1 a1_0 a1_1).bind fun bt500 => (if bt500.2.2 = true then (impl_deskDo.j0 k (bt500.1 == a0_0 && (bt500.2.1 == a0_1)) bt484.1 bt484.2.1 bt484.2.2 bt500.1 bt500.2.1) else (impl_deskDo.j0 k true bt484.1 bt484.2.1 bt484.2.2 bt500.1 bt500.2.1))))) = some (r1, r2, r3, r4) := h
 clear h
 obtain ⟨⟨t484, t485, t486⟩, A3, H⟩ := sqD H
 try dsimp only at H
 by_cases c4 : (a1_0 == 4 && (a1_1.toList == ([] : List UInt8))) = true
 ·rw [if_pos c4] at H
  have c4b0 : (a1_0 == 4 && (a1_1.toList == ([] : List UInt8))) = true := c4
  try have c4b8 : (a1_0 == 4 && a1_1.toList.isEmpty) = true := by (have h_ := c4b0; (repeat rw [show ∀ z : List UInt8, (z == ([] : List UInt8)) = z.isEmpty from fun z => by cases z <;> rfl] at h_); exact h_)
  (try (have c4b1 : decide (a1_0 = 4 && (a1_1.toList == ([] : List UInt8))) = true := by simpa using c4))
  (try (have c4b2 : (a1_0 == 4 && (a1_1.toList == ([] : List UInt8))) = true := by simpa using c4))
  clear c4
  by_cases c5 : (wrap64 ((t486.length : Int) - 1)) < 0
  ·rw [if_pos c5] at H
   have c5b0 : decide ((wrap64 ((t486.length : Int) - 1)) < 0) = true := decide_eq_true c5
   clear c5
   simp only [Option.some.injEq, Prod.mk.injEq] at H
   obtain ⟨rfl, rfl, rfl, rfl⟩ := H
   go_enter Tryz.func61, Tryz.ntmps61
   go_wp2_with (first | ((with_reducible refine gate_dst (N := 2) rfl ?_); refine sqBox (N := 2) (cs := #[.int .i64 a0_0, .int .i64 a0_1, .slice A0_2 l0_2.length c0_2]) (t := 34) ?_; intro gb481 hg w6 BK481 hb; have GW481 := Aside0.mk ((sqG hg (sqB HB))); have GE481 := GW481; replace HB := sqS (sqB HB) hb; clear hb hg) | ((with_reducible refine gate_dst (N := 3) rfl ?_); refine sqBox (N := 3) (cs := #[.int .i64 a1_0, .string a1_1]) (t := 38) ?_; intro gb482 hg w7 BK482 hb; have GW482 := Aside0.mk ((sqG hg (sqB1 HB GE481))); have GE482 := GW482; replace HB := sqS (sqB1 HB GE481) hb; obtain ⟨NB481_482, NB482_481⟩ := sqM hg BK481; replace BK481 := sqT BK481 hb; clear hb hg) | ((with_reducible refine gate_dst (N := 4) rfl ?_); refine sqBox (N := 4) (cs := #[.int .i64 0, .int .i64 0, .slice none 0 0]) (t := 34) ?_; intro gb483 hg w8 BK483 hb; have GW483 := Aside0.mk ((sqG hg (sqB2 HB GE481 GE482))); have GE483 := GW483; replace HB := sqS (sqB2 HB GE481 GE482) hb; obtain ⟨NB481_483, NB483_481⟩ := sqM hg BK481; replace BK481 := sqT BK481 hb; obtain ⟨NB482_483, NB483_482⟩ := sqM hg BK482; replace BK482 := sqT BK482 hb; clear hb hg; have hnb9 := NB481_482.out; have hnc9 := NB482_481.out; have hnb10 := NB481_483.out; have hnc10 := NB483_481.out; obtain ⟨hcz11_0, hcz11_1, hcz11_2, hfz11_0, hfz11_1, hfz11_2⟩ := sqY3 BK481) | ((with_reducible refine gate_callee (f := 76) rfl ?_); refine goesL_ (some 12) rfl rfl Tryz.func76 (by kernel_rfl) rfl #[.agg #[.int .i64 a0_0, .int .i64 a0_1, .slice A0_2 l0_2.length c0_2]] rfl sqA ?_; (with_reducible refine (impl_copyDesk.calls a0_0 a0_1 _ _ l0_2 t484 t485 t486 _ ?side1 ?side2 A3.out).mono ?_); (case side1 => exact Z1); (case side2 => exact HC0_2.out); rintro e w12 ⟨v487, rfl, ho0, hb⟩; refine ⟨_, rfl, ?_⟩; have HO488 := sqL ho0 (sqB3 HB GE481 GE482 GE483); replace BK481 := sqT BK481 hb; replace BK482 := sqT BK482 hb; replace BK483 := sqT BK483 hb; replace HB := sqS (sqB3 HB GE481 GE482 GE483) hb; (try clear hb); (try clear ho0)) | ((with_reducible refine gate_dst (N := 6) rfl ?_); refine sqBox (N := 6) (cs := #[.int .i64 0, .int .i64 0, .slice none 0 0]) (t := 34) ?_; intro gb489 hg w13 BK489 hb; replace HO488 := sqU HO488 hb; have GW489 := Aside0.mk ((sqG hg (sqB3 HB GE481 GE482 GE483))); have GE489 := GW489; replace HB := sqS (sqB3 HB GE481 GE482 GE483) hb; obtain ⟨NB481_489, NB489_481⟩ := sqM hg BK481; replace BK481 := sqT BK481 hb; obtain ⟨NB482_489, NB489_482⟩ := sqM hg BK482; replace BK482 := sqT BK482 hb; obtain ⟨NB483_489, NB489_483⟩ := sqM hg BK483; replace BK483 := sqT BK483 hb; clear hb hg; have hnb14 := NB489_481.out; have hnc14 := NB481_489.out; have hnb15 := NB489_482.out; have hnc15 := NB482_489.out; have hnb16 := NB489_483.out; have hnc16 := NB483_489.out; obtain ⟨hcz17_0, hcz17_1, hcz17_2, hfz17_0, hfz17_1, hfz17_2⟩ := sqY3 BK489; obtain ⟨Ao18, co18, eo18⟩ := Kd.R_slice HO488.out; subst eo18; have hnb19 := NB482_483.out; have hnc19 := NB483_482.out; obtain ⟨hcz20_0, hcz20_1, hfz20_0, hfz20_1⟩ := sqY2 BK482; obtain ⟨hcz21_0, hcz21_1, hcz21_2, hfz21_0, hfz21_1, hfz21_2⟩ := sqY3 BK483))
   refine bodyPost_ret (results_ct rfl _ _ gb483 34 #[.int .i64 t484, .int .i64 t485, .slice Ao18 t486.length co18] (0, 0) _ rfl (by refine sqPut (cs := #[.int .i64 t484, .int .i64 t485, .slice none 0 0]) ?_ 2; refine sqPut (cs := #[.int .i64 t484, .int .i64 0, .slice none 0 0]) ?_ 1; refine sqPut (cs := #[.int .i64 0, .int .i64 0, .slice none 0 0]) ?_ 0; refine sqFar ?_ NB483_489; refine sqFar ?_ NB483_489; refine sqFar ?_ NB483_489; exact sqK BK483) Tryz.underlying34 rfl (by kernel_rfl)) rfl ?_
   exact ⟨_, Z15, by (with_reducible repeat (first | apply Kd.R_alloc | apply Kd.R_drewN | apply Kd.R_drew)); exact Kd.R_mono (Kd.R_far (p := ⟨gb483, 2, none⟩) (Kd.R_far (p := ⟨gb483, 1, none⟩) (Kd.R_far (p := ⟨gb483, 0, none⟩) (Kd.R_far (p := ⟨gb489, 2, none⟩) (Kd.R_far (p := ⟨gb489, 1, none⟩) (Kd.R_far (p := ⟨gb489, 0, none⟩) (Kd.R_types (Kd.R_types HO488.out BK489.out (by decide)) BK483.out (by decide)) (fun _ hk => hk.1.2) (.int .i64 t484)) (fun _ hk => hk.1.2) (.int .i64 t485)) (fun _ hk => hk.1.2) (.slice Ao18 t486.length co18)) (fun _ hk => hk.2) (.int .i64 t484)) (fun _ hk => hk.2) (.int .i64 t485)) (fun _ hk => hk.2) (.slice Ao18 t486.length co18)) (fun _ hk => trivial), sqB4 HB GE481 GE482 GE483 GE489⟩
  ·rw [if_neg c5] at H
   have c5b0 : decide ((wrap64 ((t486.length : Int) - 1)) < 0) = false := decide_eq_false c5
   clear c5
   obtain ⟨ji22, hji22⟩ : ∃ j_ : Int, (wrap64 ((t486.length : Int) - 1)) = j_ := ⟨_, rfl⟩
   replace H : (if 0 ≤ (ji22) then (if (ji22) < (t486.length : Int) then (if (ji22) ≤ (t486.length : Int) then ((impl_copyDesk.f ((rd_T31 t486 (ji22)).f0) ((rd_T31 t486 (ji22)).f1) (t486.take ((ji22) : Int).toNat)).bind fun bt495 => (some (bt495.1, bt495.2.1, bt495.2.2, true))) else (none)) else (none)) else (none)) = some (r1, r2, r3, r4) := by first | (rw [hji22] at H; exact H) | (simp only [hji22] at H ⊢; exact H)
   (try rw [hji22] at c5b0)
   (try rw [hji22] at A3)
   have hji22w : (IntKind.i64.wrap ((t486.length : Int) - 1)) = ji22 := (i64_w _).trans hji22
   obtain ⟨c23, H⟩ := sqI H
   have c23b0 : decide (0 ≤ (ji22)) = true := decide_eq_true c23
   clear c23
   obtain ⟨c24, H⟩ := sqI H
   have c24b0 : decide ((ji22) < (t486.length : Int)) = true := decide_eq_true c24
   clear c24
   have c25b0 := eq_true (of_decide_eq_true Z7 : 0 ≤ (ji22))
   obtain ⟨c26, H⟩ := sqI H
   have c26b0 := eq_true c26
   have c26b1 : decide ((ji22) ≤ (t486.length : Int)) = true := decide_eq_true c26
   clear c26
   obtain ⟨y491, hy491⟩ : ∃ y_ : List (S31), y_ = (t486.take ((ji22) : Int).toNat) := ⟨_, rfl⟩
   replace H : ((impl_copyDesk.f ((rd_T31 t486 (ji22)).f0) ((rd_T31 t486 (ji22)).f1) y491).bind fun bt495 => (some (bt495.1, bt495.2.1, bt495.2.2, true))) = some (r1, r2, r3, r4) := sqW hy491 H
   have Ny491 := Aside0.mk hy491
   clear hy491
   obtain ⟨⟨t495, t496, t497⟩, A27, H⟩ := sqD H
   try dsimp only at H
   simp only [Option.some.injEq, Prod.mk.injEq] at H
   obtain ⟨rfl, rfl, rfl, rfl⟩ := H
   go_enter Tryz.func61, Tryz.ntmps61
   try go_wp2_with (first | ((with_reducible refine gate_dst (N := 2) rfl ?_); refine sqBox (N := 2) (cs := #[.int .i64 a0_0, .int .i64 a0_1, .slice A0_2 l0_2.length c0_2]) (t := 34) ?_; intro gb481 hg w28 BK481 hb; have GW481 := Aside0.mk ((sqG hg (sqB HB))); have GE481 := GW481; replace HB := sqS (sqB HB) hb; clear hb hg) | ((with_reducible refine gate_dst (N := 3) rfl ?_); refine sqBox (N := 3) (cs := #[.int .i64 a1_0, .string a1_1]) (t := 38) ?_; intro gb482 hg w29 BK482 hb; have GW482 := Aside0.mk ((sqG hg (sqB1 HB GE481))); have GE482 := GW482; replace HB := sqS (sqB1 HB GE481) hb; obtain ⟨NB481_482, NB482_481⟩ := sqM hg BK481; replace BK481 := sqT BK481 hb; clear hb hg) | ((with_reducible refine gate_dst (N := 4) rfl ?_); refine sqBox (N := 4) (cs := #[.int .i64 0, .int .i64 0, .slice none 0 0]) (t := 34) ?_; intro gb483 hg w30 BK483 hb; have GW483 := Aside0.mk ((sqG hg (sqB2 HB GE481 GE482))); have GE483 := GW483; replace HB := sqS (sqB2 HB GE481 GE482) hb; obtain ⟨NB481_483, NB483_481⟩ := sqM hg BK481; replace BK481 := sqT BK481 hb; obtain ⟨NB482_483, NB483_482⟩ := sqM hg BK482; replace BK482 := sqT BK482 hb; clear hb hg; have hnb31 := NB481_482.out; have hnc31 := NB482_481.out; have hnb32 := NB481_483.out; have hnc32 := NB483_481.out; obtain ⟨hcz33_0, hcz33_1, hcz33_2, hfz33_0, hfz33_1, hfz33_2⟩ := sqY3 BK481) | ((with_reducible refine gate_callee (f := 76) rfl ?_); refine goesL_ (some 12) rfl rfl Tryz.func76 (by kernel_rfl) rfl #[.agg #[.int .i64 a0_0, .int .i64 a0_1, .slice A0_2 l0_2.length c0_2]] rfl sqA ?_; (with_reducible refine (impl_copyDesk.calls a0_0 a0_1 _ _ l0_2 t484 t485 t486 _ ?side1 ?side2 A3.out).mono ?_); (case side1 => exact Z1); (case side2 => exact HC0_2.out); rintro e w34 ⟨v487, rfl, ho0, hb⟩; refine ⟨_, rfl, ?_⟩; have HO488 := sqL ho0 (sqB3 HB GE481 GE482 GE483); replace BK481 := sqT BK481 hb; replace BK482 := sqT BK482 hb; replace BK483 := sqT BK483 hb; replace HB := sqS (sqB3 HB GE481 GE482 GE483) hb; (try clear hb); (try clear ho0)) | ((with_reducible refine gate_dst (N := 6) rfl ?_); refine sqBox (N := 6) (cs := #[.int .i64 0, .int .i64 0, .slice none 0 0]) (t := 34) ?_; intro gb489 hg w35 BK489 hb; replace HO488 := sqU HO488 hb; have GW489 := Aside0.mk ((sqG hg (sqB3 HB GE481 GE482 GE483))); have GE489 := GW489; replace HB := sqS (sqB3 HB GE481 GE482 GE483) hb; obtain ⟨NB481_489, NB489_481⟩ := sqM hg BK481; replace BK481 := sqT BK481 hb; obtain ⟨NB482_489, NB489_482⟩ := sqM hg BK482; replace BK482 := sqT BK482 hb; obtain ⟨NB483_489, NB489_483⟩ := sqM hg BK483; replace BK483 := sqT BK483 hb; clear hb hg; have hnb36 := NB489_481.out; have hnc36 := NB481_489.out; have hnb37 := NB489_482.out; have hnc37 := NB482_489.out; have hnb38 := NB489_483.out; have hnc38 := NB483_489.out; obtain ⟨hcz39_0, hcz39_1, hcz39_2, hfz39_0, hfz39_1, hfz39_2⟩ := sqY3 BK489; obtain ⟨Ao40, co40, eo40⟩ := Kd.R_slice HO488.out; subst eo40; have hnb41 := NB482_483.out; have hnc41 := NB483_482.out; obtain ⟨hcz42_0, hcz42_1, hfz42_0, hfz42_1⟩ := sqY2 BK482))
   have n0_ : Aside0 (Kd.R k31 31 (((w35.setCell ⟨gb489, 0, none⟩ (.int .i64 t484)).setCell ⟨gb489, 1, none⟩ (.int .i64 t485)).setCell ⟨gb489, 2, none⟩ (.slice Ao40 t486.length co40)) w.heap.size (fun _ => True) (.slice Ao40 t486.length co40) t486) := ⟨by (with_reducible repeat (first | apply Kd.R_alloc | apply Kd.R_drewN | apply Kd.R_drew)); exact Kd.R_mono (Kd.R_far (p := ⟨gb489, 2, none⟩) (Kd.R_far (p := ⟨gb489, 1, none⟩) (Kd.R_far (p := ⟨gb489, 0, none⟩) (Kd.R_types HO488.out BK489.out (by decide)) (fun _ hk => hk.2) (.int .i64 t484)) (fun _ hk => hk.2) (.int .i64 t485)) (fun _ hk => hk.2) (.slice Ao40 t486.length co40)) (fun _ hk => trivial)⟩
   have n1_ : Aside0 ((((w35.setCell ⟨gb489, 0, none⟩ (.int .i64 t484)).setCell ⟨gb489, 1, none⟩ (.int .i64 t485)).setCell ⟨gb489, 2, none⟩ (.slice Ao40 t486.length co40)).heap[gb481]? = some (.cells #[.int .i64 a0_0, .int .i64 a0_1, .slice A0_2 l0_2.length c0_2] 34 (0, 0))) := ⟨Z5 NB481_489 BK481⟩
   have n2_ : Aside0 ((((w35.setCell ⟨gb489, 0, none⟩ (.int .i64 t484)).setCell ⟨gb489, 1, none⟩ (.int .i64 t485)).setCell ⟨gb489, 2, none⟩ (.slice Ao40 t486.length co40)).heap[gb482]? = some (.cells #[.int .i64 a1_0, .string a1_1] 38 (0, 0))) := ⟨Z5 NB482_489 BK482⟩
   have n3_ : Aside0 ((((w35.setCell ⟨gb489, 0, none⟩ (.int .i64 t484)).setCell ⟨gb489, 1, none⟩ (.int .i64 t485)).setCell ⟨gb489, 2, none⟩ (.slice Ao40 t486.length co40)).heap[gb483]? = some (.cells #[.int .i64 0, .int .i64 0, .slice none 0 0] 34 (0, 0))) := ⟨Z5 NB483_489 BK483⟩
   have n4_ : Aside0 ((((w35.setCell ⟨gb489, 0, none⟩ (.int .i64 t484)).setCell ⟨gb489, 1, none⟩ (.int .i64 t485)).setCell ⟨gb489, 2, none⟩ (.slice Ao40 t486.length co40)).heap[gb489]? = some (.cells #[.int .i64 t484, .int .i64 t485, .slice Ao40 t486.length co40] 34 (0, 0))) := ⟨Z37 BK489⟩
   have n5_ : Aside0 (Below w.heap.size w (((w35.setCell ⟨gb489, 0, none⟩ (.int .i64 t484)).setCell ⟨gb489, 1, none⟩ (.int .i64 t485)).setCell ⟨gb489, 2, none⟩ (.slice Ao40 t486.length co40))) := ⟨sqB4 HB GE481 GE482 GE483 GE489⟩
   (try clear HO488)
   (try clear BK481)
   (try clear BK482)
   (try clear BK483)
   (try clear BK489)
   (try clear HB)
   generalize (((w35.setCell ⟨gb489, 0, none⟩ (.int .i64 t484)).setCell ⟨gb489, 1, none⟩ (.int .i64 t485)).setCell ⟨gb489, 2, none⟩ (.slice Ao40 t486.length co40)) = w43 at n0_ n1_ n2_ n3_ n4_ n5_ ⊢
   have HO488 := n0_
   have BK481 := n1_
   have BK482 := n2_
   have BK483 := n3_
   have BK489 := n4_
   have HB := n5_
   clear n0_ n1_ n2_ n3_ n4_ n5_
   replace HO488 := Aside0.mk (Kd.R_drew HO488.out)
   replace BK481 := Aside0.mk (blk_drew BK481.out)
   replace BK482 := Aside0.mk (blk_drew BK482.out)
   replace BK483 := Aside0.mk (blk_drew BK483.out)
   replace BK489 := Aside0.mk (blk_drew BK489.out)
   replace HB := Aside0.mk (below_drew1 HB.out)
   have p490 : 0 ≤ ((ji22) : Int) := of_decide_eq_true Z7
   have q490 : (ji22) < (t486.length : Int) := of_decide_eq_true Z7
   obtain ⟨ad490, e490, hx490_0, hx490_1⟩ := at_T31 (Kd.R_reads' HO488.out).2.2 (ji22) p490 q490
   cases e490
   replace p490 := eq_true p490
   replace q490 := eq_true q490
   have q45 : ((ji22) : Int) ≤ ((t486.length : Int) : Int) := of_decide_eq_true Z7
   obtain ⟨i045, hi045, _, hsz45, _⟩ := info_parts info31
   have hroom45 : t486.length ≤ co40 := (Kd.R_reads' HO488.out).2.1
   have hC45 : Kd.C k31 _ (some ad490) t486.length t486 := (Kd.R_reads' HO488.out).2.2
   have hcut45 := cut_to (P := Tryz.prog) 32 31 .i64 Tryz.underlying32 hi045 (some ad490) t486.length co40 (ji22) (of_decide_eq_true Z7) q45 hroom45
   have hr45 := Kd.C_take (m := ((ji22) : Int).toNat) hC45 (by omega)
   have hy45 : y491.length = ((ji22) : Int).toNat := (by rw [Ny491.out, List.length_take]; omega)
   rw [← Ny491.out] at hr45
   rw [← hy45] at hcut45
   have HR494 := Aside0.mk hr45
   have HC494 := Aside0.mk (show y491.length ≤ co40 from by omega)
   clear hr45 hC45 hroom45 hi045 hsz45
   have KY45 := Aside0.mk hy45
   clear hy45
   have KL45 := Aside0.mk (show ((ji22) : Int).toNat ≤ t486.length from by omega)
   replace q45 := eq_true q45
   refine start_ (n := 13) (S := fun w' => w'.cell? ⟨gb489, 0, none⟩ = some (.int .i64 t484) ∧ w'.cell? ⟨gb489, 1, none⟩ = some (.int .i64 t485) ∧ w'.cell? ⟨gb489, 2, none⟩ = some (.slice (some ad490) t486.length co40) ∧ w'.cell? (ad490.add (((ji22)).toNat * 2)) = some (.int .i64 ((rd_T31 t486 (ji22)).f0)) ∧ w'.cell? ⟨(ad490.add (((ji22)).toNat * 2)).block, (ad490.add (((ji22)).toNat * 2)).off + 1, none⟩ = some (.int .i64 ((rd_T31 t486 (ji22)).f1))) (ds := []) #[false, false, false, false, false, false, false, false, false, false, false, false, false] (by kernel_rfl) rfl rfl ⟨(blk_cell BK489.out 0).trans rfl, (blk_cell BK489.out 1).trans rfl, (blk_cell BK489.out 2).trans rfl, hx490_0, hx490_1⟩ (fun hHeld => ?_); refine with_tabW impl_deskDo.tab6 impl_deskDo.bits6 (fun HT_ HW_ => ?_)
   generalize w43.drew = w44 at HO488 BK481 BK482 BK483 BK489 HB HR494 hx490_0 hx490_1 hHeld ⊢
   refine sqP (i := 0) (N := some 23) (h := ?_)
   refine sqP (i := 2) (N := some 25) (h := ?_)
   refine sqP (i := 5) (N := some 28) (h := ?_)
   refine sqP (i := 7) (N := some 30) (h := ?_)
   refine take_ (i := 1) (N := some 24) (v := ?_) (a' := ?_) #[true, true, true, false, false, true, false, true, false, false, false, false, false] rfl rfl (take_ofW HT_.out HW_.out (by kernel_rfl)) (fun _ _ _ h => h) (Or.inl ⟨by rfl, ?_⟩) hHeld ?_ ?_
   rotate_left
   ·rintro w' ⟨s0, s1, s2, s3, s4⟩
    go_simp
    with_reducible rfl
   rotate_left
   ·simp only [Act.put, List.setIfInBounds_toArray, List.set_cons_zero, List.set_cons_succ, i64_w, i32_w]
    rfl
   refine sqP (i := 3) (N := some 26) (h := ?_)
   refine take_ (i := 4) (N := some 27) (v := ?_) (a' := ?_) #[true, true, true, true, true, true, false, true, false, false, false, false, false] rfl rfl (take_ofW HT_.out HW_.out (by kernel_rfl)) (fun _ _ _ h => h) (Or.inl ⟨by rfl, ?_⟩) hHeld ?_ ?_
   rotate_left
   ·rintro w' ⟨s0, s1, s2, s3, s4⟩
    go_simp
    with_reducible rfl
   rotate_left
   ·simp only [Act.put, List.setIfInBounds_toArray, List.set_cons_zero, List.set_cons_succ, i64_w, i32_w]
    rfl
   refine take_ (i := 6) (N := some 29) (v := ?_) (a' := ?_) #[true, true, true, true, true, true, true, true, false, false, false, false, false] rfl rfl (take_ofW HT_.out HW_.out (by kernel_rfl)) (fun _ _ _ h => h) (Or.inl ⟨by rfl, ?_⟩) hHeld ?_ ?_
   rotate_left
   ·rintro w' ⟨s0, s1, s2, s3, s4⟩
    go_simp
    with_reducible rfl
   rotate_left
   ·simp only [Act.put, List.setIfInBounds_toArray, List.set_cons_zero, List.set_cons_succ, i64_w, i32_w]
    rfl
   refine sqP (i := 8) (N := some 31) (h := ?_)
   refine sqP (i := 9) (N := some 32) (h := ?_)
   refine one_ (i := 10) (N := some 33) #[true, true, true, true, true, true, true, true, true, true, true, false, false] rfl rfl (one_of HT_.out (by kernel_rfl)) (by decide) (fun K hK => ?_)
   refine goes_ Tryz.func76 (by kernel_rfl) rfl #[.agg #[.int .i64 ((rd_T31 t486 (ji22)).f0), .int .i64 ((rd_T31 t486 (ji22)).f1), .slice (some ad490) y491.length co40]] (by rfl) rfl rfl (by (try simp only [List.map_toArray, List.map_cons, List.map_nil]); first | done | (simp only [hji22]; rfl) | rfl | (simp only [List.length_drop, List.length_take]; rfl)) ?_
   with_reducible refine (impl_copyDesk.calls ((rd_T31 t486 (ji22)).f0) ((rd_T31 t486 (ji22)).f1) _ _ y491 t495 t496 t497 _ ?side1 ?side2 A27.out).mono ?_
   (case side1 => exact Z122 HR494)
   (case side2 => exact HC494.out)
   rintro e w46 ⟨v498, rfl, ho0, hb⟩
   have HS3_ := (hb.cell (World.block_lt_of_cell? _ _ (hHeld.2.2.2.1))).trans (hHeld.2.2.2.1)
   have HS4_ := (hb.cell (World.block_lt_of_cell? _ _ (hHeld.2.2.2.2))).trans (hHeld.2.2.2.2)
   refine ⟨_, rfl, ?_⟩
   have HO499 := Aside0.mk (Kd.R_lower (Kd.R_new' ho0 (Kd.R_lt (sqR HO488))) (below_size (sqB4 HB GE481 GE482 GE483 GE489)))
   replace HO488 := Aside0.mk (Kd.R_elder' (sqR HO488) (Kd.R_base ho0) hb)
   replace BK481 := sqT BK481 hb
   replace BK482 := sqT BK482 hb
   replace BK483 := sqT BK483 hb
   replace BK489 := sqT BK489 hb
   replace HR494 := Aside0.mk (Kd.C_below (Z38 HR494) hb)
   replace HB := sqS (sqB4 HB GE481 GE482 GE483 GE489) hb
   (try clear hb)
   (try clear hb2)
   (try clear hk)
   (try clear hi)
   (try clear ho0)
   obtain ⟨Ao49, co49, eo49⟩ := Kd.R_slice HO499.out
   (first | subst eo49 | (injection eo49 with f1_ f2_ f3_; have f4_ := f1_.symm; have f5_ := f3_.symm; clear f1_ f2_ f3_; subst f4_; subst f5_))
   refine hK.out _ _ ⟨(blk_cell BK489.out 0).trans rfl, (blk_cell BK489.out 1).trans rfl, (blk_cell BK489.out 2).trans rfl, HS3_, HS4_⟩ (fun hHeld => ?_)
   clear hK K
   refine sqN (some 33) ?_
   refine one_ (i := 11) (N := none) #[true, true, true, true, true, true, true, true, true, true, true, true, false] rfl rfl (one_of HT_.out (by kernel_rfl)) (by decide) (fun K hK => ?_)
   have hs47 : w46.cell? ⟨gb483, 0, none⟩ = some (.int .i64 0) := (blk_cell BK483.out 0).trans rfl
   have hfs47 := blk_frozen BK483.out 0
   have hns47_0 := NB481_483.out
   have hns47_1 := NB482_483.out
   have hns47_3 := NB489_483.out
   have hms47_0 := NB483_481.out
   have hms47_1 := NB483_482.out
   have hms47_3 := NB483_489.out
   have hs48 : w46.cell? ⟨gb483, 1, none⟩ = some (.int .i64 0) := (blk_cell BK483.out 1).trans rfl
   have hfs48 := blk_frozen BK483.out 1
   have hns48_0 := NB481_483.out
   have hns48_1 := NB482_483.out
   have hns48_3 := NB489_483.out
   have hms48_0 := NB483_481.out
   have hms48_1 := NB483_482.out
   have hms48_3 := NB483_489.out
   have hs50 : w46.cell? ⟨gb483, 2, none⟩ = some (.slice none 0 0) := (blk_cell BK483.out 2).trans rfl
   have hfs50 := blk_frozen BK483.out 2
   have hns50_0 := NB481_483.out
   have hns50_1 := NB482_483.out
   have hns50_3 := NB489_483.out
   have hms50_0 := NB483_481.out
   have hms50_1 := NB483_482.out
   have hms50_3 := NB483_489.out
   refine skip_ (w1 := ?_) (by rfl) rfl ?_ ?_
   rotate_left
   ·go_simp
    rfl
   refine hK.out _ _ ⟨((cell_far (p := ⟨gb483, _, none⟩) NB489_483.out _).trans (((cell_far (p := ⟨gb483, _, none⟩) NB489_483.out _).trans (((cell_far (p := ⟨gb483, _, none⟩) NB489_483.out _).trans (hHeld.1)))))), ((cell_far (p := ⟨gb483, _, none⟩) NB489_483.out _).trans (((cell_far (p := ⟨gb483, _, none⟩) NB489_483.out _).trans (((cell_far (p := ⟨gb483, _, none⟩) NB489_483.out _).trans (hHeld.2.1)))))), ((cell_far (p := ⟨gb483, _, none⟩) NB489_483.out _).trans (((cell_far (p := ⟨gb483, _, none⟩) NB489_483.out _).trans (((cell_far (p := ⟨gb483, _, none⟩) NB489_483.out _).trans (hHeld.2.2.1)))))), ((cell_far (p := ⟨gb483, _, none⟩) (Z39 HO488 BK483) _).trans (((cell_far (p := ⟨gb483, _, none⟩) (Z39 HO488 BK483) _).trans (((cell_far (p := ⟨gb483, _, none⟩) (Z39 HO488 BK483) _).trans (hHeld.2.2.2.1)))))), ((cell_far (p := ⟨gb483, _, none⟩) (Z39 HO488 BK483) _).trans (((cell_far (p := ⟨gb483, _, none⟩) (Z39 HO488 BK483) _).trans (((cell_far (p := ⟨gb483, _, none⟩) (Z39 HO488 BK483) _).trans (hHeld.2.2.2.2))))))⟩ (fun hHeld => ?_)
   clear hK K
   refine sqP (i := 12) (N := some 5) (h := ?_)
   refine done_ (done_of HT_.out (by kernel_rfl)) ?_
   try go_wp2
   refine bodyPost_ret (results_ct rfl _ _ gb483 34 #[.int .i64 t495, .int .i64 t496, .slice Ao49 t497.length co49] (0, 0) _ rfl (by refine sqPut (cs := #[.int .i64 t495, .int .i64 t496, .slice none 0 0]) ?_ 2; refine sqPut (cs := #[.int .i64 t495, .int .i64 0, .slice none 0 0]) ?_ 1; refine sqPut (cs := #[.int .i64 0, .int .i64 0, .slice none 0 0]) ?_ 0; exact sqK BK483) Tryz.underlying34 rfl (by kernel_rfl)) rfl ?_
   exact ⟨_, by first | rfl | (simp [errP_none, errP_some] <;> rfl) | (simp only [← hji22]; first | rfl | (simp [errP_none, errP_some] <;> rfl)) | (simp [*, errP_none, errP_some] <;> rfl), by (with_reducible repeat (first | apply Kd.R_alloc | apply Kd.R_drewN | apply Kd.R_drew)); exact Kd.R_mono (Kd.R_far (p := ⟨gb483, 2, none⟩) (Kd.R_far (p := ⟨gb483, 1, none⟩) (Kd.R_far (p := ⟨gb483, 0, none⟩) (Kd.R_types HO499.out BK483.out (by decide)) (fun _ hk => hk.2) (.int .i64 t495)) (fun _ hk => hk.2) (.int .i64 t496)) (fun _ hk => hk.2) (.slice Ao49 t497.length co49)) (fun _ hk => trivial), sqB4 HB GE481 GE482 GE483 GE489⟩
 ·rw [if_neg c4] at H
  have c4b0 : (a1_0 == 4 && (a1_1.toList == ([] : List UInt8))) = false := by simpa using c4
  try have c4b8 : (a1_0 == 4 && a1_1.toList.isEmpty) = false := by (have h_ := c4b0; (repeat rw [show ∀ z : List UInt8, (z == ([] : List UInt8)) = z.isEmpty from fun z => by cases z <;> rfl] at h_); exact h_)
  (try (have c4b1 : decide (a1_0 = 4 && (a1_1.toList == ([] : List UInt8))) = false := by simpa using c4))
  (try (have c4b2 : (a1_0 == 4 && (a1_1.toList == ([] : List UInt8))) = false := by simpa using c4))
  (try (have c4b3 : ¬ (a1_0 = 4 && (a1_1.toList == ([] : List UInt8))) := by simpa using c4))
  clear c4
  obtain ⟨⟨t500, t501, t502⟩, A51, H⟩ := sqD H
  try dsimp only at H
  have HC52 := Aside0.mk H
  clear H
  go_enter Tryz.func61, Tryz.ntmps61
  go_upto_region 8 with (first | ((with_reducible refine gate_dst (N := 2) rfl ?_); refine sqBox (N := 2) (cs := #[.int .i64 a0_0, .int .i64 a0_1, .slice A0_2 l0_2.length c0_2]) (t := 34) ?_; intro gb481 hg w53 BK481 hb; have GW481 := Aside0.mk ((sqG hg (sqB HB))); have GE481 := GW481; replace HB := sqS (sqB HB) hb; clear hb hg) | ((with_reducible refine gate_dst (N := 3) rfl ?_); refine sqBox (N := 3) (cs := #[.int .i64 a1_0, .string a1_1]) (t := 38) ?_; intro gb482 hg w54 BK482 hb; have GW482 := Aside0.mk ((sqG hg (sqB1 HB GE481))); have GE482 := GW482; replace HB := sqS (sqB1 HB GE481) hb; obtain ⟨NB481_482, NB482_481⟩ := sqM hg BK481; replace BK481 := sqT BK481 hb; clear hb hg) | ((with_reducible refine gate_dst (N := 4) rfl ?_); refine sqBox (N := 4) (cs := #[.int .i64 0, .int .i64 0, .slice none 0 0]) (t := 34) ?_; intro gb483 hg w55 BK483 hb; have GW483 := Aside0.mk ((sqG hg (sqB2 HB GE481 GE482))); have GE483 := GW483; replace HB := sqS (sqB2 HB GE481 GE482) hb; obtain ⟨NB481_483, NB483_481⟩ := sqM hg BK481; replace BK481 := sqT BK481 hb; obtain ⟨NB482_483, NB483_482⟩ := sqM hg BK482; replace BK482 := sqT BK482 hb; clear hb hg; have hnb56 := NB481_482.out; have hnc56 := NB482_481.out; have hnb57 := NB481_483.out; have hnc57 := NB483_481.out; obtain ⟨hcz58_0, hcz58_1, hcz58_2, hfz58_0, hfz58_1, hfz58_2⟩ := sqY3 BK481) | ((with_reducible refine gate_callee (f := 76) rfl ?_); refine goesL_ (some 12) rfl rfl Tryz.func76 (by kernel_rfl) rfl #[.agg #[.int .i64 a0_0, .int .i64 a0_1, .slice A0_2 l0_2.length c0_2]] rfl sqA ?_; (with_reducible refine (impl_copyDesk.calls a0_0 a0_1 _ _ l0_2 t484 t485 t486 _ ?side1 ?side2 A3.out).mono ?_); (case side1 => exact Z1); (case side2 => exact HC0_2.out); rintro e w59 ⟨v487, rfl, ho0, hb⟩; refine ⟨_, rfl, ?_⟩; have HO488 := sqL ho0 (sqB3 HB GE481 GE482 GE483); replace BK481 := sqT BK481 hb; replace BK482 := sqT BK482 hb; replace BK483 := sqT BK483 hb; replace HB := sqS (sqB3 HB GE481 GE482 GE483) hb; (try clear hb); (try clear ho0)) | ((with_reducible refine gate_dst (N := 6) rfl ?_); refine sqBox (N := 6) (cs := #[.int .i64 0, .int .i64 0, .slice none 0 0]) (t := 34) ?_; intro gb489 hg w60 BK489 hb; replace HO488 := sqU HO488 hb; have GW489 := Aside0.mk ((sqG hg (sqB3 HB GE481 GE482 GE483))); have GE489 := GW489; replace HB := sqS (sqB3 HB GE481 GE482 GE483) hb; obtain ⟨NB481_489, NB489_481⟩ := sqM hg BK481; replace BK481 := sqT BK481 hb; obtain ⟨NB482_489, NB489_482⟩ := sqM hg BK482; replace BK482 := sqT BK482 hb; obtain ⟨NB483_489, NB489_483⟩ := sqM hg BK483; replace BK483 := sqT BK483 hb; clear hb hg; have hnb61 := NB489_481.out; have hnc61 := NB481_489.out; have hnb62 := NB489_482.out; have hnc62 := NB482_489.out; have hnb63 := NB489_483.out; have hnc63 := NB483_489.out; obtain ⟨hcz64_0, hcz64_1, hcz64_2, hfz64_0, hfz64_1, hfz64_2⟩ := sqY3 BK489; obtain ⟨Ao65, co65, eo65⟩ := Kd.R_slice HO488.out; subst eo65; have hnb66 := NB482_483.out; have hnc66 := NB483_482.out; obtain ⟨hcz67_0, hcz67_1, hfz67_0, hfz67_1⟩ := sqY2 BK482; obtain ⟨hcz68_0, hcz68_1, hcz68_2, hfz68_0, hfz68_1, hfz68_2⟩ := sqY3 BK481) | ((with_reducible refine gate_callee (f := 111) rfl ?_); refine goesL_ (some 38) rfl rfl Tryz.func111 (by kernel_rfl) rfl #[.agg #[.int .i64 a0_0, .int .i64 a0_1], .agg #[.int .i64 a1_0, .string a1_1]] rfl sqA ?_; (with_reducible refine (impl_nextFraction.calls k a0_0 a0_1 a1_0 a1_1 t500 t501 t502 _ ?sideG A51.out).mono ?_); (case sideG => exact Glob.below hG (sqB4 HB GE481 GE482 GE483 GE489)); rintro e w69 ⟨rfl, hb⟩; refine ⟨_, rfl, ?_⟩; replace HO488 := Aside0.mk (Kd.R_below (by (with_reducible repeat (first | apply Kd.R_alloc | apply Kd.R_drewN | apply Kd.R_drew)); exact (Kd.R_mono (Kd.R_far (p := ⟨gb489, 2, none⟩) (Kd.R_far (p := ⟨gb489, 1, none⟩) (Kd.R_far (p := ⟨gb489, 0, none⟩) (Kd.R_types HO488.out BK489.out (by decide)) (fun _ hk => hk.2) (.int .i64 t484)) (fun _ hk => hk.2) (.int .i64 t485)) (fun _ hk => hk.2) (.slice Ao65 t486.length co65)) (fun _ h_ => h_.1))) hb); replace BK481 := Aside0.mk (blk_below (g := gb481) (o := .cells #[.int .i64 a0_0, .int .i64 a0_1, .slice A0_2 l0_2.length c0_2] 34 (0, 0)) (Z5 NB481_489 BK481) hb); replace BK482 := Aside0.mk (blk_below (g := gb482) (o := .cells #[.int .i64 a1_0, .string a1_1] 38 (0, 0)) (Z5 NB482_489 BK482) hb); replace BK483 := Aside0.mk (blk_below (g := gb483) (o := .cells #[.int .i64 0, .int .i64 0, .slice none 0 0] 34 (0, 0)) (Z5 NB483_489 BK483) hb); replace BK489 := Aside0.mk (blk_below (g := gb489) (o := .cells #[.int .i64 t484, .int .i64 t485, .slice Ao65 t486.length co65] 34 (0, 0)) (Z37 BK489) hb); replace HB := sqS (sqB4 HB GE481 GE482 GE483 GE489) hb; (try clear hb)) | ((with_reducible refine gate_dst (N := 8) rfl ?_); refine sqBox (N := 8) (cs := #[.int .i64 0, .int .i64 0]) (t := 31) ?_; intro gb503 hg w70 BK503 hb; replace HO488 := Aside0.mk (Kd.R_below (Kd.R_elderB (sqR HO488) gb503 (Nat.le_of_eq hg.symm)) hb); have GW503 := Aside0.mk ((sqG hg (sqB4 HB GE481 GE482 GE483 GE489))); have GE503 := GW503; replace HB := sqS (sqB4 HB GE481 GE482 GE483 GE489) hb; obtain ⟨NB481_503, NB503_481⟩ := sqM hg BK481; replace BK481 := sqT BK481 hb; obtain ⟨NB482_503, NB503_482⟩ := sqM hg BK482; replace BK482 := sqT BK482 hb; obtain ⟨NB483_503, NB503_483⟩ := sqM hg BK483; replace BK483 := sqT BK483 hb; obtain ⟨NB489_503, NB503_489⟩ := sqM hg BK489; replace BK489 := sqT BK489 hb; clear hb hg; have hnb71 := NB503_481.out; have hnc71 := NB481_503.out; have hnb72 := NB503_482.out; have hnc72 := NB482_503.out; have hnb73 := NB503_483.out; have hnc73 := NB483_503.out; have hnb74 := NB503_489.out; have hnc74 := NB489_503.out; obtain ⟨hcz75_0, hcz75_1, hfz75_0, hfz75_1⟩ := sqY2 BK503))
  (try simp only [Act.put, List.setIfInBounds_toArray, List.set_cons_zero, List.set_cons_succ])
  go_cut [48] (fun v48 wc => ∃ (kq : Nat) (x48_51 : Bool), v48 = .bool x48_51 ∧ Aside0 (impl_deskDo.j0 kq x48_51 t484 t485 t486 t500 t501 = some (r1, r2, r3, r4)) ∧ Aside0 (kq ≤ k) ∧ Aside0 (Kd.R k31 31 wc w.heap.size (fun k_ => k_ ≠ gb503) (.slice Ao65 t486.length co65) t486) ∧ Aside0 (wc.heap[gb481]? = some (.cells #[.int .i64 a0_0, .int .i64 a0_1, (.slice A0_2 l0_2.length c0_2)] 34 (0, 0))) ∧ Aside0 (wc.heap[gb482]? = some (.cells #[.int .i64 a1_0, .string a1_1] 38 (0, 0))) ∧ Aside0 (wc.heap[gb483]? = some (.cells #[.int .i64 0, .int .i64 0, (.slice none 0 0)] 34 (0, 0))) ∧ Aside0 (wc.heap[gb489]? = some (.cells #[.int .i64 t484, .int .i64 t485, (.slice Ao65 t486.length co65)] 34 (0, 0))) ∧ Aside0 (wc.heap[gb503]? = some (.cells #[.int .i64 t500, .int .i64 t501] 31 (0, 0))) ∧ Aside0 (Below w.heap.size w wc))
  case first =>
   have H := HC52.out
   clear HC52
   by_cases c76 : t502 = true
   ·subst c76
    rw [if_pos rfl] at H
    have H' := Aside0.mk H
    clear H
    have hnb77 := NB503_481.out
    have hnc77 := NB481_503.out
    have hnb78 := NB503_482.out
    have hnc78 := NB482_503.out
    have hnb79 := NB503_483.out
    have hnc79 := NB483_503.out
    have hnb80 := NB503_489.out
    have hnc80 := NB489_503.out
    obtain ⟨hcz81_0, hcz81_1, hfz81_0, hfz81_1⟩ := sqY2 BK503
    have hnb82 := NB481_482.out
    have hnc82 := NB482_481.out
    have hnb83 := NB481_483.out
    have hnc83 := NB483_481.out
    have hnb84 := NB481_489.out
    have hnc84 := NB489_481.out
    obtain ⟨hcz85_0, hcz85_1, hcz85_2, hfz85_0, hfz85_1, hfz85_2⟩ := sqY3 BK481
    go_wp2
    go_meet
    case rel => exact ⟨_, ((t500 == a0_0 && (t501 == a0_1))), Z2, H', ⟨Z3⟩, ⟨Z40 HO488⟩, ⟨Z9 NB481_503 BK481⟩, ⟨Z9 NB482_503 BK482⟩, ⟨Z9 NB483_503 BK483⟩, ⟨Z9 NB489_503 BK489⟩, ⟨Z41 BK503⟩, ⟨Z14 GE481 GE482 GE483 GE489 GE503⟩⟩
   ·replace c76 := Bool.eq_false_iff.mpr c76
    subst c76
    rw [if_neg sqF] at H
    have H' := Aside0.mk H
    clear H
    go_wp2
    go_meet
    case rel => exact ⟨_, (true), Z2, H', ⟨Z3⟩, ⟨Z40 HO488⟩, ⟨Z9 NB481_503 BK481⟩, ⟨Z9 NB482_503 BK482⟩, ⟨Z9 NB483_503 BK483⟩, ⟨Z9 NB489_503 BK489⟩, ⟨Z41 BK503⟩, ⟨Z14 GE481 GE482 GE483 GE489 GE503⟩⟩
  case rest =>
   clear HC52
   try clear c1; try clear c2; try clear p2; try clear c3; try clear c4; try clear c4b0; try clear c4b1; try clear c4b2; try clear p4; try clear q4; try clear hx4; try clear c5; try clear c5b0; try clear c6; try clear p6; try clear c7; try clear c8; try clear c9; try clear c10; try clear c11; try clear c14; try clear c15; try clear c16; try clear c19; try clear c23; try clear c23b0; try clear c24; try clear c24b0; try clear c25; try clear c25b0; try clear c26; try clear c26b0; try clear c26b1; try clear c31; try clear c32; try clear c36; try clear c37; try clear c38; try clear c41; try clear q45; try clear p49; try clear q49; try clear hx49; try clear c56; try clear c57; try clear c61; try clear c62; try clear c63; try clear p64; try clear c66; try clear c71; try clear c72; try clear c73; try clear c74; try clear c76; try clear c77; try clear c78; try clear c79; try clear c80; try clear c82; try clear c83; try clear c84; try clear hcz11_0; try clear hcz11_1; try clear hcz11_2; try clear hcz17_0; try clear hcz17_1; try clear hcz17_2; try clear hcz20_0; try clear hcz20_1; try clear hcz21_0; try clear hcz21_1; try clear hcz21_2; try clear hcz33_0; try clear hcz33_1; try clear hcz33_2; try clear hcz39_0; try clear hcz39_1; try clear hcz39_2; try clear hcz42_0; try clear hcz42_1; try clear hcz58_0; try clear hcz58_1; try clear hcz58_2; try clear hcz64_0; try clear hcz64_1; try clear hcz64_2; try clear hcz67_0; try clear hcz67_1; try clear hcz68_0; try clear hcz68_1; try clear hcz68_2; try clear hcz75_0; try clear hcz75_1; try clear hcz81_0; try clear hcz81_1; try clear hcz85_0; try clear hcz85_1; try clear hcz85_2; try clear hfz11_0; try clear hfz11_1; try clear hfz11_2; try clear hfz17_0; try clear hfz17_1; try clear hfz17_2; try clear hfz20_0; try clear hfz20_1; try clear hfz21_0; try clear hfz21_1; try clear hfz21_2; try clear hfz33_0; try clear hfz33_1; try clear hfz33_2; try clear hfz39_0; try clear hfz39_1; try clear hfz39_2; try clear hfz42_0; try clear hfz42_1; try clear hfz58_0; try clear hfz58_1; try clear hfz58_2; try clear hfz64_0; try clear hfz64_1; try clear hfz64_2; try clear hfz67_0; try clear hfz67_1; try clear hfz68_0; try clear hfz68_1; try clear hfz68_2; try clear hfz75_0; try clear hfz75_1; try clear hfz81_0; try clear hfz81_1; try clear hfz85_0; try clear hfz85_1; try clear hfz85_2; try clear hx490_0; try clear hx490_1; try clear p490; try clear q45; try clear q490
   obtain ⟨kq, x48_51, rfl, HA, HJ51, HO_490002, BK481, BK482, BK483, BK489, BK503, HB⟩ := hcut
   cases kq with
   | zero => exact absurd HA.out (by simp [impl_deskDo.j0])
   | succ kj51 =>
    have H := HA.out
    clear HA
    simp only [impl_deskDo.j0] at H
    by_cases c86 : x48_51 = true
    ·subst c86
     rw [if_pos rfl] at H
     simp only [Option.some.injEq, Prod.mk.injEq] at H
     obtain ⟨rfl, rfl, rfl, rfl⟩ := H
     have hnb87 := NB489_481.out
     have hnc87 := NB481_489.out
     have hnb88 := NB489_482.out
     have hnc88 := NB482_489.out
     have hnb89 := NB489_483.out
     have hnc89 := NB483_489.out
     have hnb90 := NB489_503.out
     have hnc90 := NB503_489.out
     obtain ⟨hcz91_0, hcz91_1, hcz91_2, hfz91_0, hfz91_1, hfz91_2⟩ := sqY3 BK489
     have hnb92 := NB483_481.out
     have hnc92 := NB481_483.out
     have hnb93 := NB483_482.out
     have hnc93 := NB482_483.out
     have hnb94 := NB483_503.out
     have hnc94 := NB503_483.out
     obtain ⟨hcz95_0, hcz95_1, hcz95_2, hfz95_0, hfz95_1, hfz95_2⟩ := sqY3 BK483
     go_wp2
     refine bodyPost_ret (results_ct rfl _ _ gb483 34 #[.int .i64 t484, .int .i64 t485, .slice Ao65 t486.length co65] (0, 0) _ rfl (Z37 BK483) Tryz.underlying34 rfl (by kernel_rfl)) rfl ?_
     exact ⟨_, Z15, by (with_reducible repeat (first | apply Kd.R_alloc | apply Kd.R_drewN | apply Kd.R_drew)); exact Kd.R_mono (Kd.R_far (p := ⟨gb483, 2, none⟩) (Kd.R_far (p := ⟨gb483, 1, none⟩) (Kd.R_far (p := ⟨gb483, 0, none⟩) (Kd.R_types HO_490002.out BK483.out (by decide)) (fun _ hk => hk.2) (.int .i64 t484)) (fun _ hk => hk.2) (.int .i64 t485)) (fun _ hk => hk.2) (.slice Ao65 t486.length co65)) (fun _ hk => trivial), Z14 GE481 GE482 GE483 GE489 GE503⟩
    ·replace c86 := Bool.eq_false_iff.mpr c86
     subst c86
     rw [if_neg sqF] at H
     obtain ⟨c96, H⟩ := sqI H
     have LMc96 := Aside0.mk c96
     clear c96
     obtain ⟨y504, hy504⟩ : ∃ y_ : List (S31), y_ = (t486 ++ [(⟨t484, t485⟩ : S31)]) := ⟨_, rfl⟩
     replace H : (if (y504.length : Int) > 8 then (if 1 ≤ (y504.length : Int) then ((impl_copyDesk.f t500 t501 (y504.drop (1 : Int).toNat)).bind fun bt510 => (some (bt510.1, bt510.2.1, bt510.2.2, true))) else (none)) else ((impl_copyDesk.f t500 t501 y504).bind fun bt515 => (some (bt515.1, bt515.2.1, bt515.2.2, true)))) = some (r1, r2, r3, r4) := sqW hy504 H
     have Ny504 := Aside0.mk hy504
     clear hy504
     by_cases c97 : (y504.length : Int) > 8
     ·rw [if_pos c97] at H
      have c97b0 : decide (8 < (y504.length : Int)) = true := decide_eq_true c97
      have c97b1 : decide (8 < y504.length) = true := decide_eq_true (by omega)
      clear c97
      obtain ⟨c98, H⟩ := sqI H
      have c98b0 := eq_true c98
      have c98b1 : decide (1 ≤ (y504.length : Int)) = true := decide_eq_true c98
      clear c98
      obtain ⟨y507, hy507⟩ : ∃ y_ : List (S31), y_ = (y504.drop (1 : Int).toNat) := ⟨_, rfl⟩
      replace H : ((impl_copyDesk.f t500 t501 y507).bind fun bt510 => (some (bt510.1, bt510.2.1, bt510.2.2, true))) = some (r1, r2, r3, r4) := sqW hy507 H
      have Ny507 := Aside0.mk hy507
      clear hy507
      obtain ⟨⟨t510, t511, t512⟩, A99, H⟩ := sqD H
      try dsimp only at H
      simp only [Option.some.injEq, Prod.mk.injEq] at H
      obtain ⟨rfl, rfl, rfl, rfl⟩ := H
      have hnb100 := NB489_481.out
      have hnc100 := NB481_489.out
      have hnb101 := NB489_482.out
      have hnc101 := NB482_489.out
      have hnb102 := NB489_483.out
      have hnc102 := NB483_489.out
      have hnb103 := NB489_503.out
      have hnc103 := NB503_489.out
      obtain ⟨hcz104_0, hcz104_1, hcz104_2, hfz104_0, hfz104_1, hfz104_2⟩ := sqY3 BK489
      go_wp2_with (first | ((with_reducible refine gate_builtin (b := .append) (xs := #[.tmp 51, .tmp 54]) rfl ?_); at_builtin; refine Kd.R_append k31 (w0 := w) w.heap.size rfl (.tmp 51) (.tmp 54) 32 31 (.agg #[(.int .i64 0), (.int .i64 0)]) 16 rfl Tryz.underlying32 info31 rfl (by decide) (by omega) (.slice Ao65 t486.length co65) t486 (⟨t484, t485⟩ : S31) [.int .i64 t484, .int .i64 t485] (fun k_ => k_ ≠ gb503) (fun _ => False) rfl rfl ?aP (fun _ hk => hk.elim) ?aF ?aO ?aB ?aS ?aL ?_; (case aP => exact k31_mkM _ _ _ (⟨t484, t485⟩ : S31)); (case aB => exact (Z14 GE481 GE482 GE483 GE489 GE503)); (case aF => exact (fun k_ hk => Kd.freshB (sqK BK503) k_ hk)); (case aO => exact (sqR HO_490002)); (case aS => exact (below_size (Z14 GE481 GE482 GE483 GE489 GE503))); (case aL => exact Z16 LMc96); intro v505 w105 ho hb hg hat; rw [← Ny504.out] at ho; replace BK481 := Aside0.mk (blk_grown (sqK BK481) hg (Kd.R_ne HO_490002.out BK481.out (by decide))); replace BK482 := Aside0.mk (blk_grown (sqK BK482) hg (Kd.R_ne HO_490002.out BK482.out (by decide))); replace BK483 := Aside0.mk (blk_grown (sqK BK483) hg (Kd.R_ne HO_490002.out BK483.out (by decide))); replace BK489 := Aside0.mk (blk_grown (sqK BK489) hg (Kd.R_ne HO_490002.out BK489.out (by decide))); replace BK503 := Aside0.mk (blk_grown (sqK BK503) hg (Kd.R_away HO_490002.out (fun _ hk => hk))); replace HB := Aside0.mk (hb); have HO506 := Aside0.mk (ho); clear HO_490002; clear ho hb hg hat; obtain ⟨Ao106, co106, eo106⟩ := Kd.R_slice HO506.out; subst eo106; have q107 : (1 : Int) ≤ ((y504.length : Int) : Int) := of_decide_eq_true Z7; obtain ⟨i0107, hi0107, _, hsz107, _⟩ := info_parts info31; have hcut107 := cut_from (P := Tryz.prog) 32 31 .i64 Tryz.underlying32 hi0107 2 hsz107 Ao106 y504.length co106 1 (by omega) q107; have hr107 := Kd.Q_drop (k := (1 : Int).toNat) (Kd.Q_of_R HO506.out) (by omega); obtain ⟨A107, hA107⟩ : ∃ A1, A1 = (if co106 = (1 : Int).toNat then Ao106 else (Ao106 : Option Addr).map (·.add ((1 : Int).toNat * 2))) := ⟨_, rfl⟩; obtain ⟨c107, hc107⟩ : ∃ c1, c1 = co106 - (1 : Int).toNat := ⟨_, rfl⟩; have hy107 : y507.length = y504.length - (1 : Int).toNat := (by rw [Ny507.out, List.length_drop]); rw [← Ny507.out] at hr107; rw [← hy107, ← hA107, ← hc107] at hcut107; replace hr107 : Kd.Q k31 31 w105 w.heap.size (fun k_ => k_ ≠ gb503) (.slice A107 y507.length c107) y507 := (by rw [hA107, hc107, hy107]; exact hr107); have HE107 : Aside0 ((Value.slice A107 y507.length c107).ownBlock = (.slice Ao106 y504.length co106 : Value).ownBlock) := ⟨by rw [hA107]; split <;> (cases (Ao106 : Option Addr) <;> rfl)⟩; clear hy107 hi0107 hsz107 HO506 hA107 hc107; have HO509 := Aside0.mk hr107; clear hr107; replace q107 := eq_true q107; have hnb108 := NB503_481.out; have hnc108 := NB481_503.out; have hnb109 := NB503_482.out; have hnc109 := NB482_503.out; have hnb110 := NB503_483.out; have hnc110 := NB483_503.out; obtain ⟨hcz111_0, hcz111_1, hfz111_0, hfz111_1⟩ := sqY2 BK503) | ((with_reducible refine gate_callee (f := 76) rfl ?_); refine goesL_ (some 64) rfl rfl Tryz.func76 (by kernel_rfl) rfl #[.agg #[.int .i64 t500, .int .i64 t501, .slice A107 y507.length c107]] rfl sqA ?_; (with_reducible refine (impl_copyDesk.calls t500 t501 _ _ y507 t510 t511 t512 _ ?side1 ?side2 A99.out).mono ?_); (case side1 => exact Z42 HO509); (case side2 => exact Z43 HO509); rintro e w112 ⟨v513, rfl, ho0, hb⟩; refine ⟨_, rfl, ?_⟩; have HO514 := Aside0.mk (Kd.R_lower (Kd.R_newB (Kd.R_new' ho0 (Kd.Q_lt (Z10 HO509))) (sqK BK503)) (below_size (Z14 GE481 GE482 GE483 GE489 GE503))); replace HO509 := Aside0.mk (Kd.Q_elder' (Z10 HO509) (Kd.R_base ho0) hb); replace BK481 := sqT BK481 hb; replace BK482 := sqT BK482 hb; replace BK483 := sqT BK483 hb; replace BK489 := sqT BK489 hb; replace BK503 := sqT BK503 hb; replace HB := Aside0.mk (below_step (Z14 GE481 GE482 GE483 GE489 GE503) hb); (try clear hb); (try clear ho0); have hnb113 := NB483_481.out; have hnc113 := NB481_483.out; have hnb114 := NB483_482.out; have hnc114 := NB482_483.out; obtain ⟨hcz115_0, hcz115_1, hcz115_2, hfz115_0, hfz115_1, hfz115_2⟩ := sqY3 BK483; obtain ⟨Ao116, co116, eo116⟩ := Kd.R_slice HO514.out; subst eo116))
      refine bodyPost_ret (results_ct rfl _ _ gb483 34 #[.int .i64 t510, .int .i64 t511, .slice Ao116 t512.length co116] (0, 0) _ rfl (by refine sqPut (cs := #[.int .i64 t510, .int .i64 t511, .slice none 0 0]) ?_ 2; refine sqPut (cs := #[.int .i64 t510, .int .i64 0, .slice none 0 0]) ?_ 1; refine sqPut (cs := #[.int .i64 0, .int .i64 0, .slice none 0 0]) ?_ 0; exact sqK BK483) Tryz.underlying34 rfl (by kernel_rfl)) rfl ?_
      exact ⟨_, Z15, by (with_reducible repeat (first | apply Kd.R_alloc | apply Kd.R_drewN | apply Kd.R_drew)); exact Kd.R_mono (Kd.R_far (p := ⟨gb483, 2, none⟩) (Kd.R_far (p := ⟨gb483, 1, none⟩) (Kd.R_far (p := ⟨gb483, 0, none⟩) (Kd.R_types HO514.out BK483.out (by decide)) (fun _ hk => hk.2) (.int .i64 t510)) (fun _ hk => hk.2) (.int .i64 t511)) (fun _ hk => hk.2) (.slice Ao116 t512.length co116)) (fun _ hk => trivial), Z14 GE481 GE482 GE483 GE489 GE503⟩
     ·rw [if_neg c97] at H
      have c97b0 : decide (8 < (y504.length : Int)) = false := decide_eq_false c97
      have c97b1 : decide (8 < y504.length) = false := decide_eq_false (by omega)
      clear c97
      obtain ⟨⟨t515, t516, t517⟩, A117, H⟩ := sqD H
      try dsimp only at H
      simp only [Option.some.injEq, Prod.mk.injEq] at H
      obtain ⟨rfl, rfl, rfl, rfl⟩ := H
      have hnb118 := NB489_481.out
      have hnc118 := NB481_489.out
      have hnb119 := NB489_482.out
      have hnc119 := NB482_489.out
      have hnb120 := NB489_483.out
      have hnc120 := NB483_489.out
      have hnb121 := NB489_503.out
      have hnc121 := NB503_489.out
      obtain ⟨hcz122_0, hcz122_1, hcz122_2, hfz122_0, hfz122_1, hfz122_2⟩ := sqY3 BK489
      go_wp2_with (first | ((with_reducible refine gate_builtin (b := .append) (xs := #[.tmp 51, .tmp 54]) rfl ?_); at_builtin; refine Kd.R_append k31 (w0 := w) w.heap.size rfl (.tmp 51) (.tmp 54) 32 31 (.agg #[(.int .i64 0), (.int .i64 0)]) 16 rfl Tryz.underlying32 info31 rfl (by decide) (by omega) (.slice Ao65 t486.length co65) t486 (⟨t484, t485⟩ : S31) [.int .i64 t484, .int .i64 t485] (fun k_ => k_ ≠ gb503) (fun _ => False) rfl rfl ?aP (fun _ hk => hk.elim) ?aF ?aO ?aB ?aS ?aL ?_; (case aP => exact k31_mkM _ _ _ (⟨t484, t485⟩ : S31)); (case aB => exact (Z14 GE481 GE482 GE483 GE489 GE503)); (case aF => exact (fun k_ hk => Kd.freshB (sqK BK503) k_ hk)); (case aO => exact (sqR HO_490002)); (case aS => exact (below_size (Z14 GE481 GE482 GE483 GE489 GE503))); (case aL => exact Z16 LMc96); intro v505 w123 ho hb hg hat; rw [← Ny504.out] at ho; replace BK481 := Aside0.mk (blk_grown (sqK BK481) hg (Kd.R_ne HO_490002.out BK481.out (by decide))); replace BK482 := Aside0.mk (blk_grown (sqK BK482) hg (Kd.R_ne HO_490002.out BK482.out (by decide))); replace BK483 := Aside0.mk (blk_grown (sqK BK483) hg (Kd.R_ne HO_490002.out BK483.out (by decide))); replace BK489 := Aside0.mk (blk_grown (sqK BK489) hg (Kd.R_ne HO_490002.out BK489.out (by decide))); replace BK503 := Aside0.mk (blk_grown (sqK BK503) hg (Kd.R_away HO_490002.out (fun _ hk => hk))); replace HB := Aside0.mk (hb); have HO506 := Aside0.mk (ho); clear HO_490002; clear ho hb hg hat; obtain ⟨Ao124, co124, eo124⟩ := Kd.R_slice HO506.out; subst eo124; have hnb125 := NB503_481.out; have hnc125 := NB481_503.out; have hnb126 := NB503_482.out; have hnc126 := NB482_503.out; have hnb127 := NB503_483.out; have hnc127 := NB483_503.out; obtain ⟨hcz128_0, hcz128_1, hfz128_0, hfz128_1⟩ := sqY2 BK503) | ((with_reducible refine gate_callee (f := 76) rfl ?_); refine goesL_ (some 64) rfl rfl Tryz.func76 (by kernel_rfl) rfl #[.agg #[.int .i64 t500, .int .i64 t501, .slice Ao124 y504.length co124]] rfl sqA ?_; (with_reducible refine (impl_copyDesk.calls t500 t501 _ _ y504 t515 t516 t517 _ ?side1 ?side2 A117.out).mono ?_); (case side1 => exact Z44 HO506); (case side2 => exact Z45 HO506); rintro e w129 ⟨v518, rfl, ho0, hb⟩; refine ⟨_, rfl, ?_⟩; have HO519 := Aside0.mk (Kd.R_lower (Kd.R_newB (Kd.R_new' ho0 (Kd.R_lt (sqR HO506))) (sqK BK503)) (below_size (Z14 GE481 GE482 GE483 GE489 GE503))); replace HO506 := Aside0.mk (Kd.R_elder' (sqR HO506) (Kd.R_base ho0) hb); replace BK481 := sqT BK481 hb; replace BK482 := sqT BK482 hb; replace BK483 := sqT BK483 hb; replace BK489 := sqT BK489 hb; replace BK503 := sqT BK503 hb; replace HB := Aside0.mk (below_step (Z14 GE481 GE482 GE483 GE489 GE503) hb); (try clear hb); (try clear ho0); have hnb130 := NB483_481.out; have hnc130 := NB481_483.out; have hnb131 := NB483_482.out; have hnc131 := NB482_483.out; obtain ⟨hcz132_0, hcz132_1, hcz132_2, hfz132_0, hfz132_1, hfz132_2⟩ := sqY3 BK483; obtain ⟨Ao133, co133, eo133⟩ := Kd.R_slice HO519.out; subst eo133))
      refine bodyPost_ret (results_ct rfl _ _ gb483 34 #[.int .i64 t515, .int .i64 t516, .slice Ao133 t517.length co133] (0, 0) _ rfl (by refine sqPut (cs := #[.int .i64 t515, .int .i64 t516, .slice none 0 0]) ?_ 2; refine sqPut (cs := #[.int .i64 t515, .int .i64 0, .slice none 0 0]) ?_ 1; refine sqPut (cs := #[.int .i64 0, .int .i64 0, .slice none 0 0]) ?_ 0; exact sqK BK483) Tryz.underlying34 rfl (by kernel_rfl)) rfl ?_
      exact ⟨_, Z15, by (with_reducible repeat (first | apply Kd.R_alloc | apply Kd.R_drewN | apply Kd.R_drew)); exact Kd.R_mono (Kd.R_far (p := ⟨gb483, 2, none⟩) (Kd.R_far (p := ⟨gb483, 1, none⟩) (Kd.R_far (p := ⟨gb483, 0, none⟩) (Kd.R_types HO519.out BK483.out (by decide)) (fun _ hk => hk.2) (.int .i64 t515)) (fun _ hk => hk.2) (.int .i64 t516)) (fun _ hk => hk.2) (.slice Ao133 t517.length co133)) (fun _ hk => trivial), Z14 GE481 GE482 GE483 GE489 GE503⟩

end Go.Proofs.YtofmlbgfcohhoaaGreatDoor.PFnDeskRun
