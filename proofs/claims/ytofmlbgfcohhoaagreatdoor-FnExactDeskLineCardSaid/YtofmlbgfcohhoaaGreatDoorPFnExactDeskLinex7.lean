/- Lean functions of the Go functions that the law FnExactDeskLine reaches, each with its contract: made by a program of this session. -/
import Derived.Test.YtofmlbgfcohhoaaGreatDoorPFnExactDeskLinex1
import Derived.Test.YtofmlbgfcohhoaaGreatDoorPFnExactDeskLinex2
import Derived.Test.YtofmlbgfcohhoaaGreatDoorPFnExactDeskLinex6
namespace Go.Proofs.YtofmlbgfcohhoaaGreatDoor.PFnExactDeskLine
open Go.RowKit Go.Proofs.YtofmlbgfcohhoaaGreatDoorW.PrintWords Go.Proofs.YtofmlbgfcohhoaaGreatDoorW.PrintLast Go.Proofs.YtofmlbgfcohhoaaGreatDoorW.PrintMore Go.Proofs.YtofmlbgfcohhoaaGreatDoor.Lib
attribute [local go_sem] max2_int min2_int max_two min_two max_three min_three max_four min_four   -- for this text's walks alone
set_option linter.unusedVariables false
set_option linter.unusedSimpArgs false

attribute [local go_sem high] eqA31 eqA38
/-! ### impl_deskDo: function 61 -/
def impl_deskDo.j0 : Nat → Bool → Int → Int → List (S31) → Int → Int → Option (Int × Int × (List (S31)) × Bool)
 | 0, _, _, _, _, _, _ => none
 | k + 1, x48, x225000, x225001, x225002, x239000, x239001 => if x48 = true then (some (x225000, x225001, x225002, false)) else (if x225002.length < 8796093022208 then ((some (x225002 ++ [(⟨x225000, x225001⟩ : S31)] : List (S31))).bind fun y239 => (if (y239.length : Int) > 8 then (if 1 ≤ (y239.length : Int) then ((impl_copyDesk.f x239000 x239001 (y239.drop (1 : Int).toNat)).bind fun bt245 => (some (bt245.1, bt245.2.1, bt245.2.2, true))) else (none)) else ((impl_copyDesk.f x239000 x239001 y239).bind fun bt250 => (some (bt250.1, bt250.2.1, bt250.2.2, true))))) else (none))
def impl_deskDo.f (k : Nat) (a0_0 : Int) (a0_1 : Int) (l0_2 : List (S31)) (a1_0 : Int) (a1_1 : ByteArray) : Option (Int × Int × (List (S31)) × Bool) := (impl_copyDesk.f a0_0 a0_1 l0_2).bind fun bt219 => (if (a1_0 == 4 && (a1_1.toList == ([] : List UInt8))) = true then (if (wrap64 ((bt219.2.2.length : Int) - 1)) < 0 then (some (bt219.1, bt219.2.1, bt219.2.2, false)) else (if 0 ≤ (wrap64 ((bt219.2.2.length : Int) - 1)) then (if (wrap64 ((bt219.2.2.length : Int) - 1)) < (bt219.2.2.length : Int) then (if (wrap64 ((bt219.2.2.length : Int) - 1)) ≤ (bt219.2.2.length : Int) then ((impl_copyDesk.f ((rd_T31 bt219.2.2 (wrap64 ((bt219.2.2.length : Int) - 1))).f0) ((rd_T31 bt219.2.2 (wrap64 ((bt219.2.2.length : Int) - 1))).f1) (bt219.2.2.take ((wrap64 ((bt219.2.2.length : Int) - 1)) : Int).toNat)).bind fun bt230 => (some (bt230.1, bt230.2.1, bt230.2.2, true))) else (none)) else (none)) else (none))) else ((impl_nextFraction.f k a0_0 a0_1 a1_0 a1_1).bind fun bt235 => (if bt235.2.2 = true then (impl_deskDo.j0 k (bt235.1 == a0_0 && (bt235.2.1 == a0_1)) bt219.1 bt219.2.1 bt219.2.2 bt235.1 bt235.2.1) else (impl_deskDo.j0 k true bt219.1 bt219.2.1 bt219.2.2 bt235.1 bt235.2.1))))
abbrev impl_deskDo.M (k : Nat) : Prop := (∀ y0 y1 y2 y3 y4 y5, LeO (impl_deskDo.j0 k y0 y1 y2 y3 y4 y5) (impl_deskDo.j0 (k + 1) y0 y1 y2 y3 y4 y5))
theorem impl_deskDo.mono_t : ∀ k, impl_deskDo.M k → impl_deskDo.M (k + 1) ∧ ∀ a0 a1 a2 a3 a4, LeO (impl_deskDo.f k a0 a1 a2 a3 a4) (impl_deskDo.f (k + 1) a0 a1 a2 a3 a4) := by
  rintro k ih0
  refine ⟨?_, ?_⟩ <;> (try unfold impl_deskDo.M) <;> intros <;> (first | unfold impl_deskDo.j0 | unfold impl_deskDo.f) <;> repeat' (with_reducible first | exact ih0 _ _ _ _ _ _ | exact impl_nextFraction.mono _ _ _ _ _ | exact LeO.refl _ | exact LeO.none _ | refine LeO.ite ?_ ?_ | refine LeO.bind ?_ fun _ => ?_)
theorem impl_deskDo.mono_l : ∀ k, impl_deskDo.M k
 | 0 => fun _ _ _ _ _ _ r h => by simp [impl_deskDo.j0] at h
 | k + 1 => (impl_deskDo.mono_t k (impl_deskDo.mono_l k)).1
theorem impl_deskDo.mono a0 a1 a2 a3 a4 k : LeO (impl_deskDo.f k a0 a1 a2 a3 a4) (impl_deskDo.f (k + 1) a0 a1 a2 a3 a4) := (impl_deskDo.mono_t k (impl_deskDo.mono_l k)).2 a0 a1 a2 a3 a4
def impl_deskDo.T6 : Bool × List (List Nat × List Nat) := (true, [([], []), ([0], [0]), ([], []), ([1, 2], [1, 2]), ([3], [3]), ([], []), ([5], [5]), ([], []), ([6, 7], [6, 7]), ([4, 8], [4, 8]), ([9], [9]), ([10, 10, 0, 1, 2, 3, 4, 5, 6, 7, 8, 9, 10], [10]), ([11, 0, 1, 2, 3, 4, 5, 6, 7, 8, 9, 10, 11], [])])
def impl_deskDo.B6 : List Nat := [0, 1, 0, 7, 15, 0, 32, 0, 224, 511, 1023, 2047, 4095]
theorem impl_deskDo.tab6 : rtab .any (opsOf Tryz.f61 6) = impl_deskDo.T6 := by kernel_rfl
theorem impl_deskDo.bits6 : waitsOk impl_deskDo.T6.2 impl_deskDo.B6 = true := by kernel_rfl
set_option maxHeartbeats 8000000 in
set_option maxRecDepth 100000 in
theorem impl_deskDo.calls (k : Nat) (a0_0 : Int) (a0_1 : Int) (A0_2 : Option Addr) (c0_2 : Nat) (l0_2 : List (S31)) (a1_0 : Int) (a1_1 : ByteArray) (r1 : Int) (r2 : Int) (r3 : List (S31)) (r4 : Bool) (w : World) (hG : Glob w) (hr0_2 : Kd.C k31 w A0_2 l0_2.length l0_2) (hc0_2 : l0_2.length ≤ c0_2) (h : impl_deskDo.f k a0_0 a0_1 l0_2 a1_0 a1_1 = some (r1, r2, r3, r4)) :
  Calls Tryz.prog 61 #[.agg #[.int .i64 a0_0, .int .i64 a0_1, .slice A0_2 l0_2.length c0_2], .agg #[.int .i64 a1_0, .string a1_1]] w fun e w' => ∃ v2_ : Value, e = .returned (.tuple #[.agg #[.int .i64 r1, .int .i64 r2, v2_], .bool r4]) ∧ Kd.R k31 31 w' w.heap.size (fun _ => True) v2_ r3 ∧ Below w.heap.size w w' := by
 have hu34 := Tryz.underlying34
 have hu38 := Tryz.underlying38
 have hu31 := Tryz.underlying31
 have HR0_2 := Aside0.mk hr0_2
 have HC0_2 := Aside0.mk hc0_2
 clear hr0_2 hc0_2
 have HB := Aside0.mk (Below.refl w.heap.size w)
 unfold impl_deskDo.f at h
 have H := h
 clear h
 obtain ⟨⟨t219, t220, t221⟩, A3, H⟩ := sqD H
 try dsimp only at H
 go_enter Tryz.func61, Tryz.ntmps61
 go_upto_if 15 with (first | ((with_reducible refine gate_dst (N := 2) rfl ?_); refine sqBx w (sqB HB) (N := 2) (cs := #[.int .i64 a0_0, .int .i64 a0_1, .slice A0_2 l0_2.length c0_2]) (t := 34) ?_; intro gb216 hg w6 BK216 GE216 HB hb; clear hb hg) | ((with_reducible refine gate_dst (N := 3) rfl ?_); refine sqBx w (sqB1 HB GE216) (N := 3) (cs := #[.int .i64 a1_0, .string a1_1]) (t := 38) ?_; intro gb217 hg w7 BK217 GE217 HB hb; obtain ⟨NB216_217, NB217_216⟩ := sqM hg BK216; replace BK216 := sqT BK216 hb; clear hb hg) | ((with_reducible refine gate_dst (N := 4) rfl ?_); refine sqBx w (sqB2 HB GE216 GE217) (N := 4) (cs := #[.int .i64 0, .int .i64 0, .slice none 0 0]) (t := 34) ?_; intro gb218 hg w8 BK218 GE218 HB hb; obtain ⟨NB216_218, NB218_216⟩ := sqM hg BK216; replace BK216 := sqT BK216 hb; obtain ⟨NB217_218, NB218_217⟩ := sqM hg BK217; replace BK217 := sqT BK217 hb; clear hb hg; have hnb9 := NB216_217.out; have hnc9 := NB217_216.out; have hnb10 := NB216_218.out; have hnc10 := NB218_216.out; obtain ⟨hcz11_0, hcz11_1, hcz11_2, hfz11_0, hfz11_1, hfz11_2⟩ := sqY3 BK216) | ((with_reducible refine gate_callee (f := 76) rfl ?_); refine sqC (some 12) Tryz.func76 #[.agg #[.int .i64 a0_0, .int .i64 a0_1, .slice A0_2 l0_2.length c0_2]] ?_; (with_reducible refine (impl_copyDesk.calls a0_0 a0_1 _ _ l0_2 t219 t220 t221 _ ?side1 ?side2 A3.out).mono ?_); (case side1 => exact Z16); (case side2 => exact Z13); rintro e w12 ⟨v222, rfl, ho0, hb⟩; refine ⟨_, rfl, ?_⟩; have HO223 := sqL ho0 (sqB3 HB GE216 GE217 GE218); replace BK216 := sqT BK216 hb; replace BK217 := sqT BK217 hb; replace BK218 := sqT BK218 hb; replace HB := sqS (sqB3 HB GE216 GE217 GE218) hb; (try clear hb); (try clear ho0)) | ((with_reducible refine gate_dst (N := 6) rfl ?_); refine sqBx w (sqB3 HB GE216 GE217 GE218) (N := 6) (cs := #[.int .i64 0, .int .i64 0, .slice none 0 0]) (t := 34) ?_; intro gb224 hg w13 BK224 GE224 HB hb; replace HO223 := sqU HO223 hb; obtain ⟨NB216_224, NB224_216⟩ := sqM hg BK216; replace BK216 := sqT BK216 hb; obtain ⟨NB217_224, NB224_217⟩ := sqM hg BK217; replace BK217 := sqT BK217 hb; obtain ⟨NB218_224, NB224_218⟩ := sqM hg BK218; replace BK218 := sqT BK218 hb; clear hb hg; obtain ⟨Ao18, co18, eo18⟩ := Kd.R_slice HO223.out; subst eo18; have hnb14 := NB224_216.out; have hnc14 := NB216_224.out; have hnb15 := NB224_217.out; have hnc15 := NB217_224.out; have hnb16 := NB224_218.out; have hnc16 := NB218_224.out; obtain ⟨hcz17_0, hcz17_1, hcz17_2, hfz17_0, hfz17_1, hfz17_2⟩ := sqY3 BK224; have hnb19 := NB217_218.out; have hnc19 := NB218_217.out; obtain ⟨hcz20_0, hcz20_1, hfz20_0, hfz20_1⟩ := sqY2 BK217; obtain ⟨hcz21_0, hcz21_1, hcz21_2, hfz21_0, hfz21_1, hfz21_2⟩ := sqY3 BK218; obtain ⟨hcz68_0, hcz68_1, hcz68_2, hfz68_0, hfz68_1, hfz68_2⟩ := sqY3 BK216))
 by_cases c4 : (a1_0 == 4 && (a1_1.toList == ([] : List UInt8))) = true
 ·rw [if_pos c4] at H
  have c4b0 : (a1_0 == 4 && (a1_1.toList == ([] : List UInt8))) = true := c4
  try have c4b8 : (a1_0 == 4 && a1_1.toList.isEmpty) = true := by (have h_ := c4b0; (repeat rw [show ∀ z : List UInt8, (z == ([] : List UInt8)) = z.isEmpty from fun z => by cases z <;> rfl] at h_); exact h_)
  (try (have c4b1 : decide (a1_0 = 4 && (a1_1.toList == ([] : List UInt8))) = true := by simpa using c4))
  (try (have c4b2 : (a1_0 == 4 && (a1_1.toList == ([] : List UInt8))) = true := by simpa using c4))
  (first | rw [c4b0] | rw [c4b1] | rw [c4b2] | rw [c4b8] | simp only [i64_w, i32_w, c4b0, c4b1] | skip)
  clear c4
  go_upto_if 21 with fail
  by_cases c5 : (wrap64 ((t221.length : Int) - 1)) < 0
  ·rw [if_pos c5] at H
   have c5b0 : decide ((wrap64 ((t221.length : Int) - 1)) < 0) = true := decide_eq_true c5
   (first | rw [c5b0] | simp only [i64_w, i32_w, c5b0] | skip)
   clear c5
   obtain ⟨rfl, rfl, rfl, rfl⟩ := sqO4 H
   go_wp2_with fail
   refine bodyPost_ret (results_ct rfl _ _ gb218 34 #[.int .i64 t219, .int .i64 t220, .slice Ao18 t221.length co18] (0, 0) _ rfl (by refine sqPut (cs := #[.int .i64 t219, .int .i64 t220, .slice none 0 0]) ?_ 2; refine sqPut (cs := #[.int .i64 t219, .int .i64 0, .slice none 0 0]) ?_ 1; refine sqPut (cs := #[.int .i64 0, .int .i64 0, .slice none 0 0]) ?_ 0; refine sqFar ?_ NB218_224; refine sqFar ?_ NB218_224; refine sqFar ?_ NB218_224; exact sqK BK218) Tryz.underlying34 rfl (by kernel_rfl)) rfl ?_
   exact ⟨_, Z6, by (with_reducible repeat (first | apply Kd.R_alloc | apply Kd.R_drewN | apply Kd.R_drew)); exact Kd.R_mono (Kd.R_far (p := ⟨gb218, 2, none⟩) (Kd.R_far (p := ⟨gb218, 1, none⟩) (Kd.R_far (p := ⟨gb218, 0, none⟩) (Kd.R_far (p := ⟨gb224, 2, none⟩) (Kd.R_far (p := ⟨gb224, 1, none⟩) (Kd.R_far (p := ⟨gb224, 0, none⟩) (Kd.R_types (Kd.R_types HO223.out BK224.out (by decide)) BK218.out (by decide)) (fun _ hk => hk.1.2) (.int .i64 t219)) (fun _ hk => hk.1.2) (.int .i64 t220)) (fun _ hk => hk.1.2) (.slice Ao18 t221.length co18)) (fun _ hk => hk.2) (.int .i64 t219)) (fun _ hk => hk.2) (.int .i64 t220)) (fun _ hk => hk.2) (.slice Ao18 t221.length co18)) (fun _ hk => trivial), sqB4 HB GE216 GE217 GE218 GE224⟩
  rw [if_neg c5] at H
  have c5b0 : decide ((wrap64 ((t221.length : Int) - 1)) < 0) = false := decide_eq_false c5
  (first | rw [c5b0] | simp only [i64_w, i32_w, c5b0] | skip)
  clear c5
  obtain ⟨ji22, hji22⟩ : ∃ j_ : Int, (wrap64 ((t221.length : Int) - 1)) = j_ := ⟨_, rfl⟩
  replace H : (if 0 ≤ (ji22) then (if (ji22) < (t221.length : Int) then (if (ji22) ≤ (t221.length : Int) then ((impl_copyDesk.f ((rd_T31 t221 (ji22)).f0) ((rd_T31 t221 (ji22)).f1) (t221.take ((ji22) : Int).toNat)).bind fun bt230 => (some (bt230.1, bt230.2.1, bt230.2.2, true))) else (none)) else (none)) else (none)) = some (r1, r2, r3, r4) := by first | (rw [hji22] at H; exact H) | (simp only [hji22] at H ⊢; exact H)
  (try rw [hji22] at c5b0)
  (try rw [hji22] at A3)
  have hji22w : (IntKind.i64.wrap ((t221.length : Int) - 1)) = ji22 := (i64_w _).trans hji22
  obtain ⟨c23, H⟩ := sqI H
  have c23b0 : decide (0 ≤ (ji22)) = true := decide_eq_true c23
  clear c23
  obtain ⟨c24, H⟩ := sqI H
  have c24b0 : decide ((ji22) < (t221.length : Int)) = true := decide_eq_true c24
  clear c24
  have c25b0 := eq_true (of_decide_eq_true Z20 : 0 ≤ (ji22))
  obtain ⟨c26, H⟩ := sqI H
  have c26b0 := eq_true c26
  have c26b1 : decide ((ji22) ≤ (t221.length : Int)) = true := decide_eq_true c26
  clear c26
  obtain ⟨y226, hy226⟩ : ∃ y_ : List (S31), y_ = (t221.take ((ji22) : Int).toNat) := ⟨_, rfl⟩
  replace H : ((impl_copyDesk.f ((rd_T31 t221 (ji22)).f0) ((rd_T31 t221 (ji22)).f1) y226).bind fun bt230 => (some (bt230.1, bt230.2.1, bt230.2.2, true))) = some (r1, r2, r3, r4) := sqW hy226 H
  have Ny226 := Aside0.mk hy226
  clear hy226
  obtain ⟨⟨t230, t231, t232⟩, A27, H⟩ := sqD H
  try dsimp only at H
  obtain ⟨rfl, rfl, rfl, rfl⟩ := sqO4 H
  try go_wp2_with fail
  obtain ⟨w43, hw_⟩ : ∃ w_, ((w13.setCell ⟨gb224, 0, none⟩ (.int .i64 t219)).setCell ⟨gb224, 1, none⟩ (.int .i64 t220)).setCell ⟨gb224, 2, none⟩ (.slice Ao18 t221.length co18) = w_ := ⟨_, rfl⟩
  replace HO223 : Aside0 (Kd.R k31 31 w43 w.heap.size (fun _ => True) (.slice Ao18 t221.length co18) t221) := by rw [← hw_]; exact ⟨by (with_reducible repeat (first | apply Kd.R_alloc | apply Kd.R_drewN | apply Kd.R_drew)); exact Kd.R_mono (Kd.R_far (p := ⟨gb224, 2, none⟩) (Kd.R_far (p := ⟨gb224, 1, none⟩) (Kd.R_far (p := ⟨gb224, 0, none⟩) (Kd.R_types HO223.out BK224.out (by decide)) (fun _ hk => hk.2) (.int .i64 t219)) (fun _ hk => hk.2) (.int .i64 t220)) (fun _ hk => hk.2) (.slice Ao18 t221.length co18)) (fun _ hk => trivial)⟩
  replace BK216 := sqJ hw_ NB216_224 BK216
  replace BK217 := sqJ hw_ NB217_224 BK217
  replace BK218 := sqJ hw_ NB218_224 BK218
  replace BK224 : Aside0 (w43.heap[gb224]? = some (.cells #[.int .i64 t219, .int .i64 t220, .slice Ao18 t221.length co18] 34 (0, 0))) := by rw [← hw_]; exact ⟨Z79 BK224⟩
  replace HB : Aside0 (Below w.heap.size w w43) := by rw [← hw_]; exact ⟨sqB4 HB GE216 GE217 GE218 GE224⟩
  rw [hw_]; clear hw_
  replace HO223 := Aside0.mk (Kd.R_drew HO223.out)
  replace BK216 := Aside0.mk (blk_drew BK216.out)
  replace BK217 := Aside0.mk (blk_drew BK217.out)
  replace BK218 := Aside0.mk (blk_drew BK218.out)
  replace BK224 := Aside0.mk (blk_drew BK224.out)
  replace HB := Aside0.mk (below_drew1 HB.out)
  have p225 : 0 ≤ ((ji22) : Int) := of_decide_eq_true Z20
  have q225 : (ji22) < (t221.length : Int) := of_decide_eq_true Z20
  obtain ⟨ad225, e225, hx225_0, hx225_1⟩ := at_T31 (Kd.R_reads' HO223.out).2.2 (ji22) p225 q225
  cases e225
  replace p225 := eq_true p225
  replace q225 := eq_true q225
  have q45 : ((ji22) : Int) ≤ ((t221.length : Int) : Int) := of_decide_eq_true Z20
  obtain ⟨i045, hi045, _, hsz45, _⟩ := info_parts info31
  have hroom45 : t221.length ≤ co18 := (Kd.R_reads' HO223.out).2.1
  have hC45 : Kd.C k31 _ (some ad225) t221.length t221 := (Kd.R_reads' HO223.out).2.2
  have hcut45 := cut_to (P := Tryz.prog) 32 31 .i64 Tryz.underlying32 hi045 (some ad225) t221.length co18 (ji22) (of_decide_eq_true Z20) q45 hroom45
  have hr45 := Kd.C_take (m := ((ji22) : Int).toNat) hC45 (by omega)
  have hy45 : y226.length = ((ji22) : Int).toNat := (by rw [Ny226.out, List.length_take]; omega)
  rw [← Ny226.out] at hr45
  rw [← hy45] at hcut45
  have HR229 := Aside0.mk hr45
  have HC229 := Aside0.mk (show y226.length ≤ co18 from by omega)
  clear hr45 hC45 hroom45 hi045 hsz45
  have KY45 := Aside0.mk hy45
  clear hy45
  have KL45 := Aside0.mk (show ((ji22) : Int).toNat ≤ t221.length from by omega)
  replace q45 := eq_true q45
  refine start_ (n := 13) (S := fun w' => w'.cell? ⟨gb224, 0, none⟩ = some (.int .i64 t219) ∧ w'.cell? ⟨gb224, 1, none⟩ = some (.int .i64 t220) ∧ w'.cell? ⟨gb224, 2, none⟩ = some (.slice (some ad225) t221.length co18) ∧ w'.cell? (ad225.add (((ji22)).toNat * 2)) = some (.int .i64 ((rd_T31 t221 (ji22)).f0)) ∧ w'.cell? ⟨(ad225.add (((ji22)).toNat * 2)).block, (ad225.add (((ji22)).toNat * 2)).off + 1, none⟩ = some (.int .i64 ((rd_T31 t221 (ji22)).f1))) (ds := []) #[false, false, false, false, false, false, false, false, false, false, false, false, false] (by kernel_rfl) rfl rfl ⟨(blk_cell BK224.out 0).trans rfl, (blk_cell BK224.out 1).trans rfl, (blk_cell BK224.out 2).trans rfl, hx225_0, hx225_1⟩ (fun hHeld => ?_); refine with_tabW impl_deskDo.tab6 impl_deskDo.bits6 (fun HT_ HW_ => ?_)
  generalize w43.drew = w44 at HO223 BK216 BK217 BK218 BK224 HB HR229 hx225_0 hx225_1 hHeld ⊢
  refine sqP (i := 0) (N := some 23) (h := ?_)
  refine sqP (i := 2) (N := some 25) (h := ?_)
  refine sqP (i := 5) (N := some 28) (h := ?_)
  refine sqP (i := 7) (N := some 30) (h := ?_)
  refine sqQ (i := 1) (N := some 24) hHeld (h := ?_)
  refine sqP (i := 3) (N := some 26) (h := ?_)
  refine sqQ (i := 4) (N := some 27) hHeld (h := ?_)
  refine sqQ (i := 6) (N := some 29) hHeld (h := ?_)
  refine sqP (i := 8) (N := some 31) (h := ?_)
  refine sqP (i := 9) (N := some 32) (h := ?_)
  refine one_ (i := 10) (N := some 33) #[true, true, true, true, true, true, true, true, true, true, true, false, false] rfl rfl (one_of HT_.out (by kernel_rfl)) (by decide) (fun K hK => ?_)
  refine goes_ Tryz.func76 (by kernel_rfl) rfl #[.agg #[.int .i64 ((rd_T31 t221 (ji22)).f0), .int .i64 ((rd_T31 t221 (ji22)).f1), .slice (some ad225) y226.length co18]] (by rfl) rfl rfl (by (try simp only [List.map_toArray, List.map_cons, List.map_nil]); first | done | (simp only [hji22]; rfl) | rfl | (simp only [List.length_drop, List.length_take]; rfl)) ?_
  with_reducible refine (impl_copyDesk.calls ((rd_T31 t221 (ji22)).f0) ((rd_T31 t221 (ji22)).f1) _ _ y226 t230 t231 t232 _ ?side1 ?side2 A27.out).mono ?_
  (case side1 => repeat (first | exact (Z80 HR229) | (with_reducible refine Kd.C_alloc ?_ _) | (with_reducible refine Kd.C_drewN ?_ _) | (with_reducible refine Kd.C_drew ?_)))
  (case side2 => exact HC229.out)
  rintro e w46 ⟨v233, rfl, ho0, hb⟩
  have HS3_ := (hb.cell (World.block_lt_of_cell? _ _ (hHeld.2.2.2.1))).trans (hHeld.2.2.2.1)
  have HS4_ := (hb.cell (World.block_lt_of_cell? _ _ (hHeld.2.2.2.2))).trans (hHeld.2.2.2.2)
  refine ⟨_, rfl, ?_⟩
  have HO234 := Aside0.mk (Kd.R_lower (Kd.R_new' ho0 (Kd.R_lt (sqR HO223))) (below_size (sqB4 HB GE216 GE217 GE218 GE224)))
  replace HO223 := Aside0.mk (Kd.R_elder' (sqR HO223) (Kd.R_base ho0) hb)
  replace BK216 := sqT BK216 hb
  replace BK217 := sqT BK217 hb
  replace BK218 := sqT BK218 hb
  replace BK224 := sqT BK224 hb
  replace HR229 := Aside0.mk (Kd.C_below (Z80 HR229) hb)
  replace HB := sqS (sqB4 HB GE216 GE217 GE218 GE224) hb
  (try clear hb)
  (try clear hb2)
  (try clear hk)
  (try clear hi)
  (try clear ho0)
  obtain ⟨Ao49, co49, eo49⟩ := Kd.R_slice HO234.out
  (first | subst eo49 | (injection eo49 with f1_ f2_ f3_; have f4_ := f1_.symm; have f5_ := f3_.symm; clear f1_ f2_ f3_; subst f4_; subst f5_))
  refine hK.out _ _ ⟨(blk_cell BK224.out 0).trans rfl, (blk_cell BK224.out 1).trans rfl, (blk_cell BK224.out 2).trans rfl, HS3_, HS4_⟩ (fun hHeld => ?_)
  clear hK K
  refine sqN (some 33) ?_
  refine one_ (i := 11) (N := none) #[true, true, true, true, true, true, true, true, true, true, true, true, false] rfl rfl (one_of HT_.out (by kernel_rfl)) (by decide) (fun K hK => ?_)
  have hs47 : w46.cell? ⟨gb218, 0, none⟩ = some (.int .i64 0) := (blk_cell BK218.out 0).trans rfl
  have hfs47 := blk_frozen BK218.out 0
  have hns47_0 := NB216_218.out
  have hns47_1 := NB217_218.out
  have hns47_3 := NB224_218.out
  have hms47_0 := NB218_216.out
  have hms47_1 := NB218_217.out
  have hms47_3 := NB218_224.out
  have hs48 : w46.cell? ⟨gb218, 1, none⟩ = some (.int .i64 0) := (blk_cell BK218.out 1).trans rfl
  have hfs48 := blk_frozen BK218.out 1
  have hs50 : w46.cell? ⟨gb218, 2, none⟩ = some (.slice none 0 0) := (blk_cell BK218.out 2).trans rfl
  have hfs50 := blk_frozen BK218.out 2
  refine skip_ (w1 := ?_) (by rfl) rfl ?_ ?_
  rotate_left
  ·go_simp
   rfl
  refine hK.out _ _ ⟨((cell_far (p := ⟨gb218, _, none⟩) NB224_218.out _).trans (((cell_far (p := ⟨gb218, _, none⟩) NB224_218.out _).trans (((cell_far (p := ⟨gb218, _, none⟩) NB224_218.out _).trans (hHeld.1)))))), ((cell_far (p := ⟨gb218, _, none⟩) NB224_218.out _).trans (((cell_far (p := ⟨gb218, _, none⟩) NB224_218.out _).trans (((cell_far (p := ⟨gb218, _, none⟩) NB224_218.out _).trans (hHeld.2.1)))))), ((cell_far (p := ⟨gb218, _, none⟩) NB224_218.out _).trans (((cell_far (p := ⟨gb218, _, none⟩) NB224_218.out _).trans (((cell_far (p := ⟨gb218, _, none⟩) NB224_218.out _).trans (hHeld.2.2.1)))))), ((cell_far (p := ⟨gb218, _, none⟩) (Z81 HO223 BK218) _).trans (((cell_far (p := ⟨gb218, _, none⟩) (Z81 HO223 BK218) _).trans (((cell_far (p := ⟨gb218, _, none⟩) (Z81 HO223 BK218) _).trans (hHeld.2.2.2.1)))))), ((cell_far (p := ⟨gb218, _, none⟩) (Z81 HO223 BK218) _).trans (((cell_far (p := ⟨gb218, _, none⟩) (Z81 HO223 BK218) _).trans (((cell_far (p := ⟨gb218, _, none⟩) (Z81 HO223 BK218) _).trans (hHeld.2.2.2.2))))))⟩ (fun hHeld => ?_)
  clear hK K
  refine sqP (i := 12) (N := some 5) (h := ?_)
  refine done_ (done_of HT_.out (by kernel_rfl)) ?_
  try go_wp2
  refine bodyPost_ret (results_ct rfl _ _ gb218 34 #[.int .i64 t230, .int .i64 t231, .slice Ao49 t232.length co49] (0, 0) _ rfl (by refine sqPut (cs := #[.int .i64 t230, .int .i64 t231, .slice none 0 0]) ?_ 2; refine sqPut (cs := #[.int .i64 t230, .int .i64 0, .slice none 0 0]) ?_ 1; refine sqPut (cs := #[.int .i64 0, .int .i64 0, .slice none 0 0]) ?_ 0; exact sqK BK218) Tryz.underlying34 rfl (by kernel_rfl)) rfl ?_
  exact ⟨_, Z61, by (with_reducible repeat (first | apply Kd.R_alloc | apply Kd.R_drewN | apply Kd.R_drew)); exact Kd.R_mono (Kd.R_far (p := ⟨gb218, 2, none⟩) (Kd.R_far (p := ⟨gb218, 1, none⟩) (Kd.R_far (p := ⟨gb218, 0, none⟩) (Kd.R_types HO234.out BK218.out (by decide)) (fun _ hk => hk.2) (.int .i64 t230)) (fun _ hk => hk.2) (.int .i64 t231)) (fun _ hk => hk.2) (.slice Ao49 t232.length co49)) (fun _ hk => trivial), sqB4 HB GE216 GE217 GE218 GE224⟩
 rw [if_neg c4] at H
 have c4b0 : (a1_0 == 4 && (a1_1.toList == ([] : List UInt8))) = false := by simpa using c4
 try have c4b8 : (a1_0 == 4 && a1_1.toList.isEmpty) = false := by (have h_ := c4b0; (repeat rw [show ∀ z : List UInt8, (z == ([] : List UInt8)) = z.isEmpty from fun z => by cases z <;> rfl] at h_); exact h_)
 (try (have c4b1 : decide (a1_0 = 4 && (a1_1.toList == ([] : List UInt8))) = false := by simpa using c4))
 (try (have c4b2 : (a1_0 == 4 && (a1_1.toList == ([] : List UInt8))) = false := by simpa using c4))
 (try (have c4b3 : ¬ (a1_0 = 4 && (a1_1.toList == ([] : List UInt8))) := by simpa using c4))
 (first | rw [c4b0] | rw [c4b1] | rw [c4b2] | rw [c4b3] | rw [c4b8] | simp only [i64_w, i32_w, c4b0, c4b1] | skip)
 clear c4
 obtain ⟨⟨t235, t236, t237⟩, A51, H⟩ := sqD H
 try dsimp only at H
 have HC52 := Aside0.mk H
 clear H
 go_upto_region 8 with (first | ((with_reducible refine gate_callee (f := 111) rfl ?_); refine sqC (some 38) Tryz.func111 #[.agg #[.int .i64 a0_0, .int .i64 a0_1], .agg #[.int .i64 a1_0, .string a1_1]] ?_; (with_reducible refine (impl_nextFraction.calls k a0_0 a0_1 a1_0 a1_1 t235 t236 t237 _ ?sideG A51.out).mono ?_); (case sideG => exact Glob.below hG (sqB4 HB GE216 GE217 GE218 GE224)); rintro e w69 ⟨rfl, hb⟩; refine ⟨_, rfl, ?_⟩; replace HO223 := Aside0.mk (Kd.R_below (by (with_reducible repeat (first | apply Kd.R_alloc | apply Kd.R_drewN | apply Kd.R_drew)); exact (Kd.R_mono (Kd.R_far (p := ⟨gb224, 2, none⟩) (Kd.R_far (p := ⟨gb224, 1, none⟩) (Kd.R_far (p := ⟨gb224, 0, none⟩) (Kd.R_types HO223.out BK224.out (by decide)) (fun _ hk => hk.2) (.int .i64 t219)) (fun _ hk => hk.2) (.int .i64 t220)) (fun _ hk => hk.2) (.slice Ao18 t221.length co18)) (fun _ h_ => h_.1))) hb); replace BK216 := sqH NB216_224 BK216 hb; replace BK217 := sqH NB217_224 BK217 hb; replace BK218 := sqH NB218_224 BK218 hb; replace BK224 := Aside0.mk (blk_below (g := gb224) (o := .cells #[.int .i64 t219, .int .i64 t220, .slice Ao18 t221.length co18] 34 (0, 0)) (Z79 BK224) hb); replace HB := sqS (sqB4 HB GE216 GE217 GE218 GE224) hb; (try clear hb)) | ((with_reducible refine gate_dst (N := 8) rfl ?_); refine sqBx w (sqB4 HB GE216 GE217 GE218 GE224) (N := 8) (cs := #[.int .i64 0, .int .i64 0]) (t := 31) ?_; intro gb238 hg w70 BK238 GE238 HB hb; replace HO223 := Aside0.mk (Kd.R_below (Kd.R_elderB (sqR HO223) gb238 (Nat.le_of_eq hg.symm)) hb); obtain ⟨NB216_238, NB238_216⟩ := sqM hg BK216; replace BK216 := sqT BK216 hb; obtain ⟨NB217_238, NB238_217⟩ := sqM hg BK217; replace BK217 := sqT BK217 hb; obtain ⟨NB218_238, NB238_218⟩ := sqM hg BK218; replace BK218 := sqT BK218 hb; obtain ⟨NB224_238, NB238_224⟩ := sqM hg BK224; replace BK224 := sqT BK224 hb; clear hb hg; have hnb71 := NB238_216.out; have hnc71 := NB216_238.out; have hnb72 := NB238_217.out; have hnc72 := NB217_238.out; have hnb73 := NB238_218.out; have hnc73 := NB218_238.out; have hnb74 := NB238_224.out; have hnc74 := NB224_238.out; obtain ⟨hcz75_0, hcz75_1, hfz75_0, hfz75_1⟩ := sqY2 BK238))
 (try simp only [Act.put, List.setIfInBounds_toArray, List.set_cons_zero, List.set_cons_succ])
 go_cut [48] (fun v48 wc => ∃ (kq : Nat) (x48_51 : Bool), v48 = .bool x48_51 ∧ Aside0 (impl_deskDo.j0 kq x48_51 t219 t220 t221 t235 t236 = some (r1, r2, r3, r4)) ∧ Aside0 (kq ≤ k) ∧ Aside0 (Kd.R k31 31 wc w.heap.size (fun k_ => k_ ≠ gb238) (.slice Ao18 t221.length co18) t221) ∧ Aside0 (wc.heap[gb216]? = some (.cells #[.int .i64 a0_0, .int .i64 a0_1, (.slice A0_2 l0_2.length c0_2)] 34 (0, 0))) ∧ Aside0 (wc.heap[gb217]? = some (.cells #[.int .i64 a1_0, .string a1_1] 38 (0, 0))) ∧ Aside0 (wc.heap[gb218]? = some (.cells #[.int .i64 0, .int .i64 0, (.slice none 0 0)] 34 (0, 0))) ∧ Aside0 (wc.heap[gb224]? = some (.cells #[.int .i64 t219, .int .i64 t220, (.slice Ao18 t221.length co18)] 34 (0, 0))) ∧ Aside0 (wc.heap[gb238]? = some (.cells #[.int .i64 t235, .int .i64 t236] 31 (0, 0))) ∧ Aside0 (Below w.heap.size w wc))
 case first =>
  have H := HC52.out
  clear HC52
  by_cases c76 : t237 = true
  ·subst c76
   rw [if_pos rfl] at H
   have H' := Aside0.mk H
   clear H
   have hnb77 := NB238_216.out
   have hnc77 := NB216_238.out
   have hnb78 := NB238_217.out
   have hnc78 := NB217_238.out
   have hnb79 := NB238_218.out
   have hnc79 := NB218_238.out
   have hnb80 := NB238_224.out
   have hnc80 := NB224_238.out
   obtain ⟨hcz81_0, hcz81_1, hfz81_0, hfz81_1⟩ := sqY2 BK238
   have hnb82 := NB216_217.out
   have hnc82 := NB217_216.out
   have hnb83 := NB216_218.out
   have hnc83 := NB218_216.out
   have hnb84 := NB216_224.out
   have hnc84 := NB224_216.out
   obtain ⟨hcz85_0, hcz85_1, hcz85_2, hfz85_0, hfz85_1, hfz85_2⟩ := sqY3 BK216
   go_wp2
   go_meet
   case rel => exact ⟨_, ((t235 == a0_0 && (t236 == a0_1))), Z2, H', ⟨Z12⟩, ⟨Z82 HO223⟩, ⟨Z10 NB216_238 BK216⟩, ⟨Z10 NB217_238 BK217⟩, ⟨Z10 NB218_238 BK218⟩, ⟨Z10 NB224_238 BK224⟩, ⟨Z83 BK238⟩, ⟨Z49 GE216 GE217 GE218 GE224 GE238⟩⟩
  replace c76 := Bool.eq_false_iff.mpr c76
  subst c76
  rw [if_neg sqF] at H
  have H' := Aside0.mk H
  clear H
  go_wp2
  go_meet
  case rel => exact ⟨_, (true), Z2, H', ⟨Z12⟩, ⟨Z82 HO223⟩, ⟨Z10 NB216_238 BK216⟩, ⟨Z10 NB217_238 BK217⟩, ⟨Z10 NB218_238 BK218⟩, ⟨Z10 NB224_238 BK224⟩, ⟨Z83 BK238⟩, ⟨Z49 GE216 GE217 GE218 GE224 GE238⟩⟩
 case rest =>
  clear HC52
  try clear c4; try clear c4b0; try clear c4b1; try clear c4b2; try clear hcz58_0; try clear hcz58_1; try clear hcz58_2; try clear hcz64_0; try clear hcz64_1; try clear hcz64_2; try clear hcz67_0; try clear hcz67_1; try clear hcz68_0; try clear hcz68_1; try clear hcz68_2; try clear hcz75_0; try clear hcz75_1; try clear hfz58_0; try clear hfz58_1; try clear hfz58_2; try clear hfz64_0; try clear hfz64_1; try clear hfz64_2; try clear hfz67_0; try clear hfz67_1; try clear hfz68_0; try clear hfz68_1; try clear hfz68_2; try clear hfz75_0; try clear hfz75_1
  obtain ⟨kq, x48_51, rfl, HA, HJ51, HO_225002, BK216, BK217, BK218, BK224, BK238, HB⟩ := hcut
  cases kq with
  | zero => exact absurd HA.out (by simp [impl_deskDo.j0])
  | succ kj51 =>
   have H := HA.out
   clear HA
   simp only [impl_deskDo.j0] at H
   by_cases c86 : x48_51 = true
   ·subst c86
    rw [if_pos rfl] at H
    obtain ⟨rfl, rfl, rfl, rfl⟩ := sqO4 H
    have hnb87 := NB224_216.out
    have hnc87 := NB216_224.out
    have hnb88 := NB224_217.out
    have hnc88 := NB217_224.out
    have hnb89 := NB224_218.out
    have hnc89 := NB218_224.out
    have hnb90 := NB224_238.out
    have hnc90 := NB238_224.out
    obtain ⟨hcz91_0, hcz91_1, hcz91_2, hfz91_0, hfz91_1, hfz91_2⟩ := sqY3 BK224
    have hnb92 := NB218_216.out
    have hnc92 := NB216_218.out
    have hnb93 := NB218_217.out
    have hnc93 := NB217_218.out
    have hnb94 := NB218_238.out
    have hnc94 := NB238_218.out
    obtain ⟨hcz95_0, hcz95_1, hcz95_2, hfz95_0, hfz95_1, hfz95_2⟩ := sqY3 BK218
    go_wp2
    refine bodyPost_ret (results_ct rfl _ _ gb218 34 #[.int .i64 t219, .int .i64 t220, .slice Ao18 t221.length co18] (0, 0) _ rfl (Z79 BK218) Tryz.underlying34 rfl (by kernel_rfl)) rfl ?_
    exact ⟨_, Z6, by (with_reducible repeat (first | apply Kd.R_alloc | apply Kd.R_drewN | apply Kd.R_drew)); exact Kd.R_mono (Kd.R_far (p := ⟨gb218, 2, none⟩) (Kd.R_far (p := ⟨gb218, 1, none⟩) (Kd.R_far (p := ⟨gb218, 0, none⟩) (Kd.R_types HO_225002.out BK218.out (by decide)) (fun _ hk => hk.2) (.int .i64 t219)) (fun _ hk => hk.2) (.int .i64 t220)) (fun _ hk => hk.2) (.slice Ao18 t221.length co18)) (fun _ hk => trivial), Z49 GE216 GE217 GE218 GE224 GE238⟩
   replace c86 := Bool.eq_false_iff.mpr c86
   subst c86
   rw [if_neg sqF] at H
   obtain ⟨c96, H⟩ := sqI H
   have LMc96 := Aside0.mk c96
   clear c96
   obtain ⟨y239, hy239⟩ : ∃ y_ : List (S31), y_ = (t221 ++ [(⟨t219, t220⟩ : S31)]) := ⟨_, rfl⟩
   replace H : (if (y239.length : Int) > 8 then (if 1 ≤ (y239.length : Int) then ((impl_copyDesk.f t235 t236 (y239.drop (1 : Int).toNat)).bind fun bt245 => (some (bt245.1, bt245.2.1, bt245.2.2, true))) else (none)) else ((impl_copyDesk.f t235 t236 y239).bind fun bt250 => (some (bt250.1, bt250.2.1, bt250.2.2, true)))) = some (r1, r2, r3, r4) := sqW hy239 H
   have Ny239 := Aside0.mk hy239
   clear hy239
   by_cases c97 : (y239.length : Int) > 8
   ·rw [if_pos c97] at H
    have c97b0 : decide (8 < (y239.length : Int)) = true := decide_eq_true c97
    have c97b1 : decide (8 < y239.length) = true := decide_eq_true (by omega)
    clear c97
    obtain ⟨c98, H⟩ := sqI H
    have c98b0 := eq_true c98
    have c98b1 : decide (1 ≤ (y239.length : Int)) = true := decide_eq_true c98
    clear c98
    obtain ⟨y242, hy242⟩ : ∃ y_ : List (S31), y_ = (y239.drop (1 : Int).toNat) := ⟨_, rfl⟩
    replace H : ((impl_copyDesk.f t235 t236 y242).bind fun bt245 => (some (bt245.1, bt245.2.1, bt245.2.2, true))) = some (r1, r2, r3, r4) := sqW hy242 H
    have Ny242 := Aside0.mk hy242
    clear hy242
    obtain ⟨⟨t245, t246, t247⟩, A99, H⟩ := sqD H
    try dsimp only at H
    obtain ⟨rfl, rfl, rfl, rfl⟩ := sqO4 H
    have hnb100 := NB224_216.out
    have hnc100 := NB216_224.out
    have hnb101 := NB224_217.out
    have hnc101 := NB217_224.out
    have hnb102 := NB224_218.out
    have hnc102 := NB218_224.out
    have hnb103 := NB224_238.out
    have hnc103 := NB238_224.out
    obtain ⟨hcz104_0, hcz104_1, hcz104_2, hfz104_0, hfz104_1, hfz104_2⟩ := sqY3 BK224
    go_wp2_with (first | ((with_reducible refine gate_builtin (b := .append) (xs := #[.tmp 51, .tmp 54]) rfl ?_); at_builtin; refine Kd.R_append k31 (w0 := w) w.heap.size rfl (.tmp 51) (.tmp 54) 32 31 (.agg #[(.int .i64 0), (.int .i64 0)]) 16 rfl Tryz.underlying32 info31 rfl (by decide) (by omega) (.slice Ao18 t221.length co18) t221 (⟨t219, t220⟩ : S31) [.int .i64 t219, .int .i64 t220] (fun k_ => k_ ≠ gb238) (fun _ => False) rfl rfl ?aP (fun _ hk => hk.elim) ?aF ?aO ?aB ?aS ?aL ?_; (case aP => exact k31_mkM _ _ _ (⟨t219, t220⟩ : S31)); (case aB => exact (Z49 GE216 GE217 GE218 GE224 GE238)); (case aF => exact (fun k_ hk => Kd.freshB (sqK BK238) k_ hk)); (case aO => exact (sqR HO_225002)); (case aS => exact (below_size (Z49 GE216 GE217 GE218 GE224 GE238))); (case aL => exact Z3 LMc96); intro v240 w105 ho hb hg hat; rw [← Ny239.out] at ho; replace BK216 := Aside0.mk (blk_grown (sqK BK216) hg (Kd.R_ne HO_225002.out BK216.out (by decide))); replace BK217 := Aside0.mk (blk_grown (sqK BK217) hg (Kd.R_ne HO_225002.out BK217.out (by decide))); replace BK218 := Aside0.mk (blk_grown (sqK BK218) hg (Kd.R_ne HO_225002.out BK218.out (by decide))); replace BK224 := Aside0.mk (blk_grown (sqK BK224) hg (Kd.R_ne HO_225002.out BK224.out (by decide))); replace BK238 := Aside0.mk (blk_grown (sqK BK238) hg (Kd.R_away HO_225002.out (fun _ hk => hk))); replace HB := Aside0.mk (hb); have HO241 := Aside0.mk (ho); clear HO_225002; clear ho hb hg hat; obtain ⟨Ao106, co106, eo106⟩ := Kd.R_slice HO241.out; subst eo106; have q107 : (1 : Int) ≤ ((y239.length : Int) : Int) := of_decide_eq_true Z20; obtain ⟨i0107, hi0107, _, hsz107, _⟩ := info_parts info31; have hcut107 := cut_from (P := Tryz.prog) 32 31 .i64 Tryz.underlying32 hi0107 2 hsz107 Ao106 y239.length co106 1 (by omega) q107; have hr107 := Kd.Q_drop (k := (1 : Int).toNat) (Kd.Q_of_R HO241.out) (by omega); obtain ⟨A107, hA107⟩ : ∃ A1, A1 = (if co106 = (1 : Int).toNat then Ao106 else (Ao106 : Option Addr).map (·.add ((1 : Int).toNat * 2))) := ⟨_, rfl⟩; obtain ⟨c107, hc107⟩ : ∃ c1, c1 = co106 - (1 : Int).toNat := ⟨_, rfl⟩; have hy107 : y242.length = y239.length - (1 : Int).toNat := (by rw [Ny242.out, List.length_drop]); rw [← Ny242.out] at hr107; rw [← hy107, ← hA107, ← hc107] at hcut107; replace hr107 : Kd.Q k31 31 w105 w.heap.size (fun k_ => k_ ≠ gb238) (.slice A107 y242.length c107) y242 := (by rw [hA107, hc107, hy107]; exact hr107); have HE107 : Aside0 ((Value.slice A107 y242.length c107).ownBlock = (.slice Ao106 y239.length co106 : Value).ownBlock) := ⟨by rw [hA107]; split <;> (cases (Ao106 : Option Addr) <;> rfl)⟩; clear hy107 hi0107 hsz107 HO241 hA107 hc107; have HO244 := Aside0.mk hr107; clear hr107; replace q107 := eq_true q107; have hnb108 := NB238_216.out; have hnc108 := NB216_238.out; have hnb109 := NB238_217.out; have hnc109 := NB217_238.out; have hnb110 := NB238_218.out; have hnc110 := NB218_238.out; obtain ⟨hcz111_0, hcz111_1, hfz111_0, hfz111_1⟩ := sqY2 BK238) | ((with_reducible refine gate_callee (f := 76) rfl ?_); refine sqC (some 64) Tryz.func76 #[.agg #[.int .i64 t235, .int .i64 t236, .slice A107 y242.length c107]] ?_; (with_reducible refine (impl_copyDesk.calls t235 t236 _ _ y242 t245 t246 t247 _ ?side1 ?side2 A99.out).mono ?_); (case side1 => exact Z84 HO244); (case side2 => exact (Kd.Q_reads' HO244.out).2.1); rintro e w112 ⟨v248, rfl, ho0, hb⟩; refine ⟨_, rfl, ?_⟩; have HO249 := Aside0.mk (Kd.R_lower (Kd.R_newB (Kd.R_new' ho0 (Kd.Q_lt (Z46 HO244))) (sqK BK238)) (below_size (Z49 GE216 GE217 GE218 GE224 GE238))); replace HO244 := Aside0.mk (Kd.Q_elder' (Z46 HO244) (Kd.R_base ho0) hb); replace BK216 := sqT BK216 hb; replace BK217 := sqT BK217 hb; replace BK218 := sqT BK218 hb; replace BK224 := sqT BK224 hb; replace BK238 := sqT BK238 hb; replace HB := Aside0.mk (below_step (Z49 GE216 GE217 GE218 GE224 GE238) hb); (try clear hb); (try clear ho0); have hnb113 := NB218_216.out; have hnc113 := NB216_218.out; have hnb114 := NB218_217.out; have hnc114 := NB217_218.out; obtain ⟨hcz115_0, hcz115_1, hcz115_2, hfz115_0, hfz115_1, hfz115_2⟩ := sqY3 BK218; obtain ⟨Ao116, co116, eo116⟩ := Kd.R_slice HO249.out; subst eo116))
    refine bodyPost_ret (results_ct rfl _ _ gb218 34 #[.int .i64 t245, .int .i64 t246, .slice Ao116 t247.length co116] (0, 0) _ rfl (by refine sqPut (cs := #[.int .i64 t245, .int .i64 t246, .slice none 0 0]) ?_ 2; refine sqPut (cs := #[.int .i64 t245, .int .i64 0, .slice none 0 0]) ?_ 1; refine sqPut (cs := #[.int .i64 0, .int .i64 0, .slice none 0 0]) ?_ 0; exact sqK BK218) Tryz.underlying34 rfl (by kernel_rfl)) rfl ?_
    exact ⟨_, Z6, by (with_reducible repeat (first | apply Kd.R_alloc | apply Kd.R_drewN | apply Kd.R_drew)); exact Kd.R_mono (Kd.R_far (p := ⟨gb218, 2, none⟩) (Kd.R_far (p := ⟨gb218, 1, none⟩) (Kd.R_far (p := ⟨gb218, 0, none⟩) (Kd.R_types HO249.out BK218.out (by decide)) (fun _ hk => hk.2) (.int .i64 t245)) (fun _ hk => hk.2) (.int .i64 t246)) (fun _ hk => hk.2) (.slice Ao116 t247.length co116)) (fun _ hk => trivial), Z49 GE216 GE217 GE218 GE224 GE238⟩
   rw [if_neg c97] at H
   have c97b0 : decide (8 < (y239.length : Int)) = false := decide_eq_false c97
   have c97b1 : decide (8 < y239.length) = false := decide_eq_false (by omega)
   clear c97
   obtain ⟨⟨t250, t251, t252⟩, A117, H⟩ := sqD H
   try dsimp only at H
   obtain ⟨rfl, rfl, rfl, rfl⟩ := sqO4 H
   have hnb118 := NB224_216.out
   have hnc118 := NB216_224.out
   have hnb119 := NB224_217.out
   have hnc119 := NB217_224.out
   have hnb120 := NB224_218.out
   have hnc120 := NB218_224.out
   have hnb121 := NB224_238.out
   have hnc121 := NB238_224.out
   obtain ⟨hcz122_0, hcz122_1, hcz122_2, hfz122_0, hfz122_1, hfz122_2⟩ := sqY3 BK224
   go_wp2_with (first | ((with_reducible refine gate_builtin (b := .append) (xs := #[.tmp 51, .tmp 54]) rfl ?_); at_builtin; refine Kd.R_append k31 (w0 := w) w.heap.size rfl (.tmp 51) (.tmp 54) 32 31 (.agg #[(.int .i64 0), (.int .i64 0)]) 16 rfl Tryz.underlying32 info31 rfl (by decide) (by omega) (.slice Ao18 t221.length co18) t221 (⟨t219, t220⟩ : S31) [.int .i64 t219, .int .i64 t220] (fun k_ => k_ ≠ gb238) (fun _ => False) rfl rfl ?aP (fun _ hk => hk.elim) ?aF ?aO ?aB ?aS ?aL ?_; (case aP => exact k31_mkM _ _ _ (⟨t219, t220⟩ : S31)); (case aB => exact (Z49 GE216 GE217 GE218 GE224 GE238)); (case aF => exact (fun k_ hk => Kd.freshB (sqK BK238) k_ hk)); (case aO => exact (sqR HO_225002)); (case aS => exact (below_size (Z49 GE216 GE217 GE218 GE224 GE238))); (case aL => exact Z3 LMc96); intro v240 w123 ho hb hg hat; rw [← Ny239.out] at ho; replace BK216 := Aside0.mk (blk_grown (sqK BK216) hg (Kd.R_ne HO_225002.out BK216.out (by decide))); replace BK217 := Aside0.mk (blk_grown (sqK BK217) hg (Kd.R_ne HO_225002.out BK217.out (by decide))); replace BK218 := Aside0.mk (blk_grown (sqK BK218) hg (Kd.R_ne HO_225002.out BK218.out (by decide))); replace BK224 := Aside0.mk (blk_grown (sqK BK224) hg (Kd.R_ne HO_225002.out BK224.out (by decide))); replace BK238 := Aside0.mk (blk_grown (sqK BK238) hg (Kd.R_away HO_225002.out (fun _ hk => hk))); replace HB := Aside0.mk (hb); have HO241 := Aside0.mk (ho); clear HO_225002; clear ho hb hg hat; obtain ⟨Ao124, co124, eo124⟩ := Kd.R_slice HO241.out; subst eo124; have hnb125 := NB238_216.out; have hnc125 := NB216_238.out; have hnb126 := NB238_217.out; have hnc126 := NB217_238.out; have hnb127 := NB238_218.out; have hnc127 := NB218_238.out; obtain ⟨hcz128_0, hcz128_1, hfz128_0, hfz128_1⟩ := sqY2 BK238) | ((with_reducible refine gate_callee (f := 76) rfl ?_); refine sqC (some 64) Tryz.func76 #[.agg #[.int .i64 t235, .int .i64 t236, .slice Ao124 y239.length co124]] ?_; (with_reducible refine (impl_copyDesk.calls t235 t236 _ _ y239 t250 t251 t252 _ ?side1 ?side2 A117.out).mono ?_); (case side1 => exact Z8 HO241); (case side2 => exact Z9 HO241); rintro e w129 ⟨v253, rfl, ho0, hb⟩; refine ⟨_, rfl, ?_⟩; have HO254 := Aside0.mk (Kd.R_lower (Kd.R_newB (Kd.R_new' ho0 (Kd.R_lt (sqR HO241))) (sqK BK238)) (below_size (Z49 GE216 GE217 GE218 GE224 GE238))); replace HO241 := Aside0.mk (Kd.R_elder' (sqR HO241) (Kd.R_base ho0) hb); replace BK216 := sqT BK216 hb; replace BK217 := sqT BK217 hb; replace BK218 := sqT BK218 hb; replace BK224 := sqT BK224 hb; replace BK238 := sqT BK238 hb; replace HB := Aside0.mk (below_step (Z49 GE216 GE217 GE218 GE224 GE238) hb); (try clear hb); (try clear ho0); have hnb130 := NB218_216.out; have hnc130 := NB216_218.out; have hnb131 := NB218_217.out; have hnc131 := NB217_218.out; obtain ⟨hcz132_0, hcz132_1, hcz132_2, hfz132_0, hfz132_1, hfz132_2⟩ := sqY3 BK218; obtain ⟨Ao133, co133, eo133⟩ := Kd.R_slice HO254.out; subst eo133))
   refine bodyPost_ret (results_ct rfl _ _ gb218 34 #[.int .i64 t250, .int .i64 t251, .slice Ao133 t252.length co133] (0, 0) _ rfl (by refine sqPut (cs := #[.int .i64 t250, .int .i64 t251, .slice none 0 0]) ?_ 2; refine sqPut (cs := #[.int .i64 t250, .int .i64 0, .slice none 0 0]) ?_ 1; refine sqPut (cs := #[.int .i64 0, .int .i64 0, .slice none 0 0]) ?_ 0; exact sqK BK218) Tryz.underlying34 rfl (by kernel_rfl)) rfl ?_
   exact ⟨_, Z6, by (with_reducible repeat (first | apply Kd.R_alloc | apply Kd.R_drewN | apply Kd.R_drew)); exact Kd.R_mono (Kd.R_far (p := ⟨gb218, 2, none⟩) (Kd.R_far (p := ⟨gb218, 1, none⟩) (Kd.R_far (p := ⟨gb218, 0, none⟩) (Kd.R_types HO254.out BK218.out (by decide)) (fun _ hk => hk.2) (.int .i64 t250)) (fun _ hk => hk.2) (.int .i64 t251)) (fun _ hk => hk.2) (.slice Ao133 t252.length co133)) (fun _ hk => trivial), Z49 GE216 GE217 GE218 GE224 GE238⟩

end Go.Proofs.YtofmlbgfcohhoaaGreatDoor.PFnExactDeskLine
