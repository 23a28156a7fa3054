import Derived.Test.YtofmlbgfcohhoaaGreatDoorPFnExactDeskSayx1
import Derived.Test.YtofmlbgfcohhoaaGreatDoorPFnExactDeskSayx2
import Derived.Test.YtofmlbgfcohhoaaGreatDoorPFnExactDeskSayx18
set_option maxHeartbeats 8000000
set_option maxRecDepth 100000
namespace Go.Proofs.YtofmlbgfcohhoaaGreatDoor.PFnExactDeskSay
open Go.RowKit Go.Proofs.YtofmlbgfcohhoaaGreatDoorW.PrintWords Go.Proofs.YtofmlbgfcohhoaaGreatDoorW.PrintLast Go.Proofs.YtofmlbgfcohhoaaGreatDoorW.PrintMore Go.Proofs.YtofmlbgfcohhoaaGreatDoor.Lib Go.Proofs.Tryz
attribute [local go_sem] max2_int min2_int max_two min_two max_three min_three max_four min_four   -- for this text's walks alone
set_option linter.unusedVariables false
set_option linter.unusedSimpArgs false

attribute [local go_sem high] eqA31 eqA38
/-! ### impl_deskDo: function 61 -/
def impl_deskDo.j0 : Nat → Bool → Int → Int → List (S31) → Int → Int → Option (Int × Int × (List (S31)) × Bool)
 | 0, _, _, _, _, _, _ => none
 | k + 1, x48, x0, x1, x2, x3, x4 => if x48 = true then (some (x0, x1, x2, false)) else (if x2.length < 8796093022208 then ((some (x2 ++ [(⟨x0, x1⟩ : S31)] : List (S31))).bind fun y0 => (if (y0.length : Int) > 8 then (if 1 ≤ (y0.length : Int) then ((impl_copyDesk.f x3 x4 (y0.drop (1 : Int).toNat)).bind fun bt0 => (some (bt0.1, bt0.2.1, bt0.2.2, true))) else (none)) else ((impl_copyDesk.f x3 x4 y0).bind fun bt1 => (some (bt1.1, bt1.2.1, bt1.2.2, true))))) else (none))
def impl_deskDo.f (k : Nat) (a0_0 : Int) (a0_1 : Int) (l0_2 : List (S31)) (a1_0 : Int) (a1_1 : ByteArray) : Option (Int × Int × (List (S31)) × Bool) := (impl_copyDesk.f a0_0 a0_1 l0_2).bind fun bt0 => (if (a1_0 == 4 && (a1_1.toList == ([] : List UInt8))) = true then (if (wrap64 ((bt0.2.2.length : Int) - 1)) < 0 then (some (bt0.1, bt0.2.1, bt0.2.2, false)) else (if 0 ≤ (wrap64 ((bt0.2.2.length : Int) - 1)) then (if (wrap64 ((bt0.2.2.length : Int) - 1)) < (bt0.2.2.length : Int) then (if (wrap64 ((bt0.2.2.length : Int) - 1)) ≤ (bt0.2.2.length : Int) then ((impl_copyDesk.f ((rd_T31 bt0.2.2 (wrap64 ((bt0.2.2.length : Int) - 1))).f0) ((rd_T31 bt0.2.2 (wrap64 ((bt0.2.2.length : Int) - 1))).f1) (bt0.2.2.take ((wrap64 ((bt0.2.2.length : Int) - 1)) : Int).toNat)).bind fun bt1 => (some (bt1.1, bt1.2.1, bt1.2.2, true))) else (none)) else (none)) else (none))) else ((impl_nextFraction.f k a0_0 a0_1 a1_0 a1_1).bind fun bt2 => (if bt2.2.2 = true then (impl_deskDo.j0 k (bt2.1 == a0_0 && (bt2.2.1 == a0_1)) bt0.1 bt0.2.1 bt0.2.2 bt2.1 bt2.2.1) else (impl_deskDo.j0 k true bt0.1 bt0.2.1 bt0.2.2 bt2.1 bt2.2.1))))
abbrev impl_deskDo.M (k : Nat) : Prop := (∀ y0 y1 y2 y3 y4 y5, LeO (impl_deskDo.j0 k y0 y1 y2 y3 y4 y5) (impl_deskDo.j0 (k + 1) y0 y1 y2 y3 y4 y5))
theorem impl_deskDo.mono_t : ∀ k, impl_deskDo.M k → impl_deskDo.M (k + 1) ∧ ∀ a0 a1 a2 a3 a4, LeO (impl_deskDo.f k a0 a1 a2 a3 a4) (impl_deskDo.f (k + 1) a0 a1 a2 a3 a4) := by
  rintro k ih0
  refine ⟨?_, ?_⟩ <;> (try unfold impl_deskDo.M) <;> intros <;> (first | unfold impl_deskDo.j0 | unfold impl_deskDo.f) <;> repeat' (with_reducible first | exact ih0 _ _ _ _ _ _ | exact impl_nextFraction.mono _ _ _ _ _ | exact LeO.refl _ | exact LeO.none _ | refine LeO.ite ?_ ?_ | refine LeO.bind ?_ fun _ => ?_)
theorem impl_deskDo.mono_l : ∀ k, impl_deskDo.M k
 | 0 => fun _ _ _ _ _ _ r h => by simp [impl_deskDo.j0] at h
 | k + 1 => (impl_deskDo.mono_t k (impl_deskDo.mono_l k)).1
theorem impl_deskDo.mono a0 a1 a2 a3 a4 k : LeO (impl_deskDo.f k a0 a1 a2 a3 a4) (impl_deskDo.f (k + 1) a0 a1 a2 a3 a4) := (impl_deskDo.mono_t k (impl_deskDo.mono_l k)).2 a0 a1 a2 a3 a4
def impl_deskDo.T6 : Bool × List (List Nat × List Nat) := (true, [([], []), ([0], [0]), ([], []), ([1, 2], [1, 2]), ([3], [3]), ([], []), ([5], [5]), ([], []), ([6, 7], [6, 7]), ([4, 8], [4, 8]), ([9], [9]), ([10, 10, 0, 1, 2, 3, 4, 5, 6, 7, 8, 9, 10], [10]), ([11, 0, 1, 2, 3, 4, 5, 6, 7, 8, 9, 10, 11], [])])
def impl_deskDo.B6 : List Nat := [0, 1, 0, 7, 15, 0, 32, 0, 224, 511, 1023, 2047, 4095]
theorem impl_deskDo.tab6 : rtab .any (opsOf f61 6) = impl_deskDo.T6 := by kernel_rfl
theorem impl_deskDo.bits6 : waitsOk impl_deskDo.T6.2 impl_deskDo.B6 = true := by kernel_rfl
theorem impl_deskDo.calls (k : Nat) (a0_0 : Int) (a0_1 : Int) (A0_2 : Option Addr) (c0_2 : Nat) (l0_2 : List (S31)) (a1_0 : Int) (a1_1 : ByteArray) (r1 : Int) (r2 : Int) (r3 : List (S31)) (r4 : Bool) (w : World) (hG : Glob w) (hr0_2 : Kd.C k31 w A0_2 l0_2.length l0_2) (hc0_2 : l0_2.length ≤ c0_2) (H : impl_deskDo.f k a0_0 a0_1 l0_2 a1_0 a1_1 = some (r1, r2, r3, r4)) :
  Calls prog 61 #[.agg #[.int .i64 a0_0, .int .i64 a0_1, .slice A0_2 l0_2.length c0_2], .agg #[.int .i64 a1_0, .string a1_1]] w fun e w' => ∃ v2_ : Value, e = .returned (.tuple #[.agg #[.int .i64 r1, .int .i64 r2, v2_], .bool r4]) ∧ Kd.R k31 31 w' w.heap.size (fun _ => True) v2_ r3 ∧ Below w.heap.size w w' := by
 have hu34 := underlying34
 have hu38 := underlying38
 have hu31 := underlying31
 have HR0_2 := sqa hr0_2
 have HC0_2 := sqa hc0_2
 clear hr0_2 hc0_2
 have HB := sqh w
 unfold impl_deskDo.f at H
 obtain ⟨⟨t555, t556, t0⟩, A3, H⟩ := sqD H
 try dsimp only at H
 go_enter func61, ntmps61
 go_upto_if 15 with (first | ((with_reducible refine sqd 2 rfl ?_); refine sqBx w (sqB HB) (cs := #[.int .i64 a0_0, .int .i64 a0_1, .slice A0_2 l0_2.length c0_2]) (t := 34) ?_; intro g0 hg w6 B0 E0 HB hb; clear hb hg) | ((with_reducible refine sqd 3 rfl ?_); refine sqBx w (sqB1 HB E0) (cs := #[.int .i64 a1_0, .string a1_1]) (t := 38) ?_; intro g1 hg w7 B2 E1 HB hb; obtain ⟨N0, N1⟩ := sqM hg B0; replace B0 := sqT B0 hb; clear hb hg) | ((with_reducible refine sqd 4 rfl ?_); refine sqBx w (sqB2 HB E0 E1) (cs := #[.int .i64 0, .int .i64 0, .slice none 0 0]) (t := 34) ?_; intro g2 hg w8 B9 E2 HB hb; obtain ⟨N2, N3⟩ := sqM hg B0; replace B0 := sqT B0 hb; obtain ⟨N4, N5⟩ := sqM hg B2; replace B2 := sqT B2 hb; clear hb hg; have := N0.1; have := N1.1; have := N2.1; have := N3.1; obtain ⟨_, _, _, _, _, _⟩ := sqY3 B0) | ((with_reducible refine sqc 76 rfl ?_); refine sqC (some 12) func76 #[.agg #[.int .i64 a0_0, .int .i64 a0_1, .slice A0_2 l0_2.length c0_2]] ?_; (with_reducible refine (impl_copyDesk.calls a0_0 a0_1 _ _ l0_2 t555 t556 t0 _ ?side1 ?side2 A3.1).mono ?_); (case side1 => exact Z2); (case side2 => exact Z3); rintro e w12 ⟨v0, rfl, ho0, hb⟩; refine ⟨_, rfl, ?_⟩; have O0 := sqL ho0 (sqB3 HB E0 E1 E2); replace B0 := sqT B0 hb; replace B2 := sqT B2 hb; replace B9 := sqT B9 hb; replace HB := sqS (sqB3 HB E0 E1 E2) hb; (try clear hb); (try clear ho0)) | ((with_reducible refine sqd 6 rfl ?_); refine sqBx w (sqB3 HB E0 E1 E2) (cs := #[.int .i64 0, .int .i64 0, .slice none 0 0]) (t := 34) ?_; intro g3 hg w13 B10 E3 HB hb; replace O0 := sqU O0 hb; obtain ⟨N6, N7⟩ := sqM hg B0; replace B0 := sqT B0 hb; obtain ⟨N8, N9⟩ := sqM hg B2; replace B2 := sqT B2 hb; obtain ⟨N10, N11⟩ := sqM hg B9; replace B9 := sqT B9 hb; clear hb hg; obtain ⟨Ao18, co18, eo18⟩ := Kd.R_slice O0.1; subst eo18; have := N7.1; have := N6.1; have := N9.1; have := N8.1; have := N11.1; have := N10.1; obtain ⟨_, _, _, _, _, _⟩ := sqY3 B10; have := N4.1; have := N5.1; obtain ⟨_, _, _, _⟩ := sqY2 B2; obtain ⟨_, _, _, _, _, _⟩ := sqY3 B9; obtain ⟨_, _, _, _, _, _⟩ := sqY3 B0))
 by_cases c4 : (a1_0 == 4 && (a1_1.toList == ([] : List UInt8))) = true
 ·rw [if_pos c4] at H
  have c4b0 : (a1_0 == 4 && (a1_1.toList == ([] : List UInt8))) = true := c4
  try have c4b8 : (a1_0 == 4 && a1_1.toList.isEmpty) = true := by (have h_ := c4b0; (repeat rw [show ∀ z : List UInt8, (z == ([] : List UInt8)) = z.isEmpty from fun z => by cases z <;> rfl] at h_); exact h_)
  (try (have c4b1 : decide (a1_0 = 4 && (a1_1.toList == ([] : List UInt8))) = true := by simpa using c4))
  (try (have c4b2 : (a1_0 == 4 && (a1_1.toList == ([] : List UInt8))) = true := by simpa using c4))
  (first | rw [c4b0] | rw [c4b1] | rw [c4b2] | rw [c4b8] | simp only [i64_w, i32_w, c4b0, c4b1] | skip)
  clear c4
  go_upto_if 21 with fail
  by_cases c5 : (wrap64 ((t0.length : Int) - 1)) < 0
  ·rw [if_pos c5] at H
   have c5b0 : decide ((wrap64 ((t0.length : Int) - 1)) < 0) = true := decide_eq_true c5
   (first | rw [c5b0] | simp only [i64_w, i32_w, c5b0] | skip)
   clear c5
   obtain ⟨rfl, rfl, rfl, rfl⟩ := sqO4 H
   go_wp2_with fail
   refine sqE g2 34 #[.int .i64 t555, .int .i64 t556, .slice Ao18 t0.length co18] (by refine sqPut (cs := #[.int .i64 t555, .int .i64 t556, .slice none 0 0]) ?_ 2; refine sqPut (cs := #[.int .i64 t555, .int .i64 0, .slice none 0 0]) ?_ 1; refine sqPut (cs := #[.int .i64 0, .int .i64 0, .slice none 0 0]) ?_ 0; refine sqFar ?_ N10; refine sqFar ?_ N10; refine sqFar ?_ N10; exact sqK B9) underlying34 ?_
   exact ⟨_, Z16, by (with_reducible repeat (first | apply Kd.R_alloc | apply Kd.R_drewN | apply Kd.R_drew)); exact Kd.R_mono (Kd.R_far (p := ⟨g2, 2, none⟩) (Kd.R_far (p := ⟨g2, 1, none⟩) (Kd.R_far (p := ⟨g2, 0, none⟩) (Kd.R_far (p := ⟨g3, 2, none⟩) (Kd.R_far (p := ⟨g3, 1, none⟩) (Kd.R_far (p := ⟨g3, 0, none⟩) (Kd.R_types (Kd.R_types O0.1 B10.1 (by decide)) B9.1 (by decide)) (fun _ hk => hk.1.2) (.int .i64 t555)) (fun _ hk => hk.1.2) (.int .i64 t556)) (fun _ hk => hk.1.2) (.slice Ao18 t0.length co18)) (fun _ hk => hk.2) (.int .i64 t555)) (fun _ hk => hk.2) (.int .i64 t556)) (fun _ hk => hk.2) (.slice Ao18 t0.length co18)) (fun _ hk => trivial), sqB4 HB E0 E1 E2 E3⟩
  rw [if_neg c5] at H
  have c5b0 : decide ((wrap64 ((t0.length : Int) - 1)) < 0) = false := decide_eq_false c5
  (first | rw [c5b0] | simp only [i64_w, i32_w, c5b0] | skip)
  clear c5
  obtain ⟨ji22, hji22⟩ : ∃ j_ : Int, (wrap64 ((t0.length : Int) - 1)) = j_ := ⟨_, rfl⟩
  replace H : (if 0 ≤ (ji22) then (if (ji22) < (t0.length : Int) then (if (ji22) ≤ (t0.length : Int) then ((impl_copyDesk.f ((rd_T31 t0 (ji22)).f0) ((rd_T31 t0 (ji22)).f1) (t0.take ((ji22) : Int).toNat)).bind fun bt0 => (some (bt0.1, bt0.2.1, bt0.2.2, true))) else (none)) else (none)) else (none)) = some (r1, r2, r3, r4) := by first | (rw [hji22] at H; exact H) | (simp only [hji22] at H ⊢; exact H)
  (try rw [hji22] at c5b0)
  (try rw [hji22] at A3)
  have hji22w : (IntKind.i64.wrap ((t0.length : Int) - 1)) = ji22 := (i64_w _).trans hji22
  obtain ⟨c23, H⟩ := sqI H
  have c23b0 : decide (0 ≤ (ji22)) = true := decide_eq_true c23
  clear c23
  obtain ⟨c24, H⟩ := sqI H
  have c24b0 : decide ((ji22) < (t0.length : Int)) = true := decide_eq_true c24
  clear c24
  have c25b0 := eq_true (of_decide_eq_true Z9 : 0 ≤ (ji22))
  obtain ⟨c26, H⟩ := sqI H
  have c26b0 := eq_true c26
  have c26b1 : decide ((ji22) ≤ (t0.length : Int)) = true := decide_eq_true c26
  clear c26
  obtain ⟨y0, hy0⟩ : ∃ y_ : List (S31), y_ = (t0.take ((ji22) : Int).toNat) := ⟨_, rfl⟩
  replace H : ((impl_copyDesk.f ((rd_T31 t0 (ji22)).f0) ((rd_T31 t0 (ji22)).f1) y0).bind fun bt0 => (some (bt0.1, bt0.2.1, bt0.2.2, true))) = some (r1, r2, r3, r4) := sqW hy0 H
  have Ny0 := sqa hy0
  clear hy0
  obtain ⟨⟨t1, t2, t3⟩, A27, H⟩ := sqD H
  try dsimp only at H
  obtain ⟨rfl, rfl, rfl, rfl⟩ := sqO4 H
  try go_wp2_with fail
  obtain ⟨w43, hw_⟩ : ∃ w_, ((w13.setCell ⟨g3, 0, none⟩ (.int .i64 t555)).setCell ⟨g3, 1, none⟩ (.int .i64 t556)).setCell ⟨g3, 2, none⟩ (.slice Ao18 t0.length co18) = w_ := ⟨_, rfl⟩
  replace O0 : Aside0 (Kd.R k31 31 w43 w.heap.size (fun _ => True) (.slice Ao18 t0.length co18) t0) := by rw [← hw_]; exact ⟨by (with_reducible repeat (first | apply Kd.R_alloc | apply Kd.R_drewN | apply Kd.R_drew)); exact Kd.R_mono (sqr3 O0.1 B10.1) (fun _ hk => trivial)⟩
  replace B0 := sqJ hw_ N6 B0
  replace B2 := sqJ hw_ N8 B2
  replace B9 := sqJ hw_ N10 B9
  replace B10 : Aside0 (w43.heap[g3]? = some (.cells #[.int .i64 t555, .int .i64 t556, .slice Ao18 t0.length co18] 34 (0, 0))) := by rw [← hw_]; exact ⟨Z55 B10⟩
  replace HB : Aside0 (Below w.heap.size w w43) := by rw [← hw_]; exact ⟨sqB4 HB E0 E1 E2 E3⟩
  rw [hw_]; clear hw_
  replace O0 := sqa (Kd.R_drew O0.1)
  replace B0 := sqa (blk_drew B0.1)
  replace B2 := sqa (blk_drew B2.1)
  replace B9 := sqa (blk_drew B9.1)
  replace B10 := sqa (blk_drew B10.1)
  replace HB := sqa (below_drew1 HB.1)
  have p0 : 0 ≤ ((ji22) : Int) := of_decide_eq_true Z9
  have q0 : (ji22) < (t0.length : Int) := of_decide_eq_true Z9
  obtain ⟨ad0, e0, hx0, hx1⟩ := at_T31 (Kd.R_reads' O0.1).2.2 (ji22) p0 q0
  cases e0
  replace p0 := eq_true p0
  replace q0 := eq_true q0
  have q45 : ((ji22) : Int) ≤ ((t0.length : Int) : Int) := of_decide_eq_true Z9
  obtain ⟨i045, hi0, _, hsz45, _⟩ := info_parts info31
  have hroom45 : t0.length ≤ co18 := (Kd.R_reads' O0.1).2.1
  have hC45 : Kd.C k31 _ (some ad0) t0.length t0 := (Kd.R_reads' O0.1).2.2
  have hcut45 := cut_to (P := prog) 32 31 .i64 underlying32 hi0 (some ad0) t0.length co18 (ji22) (of_decide_eq_true Z9) q45 hroom45
  have hr45 := Kd.C_take (m := ((ji22) : Int).toNat) hC45 (by omega)
  have hy45 : y0.length = ((ji22) : Int).toNat := (by rw [Ny0.out, List.length_take]; omega)
  rw [← Ny0.out] at hr45
  rw [← hy45] at hcut45
  have HR0 := sqa hr45
  have HC0 := sqa (show y0.length ≤ co18 from by omega)
  clear hr45 hC45 hroom45 hi0 hsz45
  have KY45 := sqa hy45
  clear hy45
  have KL45 := sqa (show ((ji22) : Int).toNat ≤ t0.length from by omega)
  replace q45 := eq_true q45
  refine start_ (n := 13) (S := fun w' => w'.cell? ⟨g3, 0, none⟩ = some (.int .i64 t555) ∧ w'.cell? ⟨g3, 1, none⟩ = some (.int .i64 t556) ∧ w'.cell? ⟨g3, 2, none⟩ = some (.slice (some ad0) t0.length co18) ∧ w'.cell? (ad0.add (((ji22)).toNat * 2)) = some (.int .i64 ((rd_T31 t0 (ji22)).f0)) ∧ w'.cell? ⟨(ad0.add (((ji22)).toNat * 2)).block, (ad0.add (((ji22)).toNat * 2)).off + 1, none⟩ = some (.int .i64 ((rd_T31 t0 (ji22)).f1))) (ds := []) #[false, false, false, false, false, false, false, false, false, false, false, false, false] (by kernel_rfl) rfl rfl ⟨(blk_cell B10.1 0).trans rfl, (blk_cell B10.1 1).trans rfl, (blk_cell B10.1 2).trans rfl, hx0, hx1⟩ (fun hHeld => ?_); refine with_tabW impl_deskDo.tab6 impl_deskDo.bits6 (fun HT_ HW_ => ?_)
  generalize w43.drew = w44 at O0 B0 B2 B9 B10 HB HR0 hx0 hx1 hHeld ⊢
  refine sqP 0 (some 23) (h := ?_)
  refine sqP 2 (some 25) (h := ?_)
  refine sqP 5 (some 28) (h := ?_)
  refine sqP 7 (some 30) (h := ?_)
  refine sqQ 1 (some 24) hHeld (h := ?_)
  refine sqP 3 (some 26) (h := ?_)
  refine sqQ 4 (some 27) hHeld (h := ?_)
  refine sqQ 6 (some 29) hHeld (h := ?_)
  refine sqP 8 (some 31) (h := ?_)
  refine sqP 9 (some 32) (h := ?_)
  refine one_ (i := 10) (N := some 33) #[true, true, true, true, true, true, true, true, true, true, true, false, false] rfl rfl (one_of HT_.out (by kernel_rfl)) (by decide) (fun K hK => ?_)
  refine goes_ func76 (by kernel_rfl) rfl #[.agg #[.int .i64 ((rd_T31 t0 (ji22)).f0), .int .i64 ((rd_T31 t0 (ji22)).f1), .slice (some ad0) y0.length co18]] (by rfl) rfl rfl (by (try simp only [List.map_toArray, List.map_cons, List.map_nil]); first | done | (simp only [hji22]; rfl) | rfl | (simp only [List.length_drop, List.length_take]; rfl)) ?_
  with_reducible refine (impl_copyDesk.calls ((rd_T31 t0 (ji22)).f0) ((rd_T31 t0 (ji22)).f1) _ _ y0 t1 t2 t3 _ ?side1 ?side2 A27.1).mono ?_
  (case side1 => repeat (first | exact (Z56 HR0) | (with_reducible refine Kd.C_alloc ?_ _) | (with_reducible refine Kd.C_drewN ?_ _) | (with_reducible refine Kd.C_drew ?_)))
  (case side2 => exact HC0.1)
  rintro e w46 ⟨v1, rfl, ho0, hb⟩
  have HS3_ := (hb.cell (World.block_lt_of_cell? _ _ (hHeld.2.2.2.1))).trans (hHeld.2.2.2.1)
  have HS4_ := (hb.cell (World.block_lt_of_cell? _ _ (hHeld.2.2.2.2))).trans (hHeld.2.2.2.2)
  refine ⟨_, rfl, ?_⟩
  have O1 := sqa (Kd.R_lower (Kd.R_new' ho0 (Kd.R_lt (sqR O0))) (below_size (sqB4 HB E0 E1 E2 E3)))
  replace O0 := sqa (Kd.R_elder' (sqR O0) (Kd.R_base ho0) hb)
  replace B0 := sqT B0 hb
  replace B2 := sqT B2 hb
  replace B9 := sqT B9 hb
  replace B10 := sqT B10 hb
  replace HR0 := sqa (Kd.C_below (Z56 HR0) hb)
  replace HB := sqS (sqB4 HB E0 E1 E2 E3) hb
  (try clear hb)
  (try clear hb2)
  (try clear hk)
  (try clear hi)
  (try clear ho0)
  obtain ⟨Ao49, co49, eo49⟩ := Kd.R_slice O1.1
  (first | subst eo49 | (injection eo49 with f1_ f2_ f3_; have f4_ := f1_.symm; have f5_ := f3_.symm; clear f1_ f2_ f3_; subst f4_; subst f5_))
  refine hK.out _ _ ⟨(blk_cell B10.1 0).trans rfl, (blk_cell B10.1 1).trans rfl, (blk_cell B10.1 2).trans rfl, HS3_, HS4_⟩ (fun hHeld => ?_)
  clear hK K
  refine sqN (some 33) ?_
  refine one_ (i := 11) (N := none) #[true, true, true, true, true, true, true, true, true, true, true, true, false] rfl rfl (one_of HT_.out (by kernel_rfl)) (by decide) (fun K hK => ?_)
  have hs47 : w46.cell? ⟨g2, 0, none⟩ = some (.int .i64 0) := (blk_cell B9.1 0).trans rfl
  have hfs47 := blk_frozen B9.1 0
  have hns47_0 := N2.1
  have hns47_1 := N4.1
  have hns47_3 := N11.1
  have hms47_0 := N3.1
  have hms47_1 := N5.1
  have hms47_3 := N10.1
  have hs48 : w46.cell? ⟨g2, 1, none⟩ = some (.int .i64 0) := (blk_cell B9.1 1).trans rfl
  have hfs48 := blk_frozen B9.1 1
  have hs50 : w46.cell? ⟨g2, 2, none⟩ = some (.slice none 0 0) := (blk_cell B9.1 2).trans rfl
  have hfs50 := blk_frozen B9.1 2
  refine skip_ (w1 := ?_) (by rfl) rfl ?_ ?_
  rotate_left
  ·go_simp
   rfl
  refine hK.out _ _ ⟨((cell_far (p := ⟨g2, _, none⟩) N11.1 _).trans (((cell_far (p := ⟨g2, _, none⟩) N11.1 _).trans (((cell_far (p := ⟨g2, _, none⟩) N11.1 _).trans (hHeld.1)))))), ((cell_far (p := ⟨g2, _, none⟩) N11.1 _).trans (((cell_far (p := ⟨g2, _, none⟩) N11.1 _).trans (((cell_far (p := ⟨g2, _, none⟩) N11.1 _).trans (hHeld.2.1)))))), ((cell_far (p := ⟨g2, _, none⟩) N11.1 _).trans (((cell_far (p := ⟨g2, _, none⟩) N11.1 _).trans (((cell_far (p := ⟨g2, _, none⟩) N11.1 _).trans (hHeld.2.2.1)))))), ((cell_far (p := ⟨g2, _, none⟩) (Z57 O0 B9) _).trans (((cell_far (p := ⟨g2, _, none⟩) (Z57 O0 B9) _).trans (((cell_far (p := ⟨g2, _, none⟩) (Z57 O0 B9) _).trans (hHeld.2.2.2.1)))))), ((cell_far (p := ⟨g2, _, none⟩) (Z57 O0 B9) _).trans (((cell_far (p := ⟨g2, _, none⟩) (Z57 O0 B9) _).trans (((cell_far (p := ⟨g2, _, none⟩) (Z57 O0 B9) _).trans (hHeld.2.2.2.2))))))⟩ (fun hHeld => ?_)
  clear hK K
  refine sqP 12 (some 5) (h := ?_)
  refine done_ (done_of HT_.out (by kernel_rfl)) ?_
  try go_wp2
  refine sqE g2 34 #[.int .i64 t1, .int .i64 t2, .slice Ao49 t3.length co49] (by refine sqPut (cs := #[.int .i64 t1, .int .i64 t2, .slice none 0 0]) ?_ 2; refine sqPut (cs := #[.int .i64 t1, .int .i64 0, .slice none 0 0]) ?_ 1; refine sqPut (cs := #[.int .i64 0, .int .i64 0, .slice none 0 0]) ?_ 0; exact sqK B9) underlying34 ?_
  exact ⟨_, Z58, by (with_reducible repeat (first | apply Kd.R_alloc | apply Kd.R_drewN | apply Kd.R_drew)); exact Kd.R_mono (sqr3 O1.1 B9.1) (fun _ hk => trivial), sqB4 HB E0 E1 E2 E3⟩
 rw [if_neg c4] at H
 have c4b0 : (a1_0 == 4 && (a1_1.toList == ([] : List UInt8))) = false := by simpa using c4
 try have c4b8 : (a1_0 == 4 && a1_1.toList.isEmpty) = false := by (have h_ := c4b0; (repeat rw [show ∀ z : List UInt8, (z == ([] : List UInt8)) = z.isEmpty from fun z => by cases z <;> rfl] at h_); exact h_)
 (try (have c4b1 : decide (a1_0 = 4 && (a1_1.toList == ([] : List UInt8))) = false := by simpa using c4))
 (try (have c4b2 : (a1_0 == 4 && (a1_1.toList == ([] : List UInt8))) = false := by simpa using c4))
 (try (have c4b3 : ¬ (a1_0 = 4 && (a1_1.toList == ([] : List UInt8))) := by simpa using c4))
 (first | rw [c4b0] | rw [c4b1] | rw [c4b2] | rw [c4b3] | rw [c4b8] | simp only [i64_w, i32_w, c4b0, c4b1] | skip)
 clear c4
 obtain ⟨⟨t571, t572, t4⟩, A51, H⟩ := sqD H
 try dsimp only at H
 have HC52 := sqa H
 clear H
 go_upto_region 8 with (first | ((with_reducible refine sqc 111 rfl ?_); refine sqC (some 38) func111 #[.agg #[.int .i64 a0_0, .int .i64 a0_1], .agg #[.int .i64 a1_0, .string a1_1]] ?_; (with_reducible refine (impl_nextFraction.calls k a0_0 a0_1 a1_0 a1_1 t571 t572 t4 _ ?sideG A51.1).mono ?_); (case sideG => exact Glob.below hG (sqB4 HB E0 E1 E2 E3)); refine sqV fun w69 hb => ?_; replace O0 := sqa (Kd.R_below (by (with_reducible repeat (first | apply Kd.R_alloc | apply Kd.R_drewN | apply Kd.R_drew)); exact (Kd.R_mono (sqr3 O0.1 B10.1) (fun _ h_ => h_.1))) hb); replace B0 := sqH N6 B0 hb; replace B2 := sqH N8 B2 hb; replace B9 := sqH N10 B9 hb; replace B10 := sqa (blk_below (g := g3) (o := .cells #[.int .i64 t555, .int .i64 t556, .slice Ao18 t0.length co18] 34 (0, 0)) (Z55 B10) hb); replace HB := sqS (sqB4 HB E0 E1 E2 E3) hb; (try clear hb)) | ((with_reducible refine sqd 8 rfl ?_); refine sqBx w (sqB4 HB E0 E1 E2 E3) (cs := #[.int .i64 0, .int .i64 0]) (t := 31) ?_; intro gb574 hg w70 B11 E4 HB hb; replace O0 := sqa (Kd.R_below (Kd.R_elderB (sqR O0) gb574 (Nat.le_of_eq hg.symm)) hb); obtain ⟨N12, N13⟩ := sqM hg B0; replace B0 := sqT B0 hb; obtain ⟨N14, N15⟩ := sqM hg B2; replace B2 := sqT B2 hb; obtain ⟨N16, N17⟩ := sqM hg B9; replace B9 := sqT B9 hb; obtain ⟨N18, N19⟩ := sqM hg B10; replace B10 := sqT B10 hb; clear hb hg; have := N13.1; have := N12.1; have := N15.1; have := N14.1; have := N17.1; have := N16.1; have := N19.1; have := N18.1; obtain ⟨_, _, _, _⟩ := sqY2 B11))
 (try simp only [Act.put, List.setIfInBounds_toArray, List.set_cons_zero, List.set_cons_succ])
 go_cut [48] (fun v48 wc => ∃ (kq : Nat) (x48_51 : Bool), v48 = .bool x48_51 ∧ Aside0 (impl_deskDo.j0 kq x48_51 t555 t556 t0 t571 t572 = some (r1, r2, r3, r4)) ∧ Aside0 (kq ≤ k) ∧ Aside0 (Kd.R k31 31 wc w.heap.size (fun k_ => k_ ≠ gb574) (.slice Ao18 t0.length co18) t0) ∧ Aside0 (wc.heap[g0]? = some (.cells #[.int .i64 a0_0, .int .i64 a0_1, (.slice A0_2 l0_2.length c0_2)] 34 (0, 0))) ∧ Aside0 (wc.heap[g1]? = some (.cells #[.int .i64 a1_0, .string a1_1] 38 (0, 0))) ∧ Aside0 (wc.heap[g2]? = some (.cells #[.int .i64 0, .int .i64 0, (.slice none 0 0)] 34 (0, 0))) ∧ Aside0 (wc.heap[g3]? = some (.cells #[.int .i64 t555, .int .i64 t556, (.slice Ao18 t0.length co18)] 34 (0, 0))) ∧ Aside0 (wc.heap[gb574]? = some (.cells #[.int .i64 t571, .int .i64 t572] 31 (0, 0))) ∧ Aside0 (Below w.heap.size w wc))
 case first =>
  have H := HC52.1
  clear HC52
  by_cases c76 : t4 = true
  ·subst c76
   rw [if_pos rfl] at H
   have H' := sqa H
   clear H
   have := N13.1
   have := N12.1
   have := N15.1
   have := N14.1
   have := N17.1
   have := N16.1
   have := N19.1
   have := N18.1
   obtain ⟨_, _, _, _⟩ := sqY2 B11
   have := N0.1
   have := N1.1
   have := N2.1
   have := N3.1
   have := N6.1
   have := N7.1
   obtain ⟨_, _, _, _, _, _⟩ := sqY3 B0
   go_wp2
   go_meet
   case rel => exact ⟨_, ((t571 == a0_0 && (t572 == a0_1))), Z4, H', ⟨Z5⟩, ⟨Z59 O0⟩, ⟨Z11 N12 B0⟩, ⟨Z11 N14 B2⟩, ⟨Z11 N16 B9⟩, ⟨Z11 N18 B10⟩, ⟨Z60 B11⟩, ⟨Z15 E0 E1 E2 E3 E4⟩⟩
  obtain rfl := sqb c76
  rw [if_neg sqF] at H
  have H' := sqa H
  clear H
  go_wp2
  go_meet
  case rel => exact ⟨_, (true), Z4, H', ⟨Z5⟩, ⟨Z59 O0⟩, ⟨Z11 N12 B0⟩, ⟨Z11 N14 B2⟩, ⟨Z11 N16 B9⟩, ⟨Z11 N18 B10⟩, ⟨Z60 B11⟩, ⟨Z15 E0 E1 E2 E3 E4⟩⟩
 case rest =>
  clear HC52
  obtain ⟨kq, x48_51, rfl, HA, HJ51, O2, B0, B2, B9, B10, B11, HB⟩ := hcut
  cases kq with
  | zero => exact absurd HA.out (by simp [impl_deskDo.j0])
  | succ kj51 =>
   have H := HA.out
   clear HA
   simp only [impl_deskDo.j0] at H
   by_cases c86 : x48_51 = true
   ·subst c86
    rw [if_pos rfl] at H
    obtain ⟨rfl, rfl, rfl, rfl⟩ := sqO4 H
    have := N7.1
    have := N6.1
    have := N9.1
    have := N8.1
    have := N11.1
    have := N10.1
    have := N18.1
    have := N19.1
    obtain ⟨_, _, _, _, _, _⟩ := sqY3 B10
    have := N3.1
    have := N2.1
    have := N5.1
    have := N4.1
    have := N16.1
    have := N17.1
    obtain ⟨_, _, _, _, _, _⟩ := sqY3 B9
    go_wp2
    refine sqE g2 34 #[.int .i64 t555, .int .i64 t556, .slice Ao18 t0.length co18] (Z55 B9) underlying34 ?_
    exact ⟨_, Z16, by (with_reducible repeat (first | apply Kd.R_alloc | apply Kd.R_drewN | apply Kd.R_drew)); exact Kd.R_mono (sqr3 O2.1 B9.1) (fun _ hk => trivial), Z15 E0 E1 E2 E3 E4⟩
   obtain rfl := sqb c86
   rw [if_neg sqF] at H
   obtain ⟨c96, H⟩ := sqI H
   have LMc96 := sqa c96
   clear c96
   obtain ⟨y1, hy1⟩ : ∃ y_ : List (S31), y_ = (t0 ++ [(⟨t555, t556⟩ : S31)]) := ⟨_, rfl⟩
   replace H : (if (y1.length : Int) > 8 then (if 1 ≤ (y1.length : Int) then ((impl_copyDesk.f t571 t572 (y1.drop (1 : Int).toNat)).bind fun bt1 => (some (bt1.1, bt1.2.1, bt1.2.2, true))) else (none)) else ((impl_copyDesk.f t571 t572 y1).bind fun bt2 => (some (bt2.1, bt2.2.1, bt2.2.2, true)))) = some (r1, r2, r3, r4) := sqW hy1 H
   have Ny1 := sqa hy1
   clear hy1
   by_cases c97 : (y1.length : Int) > 8
   ·rw [if_pos c97] at H
    have c97b0 : decide (8 < (y1.length : Int)) = true := decide_eq_true c97
    have c97b1 : decide (8 < y1.length) = true := decide_eq_true (by omega)
    clear c97
    obtain ⟨c98, H⟩ := sqI H
    have c98b0 := eq_true c98
    have c98b1 : decide (1 ≤ (y1.length : Int)) = true := decide_eq_true c98
    clear c98
    obtain ⟨y2, hy2⟩ : ∃ y_ : List (S31), y_ = (y1.drop (1 : Int).toNat) := ⟨_, rfl⟩
    replace H : ((impl_copyDesk.f t571 t572 y2).bind fun bt1 => (some (bt1.1, bt1.2.1, bt1.2.2, true))) = some (r1, r2, r3, r4) := sqW hy2 H
    have Ny2 := sqa hy2
    clear hy2
    obtain ⟨⟨t5, t6, t7⟩, A99, H⟩ := sqD H
    try dsimp only at H
    obtain ⟨rfl, rfl, rfl, rfl⟩ := sqO4 H
    have := N7.1
    have := N6.1
    have := N9.1
    have := N8.1
    have := N11.1
    have := N10.1
    have := N18.1
    have := N19.1
    obtain ⟨_, _, _, _, _, _⟩ := sqY3 B10
    go_wp2_with (first | ((with_reducible refine gate_builtin (b := .append) (xs := #[.tmp 51, .tmp 54]) rfl ?_); at_builtin; refine Kd.R_append k31 (w0 := w) w.heap.size rfl (.tmp 51) (.tmp 54) 32 31 (.agg #[(.int .i64 0), (.int .i64 0)]) 16 rfl underlying32 info31 rfl (by decide) (by omega) (.slice Ao18 t0.length co18) t0 (⟨t555, t556⟩ : S31) [.int .i64 t555, .int .i64 t556] (fun k_ => k_ ≠ gb574) (fun _ => False) rfl rfl ?aP (fun _ hk => hk.elim) ?aF ?aO ?aB ?aS ?aL ?_; (case aP => exact k31_mkM _ _ _ (⟨t555, t556⟩ : S31)); (case aB => exact (Z15 E0 E1 E2 E3 E4)); (case aF => exact (fun k_ hk => Kd.freshB (sqK B11) k_ hk)); (case aO => exact (sqR O2)); (case aS => exact (below_size (Z15 E0 E1 E2 E3 E4))); (case aL => exact Z17 LMc96); intro v2 w2 ho hb hg hat; rw [← Ny1.out] at ho; replace B0 := sqa (blk_grown (sqK B0) hg (Kd.R_ne O2.1 B0.1 (by decide))); replace B2 := sqa (blk_grown (sqK B2) hg (Kd.R_ne O2.1 B2.1 (by decide))); replace B9 := sqa (blk_grown (sqK B9) hg (Kd.R_ne O2.1 B9.1 (by decide))); replace B10 := sqa (blk_grown (sqK B10) hg (Kd.R_ne O2.1 B10.1 (by decide))); replace B11 := sqa (blk_grown (sqK B11) hg (Kd.R_away O2.1 (fun _ hk => hk))); replace HB := sqa (hb); have O3 := sqa (ho); clear O2; clear ho hb hg hat; obtain ⟨Ao0, co0, eo0⟩ := Kd.R_slice O3.1; subst eo0; have q1 : (1 : Int) ≤ ((y1.length : Int) : Int) := of_decide_eq_true Z9; obtain ⟨i0107, hi1, _, hsz0, _⟩ := info_parts info31; have hcut0 := cut_from (P := prog) 32 31 .i64 underlying32 hi1 2 hsz0 Ao0 y1.length co0 1 (by omega) q1; have hr0 := Kd.Q_drop (k := (1 : Int).toNat) (Kd.Q_of_R O3.1) (by omega); obtain ⟨A0, hA0⟩ : ∃ A1, A1 = (if co0 = (1 : Int).toNat then Ao0 else (Ao0 : Option Addr).map (·.add ((1 : Int).toNat * 2))) := ⟨_, rfl⟩; obtain ⟨c0, hc0⟩ : ∃ c1, c1 = co0 - (1 : Int).toNat := ⟨_, rfl⟩; have hy3 : y2.length = y1.length - (1 : Int).toNat := (by rw [Ny2.out, List.length_drop]); rw [← Ny2.out] at hr0; rw [← hy3, ← hA0, ← hc0] at hcut0; replace hr0 : Kd.Q k31 31 w2 w.heap.size (fun k_ => k_ ≠ gb574) (.slice A0 y2.length c0) y2 := (by rw [hA0, hc0, hy3]; exact hr0); have HE0 : Aside0 ((Value.slice A0 y2.length c0).ownBlock = (.slice Ao0 y1.length co0 : Value).ownBlock) := ⟨by rw [hA0]; split <;> (cases (Ao0 : Option Addr) <;> rfl)⟩; clear hy3 hi1 hsz0 O3 hA0 hc0; have O4 := sqa hr0; clear hr0; replace q1 := eq_true q1; have := N13.1; have := N12.1; have := N15.1; have := N14.1; have := N17.1; have := N16.1; obtain ⟨_, _, _, _⟩ := sqY2 B11) | ((with_reducible refine sqc 76 rfl ?_); refine sqC (some 64) func76 #[.agg #[.int .i64 t571, .int .i64 t572, .slice A0 y2.length c0]] ?_; (with_reducible refine (impl_copyDesk.calls t571 t572 _ _ y2 t5 t6 t7 _ ?side1 ?side2 A99.1).mono ?_); (case side1 => exact Z38 O4); (case side2 => exact Z39 O4); rintro e w3 ⟨v3, rfl, ho0, hb⟩; refine ⟨_, rfl, ?_⟩; have O5 := sqa (Kd.R_lower (Kd.R_newB (Kd.R_new' ho0 (Kd.Q_lt (Z12 O4))) (sqK B11)) (below_size (Z15 E0 E1 E2 E3 E4))); replace O4 := sqa (Kd.Q_elder' (Z12 O4) (Kd.R_base ho0) hb); replace B0 := sqT B0 hb; replace B2 := sqT B2 hb; replace B9 := sqT B9 hb; replace B10 := sqT B10 hb; replace B11 := sqT B11 hb; replace HB := sqa (below_step (Z15 E0 E1 E2 E3 E4) hb); (try clear hb); (try clear ho0); have := N3.1; have := N2.1; have := N5.1; have := N4.1; obtain ⟨_, _, _, _, _, _⟩ := sqY3 B9; obtain ⟨Ao1, co1, eo1⟩ := Kd.R_slice O5.1; subst eo1))
    refine sqE g2 34 #[.int .i64 t5, .int .i64 t6, .slice Ao1 t7.length co1] (by refine sqPut (cs := #[.int .i64 t5, .int .i64 t6, .slice none 0 0]) ?_ 2; refine sqPut (cs := #[.int .i64 t5, .int .i64 0, .slice none 0 0]) ?_ 1; refine sqPut (cs := #[.int .i64 0, .int .i64 0, .slice none 0 0]) ?_ 0; exact sqK B9) underlying34 ?_
    exact ⟨_, Z16, by (with_reducible repeat (first | apply Kd.R_alloc | apply Kd.R_drewN | apply Kd.R_drew)); exact Kd.R_mono (sqr3 O5.1 B9.1) (fun _ hk => trivial), Z15 E0 E1 E2 E3 E4⟩
   rw [if_neg c97] at H
   have c97b0 : decide (8 < (y1.length : Int)) = false := decide_eq_false c97
   have c97b1 : decide (8 < y1.length) = false := decide_eq_false (by omega)
   clear c97
   obtain ⟨⟨t8, t9, t10⟩, A2, H⟩ := sqD H
   try dsimp only at H
   obtain ⟨rfl, rfl, rfl, rfl⟩ := sqO4 H
   have := N7.1
   have := N6.1
   have := N9.1
   have := N8.1
   have := N11.1
   have := N10.1
   have := N18.1
   have := N19.1
   obtain ⟨_, _, _, _, _, _⟩ := sqY3 B10
   go_wp2_with (first | ((with_reducible refine gate_builtin (b := .append) (xs := #[.tmp 51, .tmp 54]) rfl ?_); at_builtin; refine Kd.R_append k31 (w0 := w) w.heap.size rfl (.tmp 51) (.tmp 54) 32 31 (.agg #[(.int .i64 0), (.int .i64 0)]) 16 rfl underlying32 info31 rfl (by decide) (by omega) (.slice Ao18 t0.length co18) t0 (⟨t555, t556⟩ : S31) [.int .i64 t555, .int .i64 t556] (fun k_ => k_ ≠ gb574) (fun _ => False) rfl rfl ?aP (fun _ hk => hk.elim) ?aF ?aO ?aB ?aS ?aL ?_; (case aP => exact k31_mkM _ _ _ (⟨t555, t556⟩ : S31)); (case aB => exact (Z15 E0 E1 E2 E3 E4)); (case aF => exact (fun k_ hk => Kd.freshB (sqK B11) k_ hk)); (case aO => exact (sqR O2)); (case aS => exact (below_size (Z15 E0 E1 E2 E3 E4))); (case aL => exact Z17 LMc96); intro v2 w4 ho hb hg hat; rw [← Ny1.out] at ho; replace B0 := sqa (blk_grown (sqK B0) hg (Kd.R_ne O2.1 B0.1 (by decide))); replace B2 := sqa (blk_grown (sqK B2) hg (Kd.R_ne O2.1 B2.1 (by decide))); replace B9 := sqa (blk_grown (sqK B9) hg (Kd.R_ne O2.1 B9.1 (by decide))); replace B10 := sqa (blk_grown (sqK B10) hg (Kd.R_ne O2.1 B10.1 (by decide))); replace B11 := sqa (blk_grown (sqK B11) hg (Kd.R_away O2.1 (fun _ hk => hk))); replace HB := sqa (hb); have O3 := sqa (ho); clear O2; clear ho hb hg hat; obtain ⟨Ao2, co2, eo2⟩ := Kd.R_slice O3.1; subst eo2; have := N13.1; have := N12.1; have := N15.1; have := N14.1; have := N17.1; have := N16.1; obtain ⟨_, _, _, _⟩ := sqY2 B11) | ((with_reducible refine sqc 76 rfl ?_); refine sqC (some 64) func76 #[.agg #[.int .i64 t571, .int .i64 t572, .slice Ao2 y1.length co2]] ?_; (with_reducible refine (impl_copyDesk.calls t571 t572 _ _ y1 t8 t9 t10 _ ?side1 ?side2 A2.1).mono ?_); (case side1 => exact Z29 O3); (case side2 => exact Z30 O3); rintro e w5 ⟨v4, rfl, ho0, hb⟩; refine ⟨_, rfl, ?_⟩; have O6 := sqa (Kd.R_lower (Kd.R_newB (Kd.R_new' ho0 (Kd.R_lt (sqR O3))) (sqK B11)) (below_size (Z15 E0 E1 E2 E3 E4))); replace O3 := sqa (Kd.R_elder' (sqR O3) (Kd.R_base ho0) hb); replace B0 := sqT B0 hb; replace B2 := sqT B2 hb; replace B9 := sqT B9 hb; replace B10 := sqT B10 hb; replace B11 := sqT B11 hb; replace HB := sqa (below_step (Z15 E0 E1 E2 E3 E4) hb); (try clear hb); (try clear ho0); have := N3.1; have := N2.1; have := N5.1; have := N4.1; obtain ⟨_, _, _, _, _, _⟩ := sqY3 B9; obtain ⟨Ao3, co3, eo3⟩ := Kd.R_slice O6.1; subst eo3))
   refine sqE g2 34 #[.int .i64 t8, .int .i64 t9, .slice Ao3 t10.length co3] (by refine sqPut (cs := #[.int .i64 t8, .int .i64 t9, .slice none 0 0]) ?_ 2; refine sqPut (cs := #[.int .i64 t8, .int .i64 0, .slice none 0 0]) ?_ 1; refine sqPut (cs := #[.int .i64 0, .int .i64 0, .slice none 0 0]) ?_ 0; exact sqK B9) underlying34 ?_
   exact ⟨_, Z16, by (with_reducible repeat (first | apply Kd.R_alloc | apply Kd.R_drewN | apply Kd.R_drew)); exact Kd.R_mono (sqr3 O6.1 B9.1) (fun _ hk => trivial), Z15 E0 E1 E2 E3 E4⟩

end Go.Proofs.YtofmlbgfcohhoaaGreatDoor.PFnExactDeskSay
