import Derived.Test.YtofmlbgfcohhoaaGreatDoorPFnExactDeskSayx19
import Derived.Test.YtofmlbgfcohhoaaGreatDoorPFnExactDeskSayx23
set_option maxHeartbeats 8000000
set_option maxRecDepth 100000
namespace Go.Proofs.YtofmlbgfcohhoaaGreatDoor.PFnExactDeskSay
open Go.RowKit Go.Proofs.YtofmlbgfcohhoaaGreatDoorW.PrintWords Go.Proofs.YtofmlbgfcohhoaaGreatDoorW.PrintLast Go.Proofs.YtofmlbgfcohhoaaGreatDoorW.PrintMore Go.Proofs.YtofmlbgfcohhoaaGreatDoor.Lib Go.Proofs.Tryz
attribute [local go_sem] max2_int min2_int max_two min_two max_three min_three max_four min_four   -- for this text's walks alone
set_option linter.unusedVariables false
set_option linter.unusedSimpArgs false

/-! ### impl_deskLine: function 87 -/
def impl_deskLine.f (k : Nat) (a0_0 : Int) (a0_1 : Int) (l0_2 : List (S31)) (a1 : ByteArray) : Option (Int × Int × (List (S31)) × ByteArray) := (impl_readDeed.f k a1).bind fun bt0 => (if bt0.2.2 = true then ((impl_deskDo.f k a0_0 a0_1 l0_2 bt0.1 bt0.2.1).bind fun bt1 => (if bt1.2.2.2 = true then (some (bt1.1, bt1.2.1, bt1.2.2.1, (⟨#[111, 107]⟩ : ByteArray))) else (some (bt1.1, bt1.2.1, bt1.2.2.1, (⟨#[110, 111, 116]⟩ : ByteArray))))) else ((impl_copyDesk.f a0_0 a0_1 l0_2).bind fun bt2 => ((impl_asked.f k a0_0 a0_1 a1).bind fun t0 => (some (bt2.1, bt2.2.1, bt2.2.2, t0)))))
theorem impl_deskLine.mono : ∀ a0 a1 a2 a3 k, LeO (impl_deskLine.f k a0 a1 a2 a3) (impl_deskLine.f (k + 1) a0 a1 a2 a3) := by
 intro a0 a1 a2 a3 k
 unfold impl_deskLine.f
 repeat' (with_reducible first | exact impl_asked.mono _ _ _ _ | exact impl_deskDo.mono _ _ _ _ _ _ | exact impl_readDeed.mono _ _ | exact LeO.refl _ | exact LeO.none _ | refine LeO.ite ?_ ?_ | refine LeO.bind ?_ fun _ => ?_)
def impl_deskLine.T7 : Bool × List (List Nat × List Nat) := (true, [([], []), ([0], [0]), ([], []), ([2], [2]), ([], []), ([3, 4, 1], [3, 4]), ([1, 5, 0, 1], [1]), ([5, 6, 0, 1, 2, 3, 4, 5, 6], [5])])
def impl_deskLine.B7 : List Nat := [0, 1, 0, 4, 0, 31, 63, 127]
theorem impl_deskLine.tab7 : rtab .any (opsOf f87 7) = impl_deskLine.T7 := by kernel_rfl
theorem impl_deskLine.bits7 : waitsOk impl_deskLine.T7.2 impl_deskLine.B7 = true := by kernel_rfl
theorem impl_deskLine.calls (k : Nat) (a0_0 : Int) (a0_1 : Int) (A0_2 : Option Addr) (c0_2 : Nat) (l0_2 : List (S31)) (a1 : ByteArray) (r1 : Int) (r2 : Int) (r3 : List (S31)) (r4 : ByteArray) (w : World) (hG : Glob w) (hr0_2 : Kd.C k31 w A0_2 l0_2.length l0_2) (hc0_2 : l0_2.length ≤ c0_2) (H : impl_deskLine.f k a0_0 a0_1 l0_2 a1 = some (r1, r2, r3, r4)) :
  Calls prog 87 #[.agg #[.int .i64 a0_0, .int .i64 a0_1, .slice A0_2 l0_2.length c0_2], .string a1] w fun e w' => ∃ v2_ : Value, e = .returned (.tuple #[.agg #[.int .i64 r1, .int .i64 r2, v2_], .string r4]) ∧ Kd.R k31 31 w' w.heap.size (fun _ => True) v2_ r3 ∧ Below w.heap.size w w' := by
 have hu34 := underlying34
 have hu38 := underlying38
 have hu31 := underlying31
 have HR0_2 := sqa hr0_2
 have HC0_2 := sqa hc0_2
 clear hr0_2 hc0_2
 have HB := sqh w
 unfold impl_deskLine.f at H
 obtain ⟨⟨t706, t0, t1⟩, A3, H⟩ := sqD H
 try dsimp only at H
 go_enter func87, ntmps87
 go_upto_if 15 with (first | ((with_reducible refine sqd 2 rfl ?_); refine sqBx w (sqB HB) (cs := #[.int .i64 a0_0, .int .i64 a0_1, .slice A0_2 l0_2.length c0_2]) (t := 34) ?_; intro g0 hg w7 B0 E0 HB hb; clear hb hg) | ((with_reducible refine sqd 4 rfl ?_); refine sqBx w (sqB1 HB E0) (cs := #[.int .i64 0, .int .i64 0, .slice none 0 0]) (t := 34) ?_; intro g1 hg w8 B2 E1 HB hb; obtain ⟨N0, N1⟩ := sqM hg B0; replace B0 := sqT B0 hb; clear hb hg) | ((with_reducible refine sqc 85 rfl ?_); refine sqC (some 12) func85 #[.string a1] ?_; (with_reducible refine (impl_readDeed.calls k a1 t706 t0 t1 _ ?sideG A3.1).mono ?_); (case sideG => exact Z61 E0 E1); refine sqV fun w9 hb => ?_; replace B0 := sqT B0 hb; replace B2 := sqT B2 hb; replace HB := sqS (sqB2 HB E0 E1) hb; (try clear hb)) | ((with_reducible refine sqd 6 rfl ?_); refine sqBx w (sqB2 HB E0 E1) (cs := #[.int .i64 0, .string (⟨#[]⟩ : ByteArray)]) (t := 38) ?_; intro g2 hg w10 B9 E2 HB hb; obtain ⟨N2, N3⟩ := sqM hg B0; replace B0 := sqT B0 hb; obtain ⟨N4, N5⟩ := sqM hg B2; replace B2 := sqT B2 hb; clear hb hg; have := N3.1; have := N2.1; have := N5.1; have := N4.1; obtain ⟨_, _, _, _⟩ := sqY2 B9; have := N0.1; have := N1.1; obtain ⟨_, _, _, _, _, _⟩ := sqY3 B0))
 by_cases c4 : t1 = true
 ·subst c4
  rw [if_pos rfl] at H
  obtain ⟨⟨t710, t711, t2, t3⟩, A5, H⟩ := sqD H
  try dsimp only at H
  go_upto_if 23 with (first | ((with_reducible refine sqc 61 rfl ?_); refine sqC (some 19) func61 #[.agg #[.int .i64 a0_0, .int .i64 a0_1, .slice A0_2 l0_2.length c0_2], .agg #[.int .i64 t706, .string t0]] ?_; (with_reducible refine (impl_deskDo.calls k a0_0 a0_1 _ _ l0_2 t706 t0 t710 t711 t2 t3 _ ?sideG ?side1 ?side2 A5.1).mono ?_); (case sideG => exact Glob.below hG (sqB3 HB E0 E1 E2)); (case side1 => exact Kd.C_below HR0_2.1 (sqB3 HB E0 E1 E2)); (case side2 => exact Z3); rintro e w16 ⟨v0, rfl, ho0, hb⟩; refine ⟨_, rfl, ?_⟩; have O0 := sqL ho0 (sqB3 HB E0 E1 E2); replace B0 := sqH N2 B0 hb; replace B2 := sqH N4 B2 hb; replace B9 := sqa (blk_below (g := g2) (o := .cells #[.int .i64 t706, .string t0] 38 (0, 0)) (Z62 B9) hb); replace HB := sqS (sqB3 HB E0 E1 E2) hb; (try clear hb); (try clear ho0)) | ((with_reducible refine sqd 8 rfl ?_); refine sqBx w (sqB3 HB E0 E1 E2) (cs := #[.int .i64 0, .int .i64 0, .slice none 0 0]) (t := 34) ?_; intro g3 hg w17 B10 E3 HB hb; replace O0 := sqU O0 hb; obtain ⟨N6, N7⟩ := sqM hg B0; replace B0 := sqT B0 hb; obtain ⟨N8, N9⟩ := sqM hg B2; replace B2 := sqT B2 hb; obtain ⟨N10, N11⟩ := sqM hg B9; replace B9 := sqT B9 hb; clear hb hg; obtain ⟨Ao22, co22, eo22⟩ := Kd.R_slice O0.1; subst eo22; have := N7.1; have := N6.1; have := N9.1; have := N8.1; have := N11.1; have := N10.1; obtain ⟨_, _, _, _, _, _⟩ := sqY3 B10; obtain ⟨_, _, _, _, _, _⟩ := sqY3 B2))
  by_cases c6 : t3 = true
  ·subst c6
   rw [if_pos rfl] at H
   obtain ⟨rfl, rfl, rfl, rfl⟩ := sqO4 H
   go_wp2_with fail
   refine sqE g1 34 #[.int .i64 t710, .int .i64 t711, .slice Ao22 t2.length co22] (Z63 N8 B2) underlying34 ?_
   exact ⟨_, Z16, by (with_reducible repeat (first | apply Kd.R_alloc | apply Kd.R_drewN | apply Kd.R_drew)); exact Kd.R_mono (Kd.R_far (p := ⟨g1, 2, none⟩) (Kd.R_far (p := ⟨g1, 1, none⟩) (Kd.R_far (p := ⟨g1, 0, none⟩) (Kd.R_far (p := ⟨g3, 2, none⟩) (Kd.R_far (p := ⟨g3, 1, none⟩) (Kd.R_far (p := ⟨g3, 0, none⟩) (Kd.R_types (Kd.R_types O0.1 B10.1 (by decide)) B2.1 (by decide)) (fun _ hk => hk.1.2) (.int .i64 t710)) (fun _ hk => hk.1.2) (.int .i64 t711)) (fun _ hk => hk.1.2) (.slice Ao22 t2.length co22)) (fun _ hk => hk.2) (.int .i64 t710)) (fun _ hk => hk.2) (.int .i64 t711)) (fun _ hk => hk.2) (.slice Ao22 t2.length co22)) (fun _ hk => trivial), sqB4 HB E0 E1 E2 E3⟩
  obtain rfl := sqb c6
  rw [if_neg sqF] at H
  obtain ⟨rfl, rfl, rfl, rfl⟩ := sqO4 H
  go_wp2_with fail
  refine sqE g1 34 #[.int .i64 t710, .int .i64 t711, .slice Ao22 t2.length co22] (Z63 N8 B2) underlying34 ?_
  exact ⟨_, Z16, by (with_reducible repeat (first | apply Kd.R_alloc | apply Kd.R_drewN | apply Kd.R_drew)); exact Kd.R_mono (Kd.R_far (p := ⟨g1, 2, none⟩) (Kd.R_far (p := ⟨g1, 1, none⟩) (Kd.R_far (p := ⟨g1, 0, none⟩) (Kd.R_far (p := ⟨g3, 2, none⟩) (Kd.R_far (p := ⟨g3, 1, none⟩) (Kd.R_far (p := ⟨g3, 0, none⟩) (Kd.R_types (Kd.R_types O0.1 B10.1 (by decide)) B2.1 (by decide)) (fun _ hk => hk.1.2) (.int .i64 t710)) (fun _ hk => hk.1.2) (.int .i64 t711)) (fun _ hk => hk.1.2) (.slice Ao22 t2.length co22)) (fun _ hk => hk.2) (.int .i64 t710)) (fun _ hk => hk.2) (.int .i64 t711)) (fun _ hk => hk.2) (.slice Ao22 t2.length co22)) (fun _ hk => trivial), sqB4 HB E0 E1 E2 E3⟩
 obtain rfl := sqb c4
 rw [if_neg sqF] at H
 obtain ⟨⟨t4, t5, t6⟩, A41, H⟩ := sqD H
 try dsimp only at H
 obtain ⟨t7, A42, H⟩ := sqD H
 obtain ⟨rfl, rfl, rfl, rfl⟩ := sqO4 H
 try go_wp2_with fail
 obtain ⟨w50, hw_⟩ : ∃ w_, (w10.setCell ⟨g2, 0, none⟩ (.int .i64 t706)).setCell ⟨g2, 1, none⟩ (.string t0) = w_ := ⟨_, rfl⟩
 replace B0 := sqJ hw_ N2 B0
 replace B2 := sqJ hw_ N4 B2
 replace B9 : Aside0 (w50.heap[g2]? = some (.cells #[.int .i64 t706, .string t0] 38 (0, 0))) := by rw [← hw_]; exact ⟨Z62 B9⟩
 replace HB : Aside0 (Below w.heap.size w w50) := by rw [← hw_]; exact ⟨sqB3 HB E0 E1 E2⟩
 rw [hw_]; clear hw_
 replace B0 := sqa (blk_drew B0.1)
 replace B2 := sqa (blk_drew B2.1)
 replace B9 := sqa (blk_drew B9.1)
 replace HB := sqa (below_drew1 HB.1)
 refine start_ (n := 8) (S := fun w' => w'.cell? ⟨g0, 0, none⟩ = some (.int .i64 a0_0) ∧ w'.cell? ⟨g0, 1, none⟩ = some (.int .i64 a0_1) ∧ w'.cell? ⟨g0, 2, none⟩ = some (.slice A0_2 l0_2.length c0_2)) (ds := []) #[false, false, false, false, false, false, false, false] (by kernel_rfl) rfl rfl (sqk1 B0) (fun hHeld => ?_); refine with_tabW impl_deskLine.tab7 impl_deskLine.bits7 (fun HT_ HW_ => ?_)
 generalize w50.drew = w51 at B0 B2 B9 HB hHeld ⊢
 refine sqP 2 (some 28) (h := ?_)
 refine sqP 4 (some 30) (h := ?_)
 refine sqQ 0 (some 26) hHeld (h := ?_)
 refine sqQ 3 (some 29) hHeld (h := ?_)
 refine one_ (i := 1) (N := some 27) #[true, true, true, true, true, false, false, false] rfl rfl (one_of HT_.out (by kernel_rfl)) (by decide) (fun K hK => ?_)
 refine goes_ func76 (by kernel_rfl) rfl #[.agg #[.int .i64 a0_0, .int .i64 a0_1, .slice A0_2 l0_2.length c0_2]] (by rfl) rfl rfl sqA ?_
 with_reducible refine (impl_copyDesk.calls a0_0 a0_1 _ _ l0_2 t4 t5 t6 _ ?side1 ?side2 A41.1).mono ?_
 (case side1 => exact Z2)
 (case side2 => exact Z3)
 rintro e w52 ⟨v1, rfl, ho0, hb⟩
 refine ⟨_, rfl, ?_⟩
 have O1 := sqL ho0 (sqB3 HB E0 E1 E2)
 replace B0 := sqT B0 hb
 replace B2 := sqT B2 hb
 replace B9 := sqT B9 hb
 replace HB := sqS (sqB3 HB E0 E1 E2) hb
 (try clear hb)
 (try clear hb2)
 (try clear hk)
 (try clear hi)
 (try clear ho0)
 refine hK.out _ _ (sqk1 B0) (fun hHeld => ?_)
 clear hK K
 refine sqN (some 27) ?_
 refine one_ (i := 5) (N := some 31) #[true, true, true, true, true, true, false, false] rfl rfl (one_of HT_.out (by kernel_rfl)) (by decide) (fun K hK => ?_)
 refine goes_ func125 (by kernel_rfl) rfl #[.agg #[.int .i64 a0_0, .int .i64 a0_1], .string a1] (by rfl) rfl rfl sqA ?_
 with_reducible refine (impl_asked.calls k a0_0 a0_1 a1 t7 _ ?sideG A42.1).mono ?_
 (case sideG => exact Glob.below hG (sqB3 HB E0 E1 E2))
 rintro e w53 ⟨rfl, hb⟩
 refine ⟨_, rfl, ?_⟩
 replace O1 := sqU O1 hb
 replace B0 := sqT B0 hb
 replace B2 := sqT B2 hb
 replace B9 := sqT B9 hb
 replace HB := sqS (sqB3 HB E0 E1 E2) hb
 (try clear hb)
 (try clear hb2)
 (try clear hk)
 (try clear hi)
 obtain ⟨Ao56, co56, eo56⟩ := Kd.R_slice O1.1
 (first | subst eo56 | (injection eo56 with f1_ f2_ f3_; have f4_ := f1_.symm; have f5_ := f3_.symm; clear f1_ f2_ f3_; subst f4_; subst f5_))
 refine hK.out _ _ (sqk1 B0) (fun hHeld => ?_)
 clear hK K
 refine sqN (some 31) ?_
 refine one_ (i := 6) (N := none) #[true, true, true, true, true, true, true, false] rfl rfl (one_of HT_.out (by kernel_rfl)) (by decide) (fun K hK => ?_)
 have hs54 : w53.cell? ⟨g1, 0, none⟩ = some (.int .i64 0) := (blk_cell B2.1 0).trans rfl
 have hfs54 := blk_frozen B2.1 0
 have hns54_0 := N0.1
 have hns54_2 := N5.1
 have hms54_0 := N1.1
 have hms54_2 := N4.1
 have hs55 : w53.cell? ⟨g1, 1, none⟩ = some (.int .i64 0) := (blk_cell B2.1 1).trans rfl
 have hfs55 := blk_frozen B2.1 1
 have hs57 : w53.cell? ⟨g1, 2, none⟩ = some (.slice none 0 0) := (blk_cell B2.1 2).trans rfl
 have hfs57 := blk_frozen B2.1 2
 refine skip_ (w1 := ?_) (by rfl) rfl ?_ ?_
 rotate_left
 ·go_simp
  rfl
 refine hK.out _ _ (sql1 N0 hHeld) (fun hHeld => ?_)
 clear hK K
 refine sqP 7 (some 5) (h := ?_)
 refine done_ (done_of HT_.out (by kernel_rfl)) ?_
 try go_wp2
 refine sqE g1 34 #[.int .i64 t4, .int .i64 t5, .slice Ao56 t6.length co56] (by refine sqPut (cs := #[.int .i64 t4, .int .i64 t5, .slice none 0 0]) ?_ 2; refine sqPut (cs := #[.int .i64 t4, .int .i64 0, .slice none 0 0]) ?_ 1; refine sqPut (cs := #[.int .i64 0, .int .i64 0, .slice none 0 0]) ?_ 0; exact sqK B2) underlying34 ?_
 exact ⟨_, Z16, by (with_reducible repeat (first | apply Kd.R_alloc | apply Kd.R_drewN | apply Kd.R_drew)); exact Kd.R_mono (sqr3 O1.1 B2.1) (fun _ hk => trivial), sqB3 HB E0 E1 E2⟩

/-! ### impl_DeskSay: function 48 -/
mutual
def impl_DeskSay.j0 : Nat → List ByteArray → Bool → Int → Int → List (S31) → Option (Int × Int × (List (S31)) × List ByteArray)
 | 0, _, _, _, _, _ => none
 | k + 1, x1, x18, x0, x2, x3 => if x18 = true then (some (0, 0, ([] : List (S31)), ([] : List ByteArray))) else ((impl_copyDesk.f x0 x2 x3).bind fun bt0 => (impl_DeskSay.l0 k (([] : List ByteArray)) x1 (x1.length : Int) 0 bt0.1 bt0.2.1 bt0.2.2))
def impl_DeskSay.l0 : Nat → List ByteArray → List ByteArray → Int → Int → Int → Int → List (S31) → Option (Int × Int × (List (S31)) × List ByteArray)
 | 0, _, _, _, _, _, _, _ => none
 | k + 1, x6, x23, x24, x25, x0, x1, x2 => if x25 < x24 then (if 0 ≤ x25 then (if x25 < (x23.length : Int) then ((impl_deskLine.f k x0 x1 x2 (rdOf ByteArray.empty x23 x25)).bind fun bt0 => (if x6.length < 8796093022208 then (impl_DeskSay.l0 k (x6 ++ [bt0.2.2.2]) x23 x24 (wrap64 (x25 + 1)) bt0.1 bt0.2.1 bt0.2.2.1) else (none))) else (none)) else (none)) else (some (x0, x1, x2, x6))
end
def impl_DeskSay.f (k : Nat) (a0_0 : Int) (a0_1 : Int) (l0_2 : List (S31)) (l1 : List ByteArray) : Option (Int × Int × (List (S31)) × List ByteArray) := (impl_isDesk.f k a0_0 a0_1 l0_2).bind fun t0 => (if t0 = true then (impl_DeskSay.j0 k l1 (decide ((l1.length : Int) > 40)) a0_0 a0_1 l0_2) else (impl_DeskSay.j0 k l1 true a0_0 a0_1 l0_2))
abbrev impl_DeskSay.M (k : Nat) : Prop := (∀ y0 y1 y2 y3 y4, LeO (impl_DeskSay.j0 k y0 y1 y2 y3 y4) (impl_DeskSay.j0 (k + 1) y0 y1 y2 y3 y4)) ∧ (∀ y0 y1 y2 y3 y4 y5 y6, LeO (impl_DeskSay.l0 k y0 y1 y2 y3 y4 y5 y6) (impl_DeskSay.l0 (k + 1) y0 y1 y2 y3 y4 y5 y6))
theorem impl_DeskSay.mono_t : ∀ k, impl_DeskSay.M k → impl_DeskSay.M (k + 1) ∧ ∀ a0 a1 a2 a3, LeO (impl_DeskSay.f k a0 a1 a2 a3) (impl_DeskSay.f (k + 1) a0 a1 a2 a3) := by
  rintro k ⟨ih0, ih1⟩
  refine ⟨⟨?_, ?_⟩, ?_⟩ <;> intros <;> (first | unfold impl_DeskSay.j0 | unfold impl_DeskSay.l0 | unfold impl_DeskSay.f) <;> repeat' (with_reducible first | exact ih0 _ _ _ _ _ | exact ih1 _ _ _ _ _ _ _ | exact impl_deskLine.mono _ _ _ _ _ | exact impl_isDesk.mono _ _ _ _ | exact LeO.refl _ | exact LeO.none _ | refine LeO.ite ?_ ?_ | refine LeO.bind ?_ fun _ => ?_)
theorem impl_DeskSay.mono_l : ∀ k, impl_DeskSay.M k
 | 0 => ⟨fun _ _ _ _ _ r h => by simp [impl_DeskSay.j0] at h, fun _ _ _ _ _ _ _ r h => by simp [impl_DeskSay.l0] at h⟩
 | k + 1 => (impl_DeskSay.mono_t k (impl_DeskSay.mono_l k)).1
theorem impl_DeskSay.mono a0 a1 a2 a3 k : LeO (impl_DeskSay.f k a0 a1 a2 a3) (impl_DeskSay.f (k + 1) a0 a1 a2 a3) := (impl_DeskSay.mono_t k (impl_DeskSay.mono_l k)).2 a0 a1 a2 a3
theorem impl_DeskSay.calls (k : Nat) (a0_0 : Int) (a0_1 : Int) (A0_2 : Option Addr) (c0_2 : Nat) (l0_2 : List (S31)) (A1 : Option Addr) (c1 : Nat) (l1 : List ByteArray) (r1 : Int) (r2 : Int) (r3 : List (S31)) (r4 : List ByteArray) (w : World) (hG : Glob w) (hr0_2 : Kd.C k31 w A0_2 l0_2.length l0_2) (hc0_2 : l0_2.length ≤ c0_2) (hr1 : Kd.C Kd.string w A1 l1.length l1) (hc1 : l1.length ≤ c1) (H : impl_DeskSay.f k a0_0 a0_1 l0_2 l1 = some (r1, r2, r3, r4)) :
  Calls prog 48 #[.agg #[.int .i64 a0_0, .int .i64 a0_1, .slice A0_2 l0_2.length c0_2], .slice A1 l1.length c1] w fun e w' => ∃ v2_ v3_ : Value, e = .returned (.tuple #[.agg #[.int .i64 r1, .int .i64 r2, v2_], v3_]) ∧ Kd.R k31 31 w' w.heap.size (fun _ => True) v2_ r3 ∧ Kd.R Kd.string 9 w' w.heap.size (fun _ => True) v3_ r4 ∧ Below w.heap.size w w' := by
 have hu34 := underlying34
 have HR0_2 := sqa hr0_2
 have HC0_2 := sqa hc0_2
 clear hr0_2 hc0_2
 have HR1 := sqa hr1
 have HC1 := sqa hc1
 clear hr1 hc1
 have HB := sqh w
 unfold impl_DeskSay.f at H
 have HC3 := sqa H
 clear H
 go_enter func48, ntmps48
 go_upto_region 1 with (first | ((with_reducible refine sqd 2 rfl ?_); (try (refine gate_guard (by rfl) ?_; dsimp only)); refine sqBx w (sqB HB) (cs := #[.int .i64 a0_0, .int .i64 a0_1, .slice A0_2 l0_2.length c0_2]) (t := 34) ?_; intro gb723 hg w4 B0 E0 HB hb; clear hb hg) | ((with_reducible refine sqd 4 rfl ?_); (try (refine gate_guard (by rfl) ?_; dsimp only)); refine sqBx w (sqB1 HB E0) (cs := #[.int .i64 0, .int .i64 0, .slice none 0 0]) (t := 34) ?_; intro g0 hg w5 B2 E1 HB hb; obtain ⟨N0, N1⟩ := sqM hg B0; replace B0 := sqT B0 hb; clear hb hg))
 (try simp only [Act.put, List.setIfInBounds_toArray, List.set_cons_zero, List.set_cons_succ])
 go_cut [18] (fun v18 wc => ∃ (kq : Nat) (x18_2 : Bool), v18 = .bool x18_2 ∧ Aside0 (impl_DeskSay.j0 kq l1 x18_2 a0_0 a0_1 l0_2 = some (r1, r2, r3, r4)) ∧ Aside0 (kq ≤ k) ∧ Aside0 (wc.heap[gb723]? = some (.cells #[.int .i64 a0_0, .int .i64 a0_1, (.slice A0_2 l0_2.length c0_2)] 34 (0, 0))) ∧ Aside0 (wc.heap[g0]? = some (.cells #[.int .i64 0, .int .i64 0, (.slice none 0 0)] 34 (0, 0))) ∧ Aside0 (Below w.heap.size w wc))
 case first =>
  have H := HC3.1
  clear HC3
  obtain ⟨t0, A6, H⟩ := sqD H
  by_cases c7 : t0 = true
  ·subst c7
   rw [if_pos rfl] at H
   have H' := sqa H
   clear H
   have := N0.1
   have := N1.1
   obtain ⟨_, _, _, _, _, _⟩ := sqY3 B0
   go_wp2_with (first | ((with_reducible refine sqc 60 rfl ?_); refine sqC (some 12) func60 #[.agg #[.int .i64 a0_0, .int .i64 a0_1, .slice A0_2 l0_2.length c0_2]] ?_; (with_reducible refine (impl_isDesk.calls k a0_0 a0_1 _ _ l0_2 true _ ?side1 ?side2 A6.1).mono ?_); (case side1 => exact Z2); (case side2 => exact Z3); refine sqV fun w10 hb => ?_; replace B0 := sqT B0 hb; replace B2 := sqT B2 hb; replace HB := sqS (sqB2 HB E0 E1) hb; (try clear hb)))
   go_meet
   case rel => exact ⟨_, (decide ((l1.length : Int) > 40)), Z4, H', ⟨Z5⟩, ⟨sqK B0⟩, ⟨sqK B2⟩, ⟨sqB2 HB E0 E1⟩⟩
  obtain rfl := sqb c7
  rw [if_neg sqF] at H
  have H' := sqa H
  clear H
  have := N0.1
  have := N1.1
  obtain ⟨_, _, _, _, _, _⟩ := sqY3 B0
  go_wp2_with (first | ((with_reducible refine sqc 60 rfl ?_); refine sqC (some 12) func60 #[.agg #[.int .i64 a0_0, .int .i64 a0_1, .slice A0_2 l0_2.length c0_2]] ?_; (with_reducible refine (impl_isDesk.calls k a0_0 a0_1 _ _ l0_2 false _ ?side1 ?side2 A6.1).mono ?_); (case side1 => exact Z2); (case side2 => exact Z3); refine sqV fun w13 hb => ?_; replace B0 := sqT B0 hb; replace B2 := sqT B2 hb; replace HB := sqS (sqB2 HB E0 E1) hb; (try clear hb)))
  go_meet
  case rel => exact ⟨_, (true), Z4, H', ⟨Z5⟩, ⟨sqK B0⟩, ⟨sqK B2⟩, ⟨sqB2 HB E0 E1⟩⟩
 case rest =>
  clear HC3
  obtain ⟨kq, x18_2, rfl, HA, HJ2, B0, B2, HB⟩ := hcut
  cases kq with
  | zero => exact absurd HA.out (by simp [impl_DeskSay.j0])
  | succ kj2 =>
   have H := HA.out
   clear HA
   simp only [impl_DeskSay.j0] at H
   by_cases c14 : x18_2 = true
   ·subst c14
    rw [if_pos rfl] at H
    obtain ⟨rfl, rfl, rfl, rfl⟩ := sqO4 H
    have := N1.1
    have := N0.1
    obtain ⟨_, _, _, _, _, _⟩ := sqY3 B2
    go_wp2
    refine sqE g0 34 #[.int .i64 0, .int .i64 0, .slice none 0 0] (Z20 B2) underlying34 ?_
    exact ⟨_, _, Z16, Z21, Z21, sqB2 HB E0 E1⟩
   obtain rfl := sqb c14
   rw [if_neg sqF] at H
   obtain ⟨⟨t1, t2, t3⟩, A17, H⟩ := sqD H
   try dsimp only at H
   obtain ⟨y0, hy0⟩ : ∃ y_ : List ByteArray, y_ = (([] : List ByteArray)) := ⟨_, rfl⟩
   replace H : (impl_DeskSay.l0 kj2 y0 l1 (l1.length : Int) 0 t1 t2 t3) = some (r1, r2, r3, r4) := sqW hy0 H
   have Ny0 := sqa hy0
   clear hy0
   have H' := sqa H
   clear H
   have := N0.1
   have := N1.1
   obtain ⟨_, _, _, _, _, _⟩ := sqY3 B0
   go_wp2_with (first | ((with_reducible refine sqc 76 rfl ?_); refine sqC (some 21) func76 #[.agg #[.int .i64 a0_0, .int .i64 a0_1, .slice A0_2 l0_2.length c0_2]] ?_; (with_reducible refine (impl_copyDesk.calls a0_0 a0_1 _ _ l0_2 t1 t2 t3 _ ?side1 ?side2 A17.1).mono ?_); (case side1 => exact Z2); (case side2 => exact Z3); rintro e w20 ⟨v0, rfl, ho0, hb⟩; refine ⟨_, rfl, ?_⟩; have O0 := sqL ho0 (sqB2 HB E0 E1); replace B0 := sqT B0 hb; replace B2 := sqT B2 hb; replace HB := sqS (sqB2 HB E0 E1) hb; (try clear hb); (try clear ho0); obtain ⟨_, _, _, _, _, _⟩ := sqY3 B0; obtain ⟨Ao22, co22, eo22⟩ := Kd.R_slice O0.1; subst eo22) | ((with_reducible refine sqd 22 rfl ?_); (try (refine gate_guard (by rfl) ?_; dsimp only)); refine Kd.R_lit Kd.string _ 9 ?hg (N := 22) ?hd (xs := ([] : List ByteArray)) (inner := []) (ok := fun _ => True) (okp := fun _ => True) ?hr ?hp (fun _ hk => hk) trivial (Below.refl _ _) (Nat.le_refl _) (by simp) ?_; (case hd => rfl); (case hg => rfl); (case hr => exact Z10); (case hp => exact Z36); intro v1 w23 ho24 hb hg_ hnew_; clear hg_ hnew_; (first | rw [← Ny0.out] at ho24 | (simp only [Int.reduceToNat] at ho24; rw [← Ny0.out] at ho24)); replace O0 := sqa (Kd.R_below (by (with_reducible repeat (first | apply Kd.R_alloc | apply Kd.R_drewN | apply Kd.R_drew)); exact (Kd.R_mono (sqr3 O0.1 B0.1) (fun _ h_ => h_.1))) hb); have O1 := sqL ho24 (sqB2 HB E0 E1); replace B0 := sqa (blk_below (g := gb723) (o := .cells #[.int .i64 t1, .int .i64 t2, .slice Ao22 t3.length co22] 34 (0, 0)) (by refine sqPut (cs := #[.int .i64 t1, .int .i64 t2, .slice A0_2 l0_2.length c0_2]) ?_ 2; refine sqPut (cs := #[.int .i64 t1, .int .i64 a0_1, .slice A0_2 l0_2.length c0_2]) ?_ 1; refine sqPut (cs := #[.int .i64 a0_0, .int .i64 a0_1, .slice A0_2 l0_2.length c0_2]) ?_ 0; exact sqK B0) hb); replace B2 := sqH N1 B2 hb; replace HB := sqS (sqB2 HB E0 E1) hb; clear hb ho24))
   go_loopg [6, 25] kj2 (fun kq v6 v25 w' => ∃ (x6_2 : List ByteArray) (x25_2 : Int) (x0 : Int) (x1 : Int) (x2 : List (S31)) (u724002 : Value), v25 = .int .i64 x25_2 ∧ Aside0 (impl_DeskSay.l0 kq x6_2 l1 (l1.length : Int) x25_2 x0 x1 x2 = some (r1, r2, r3, r4)) ∧ Aside0 (kq ≤ kj2) ∧ Aside0 (Kd.R Kd.string 9 w' w.heap.size (fun _ => True) v6 x6_2) ∧ Aside0 (Kd.R k31 31 w' w.heap.size (fun _ => True) u724002 x2) ∧ Aside0 (w'.heap[gb723]? = some (.cells #[.int .i64 x0, .int .i64 x1, u724002] 34 (0, 0))) ∧ Aside0 (w'.heap[g0]? = some (.cells #[.int .i64 0, .int .i64 0, (.slice none 0 0)] 34 (0, 0))) ∧ Aside0 (Below w.heap.size w w'))
   case atStart => exact ⟨(y0), (0), (t1), (t2), (t3), (.slice Ao22 t3.length co22), Z4, H', ⟨Nat.le_refl _⟩, ⟨sqR O1⟩, ⟨sqR O0⟩, ⟨sqK B0⟩, ⟨sqK B2⟩, ⟨sqB2 HB E0 E1⟩⟩
   case round =>
    clear H'
    obtain ⟨x6_2, x25_2, x0, x1, x2, u724002, rfl, HA, HK2, O2, O3, B0, B2, HB⟩ := hrel
    cases gk with
    | zero => exact absurd HA.out (by simp [impl_DeskSay.l0])
    | succ k2 =>
     have H := HA.out
     clear HA
     simp only [impl_DeskSay.l0] at H
     by_cases c25 : x25_2 < (l1.length : Int)
     ·rw [if_pos c25] at H
      have c25b0 : decide (x25_2 < (l1.length : Int)) = true := decide_eq_true c25
      clear c25
      obtain ⟨c26, H⟩ := sqI H
      have c26b0 : decide (0 ≤ x25_2) = true := decide_eq_true c26
      clear c26
      obtain ⟨c27, H⟩ := sqI H
      have c27b0 : decide (x25_2 < (l1.length : Int)) = true := decide_eq_true c27
      clear c27
      obtain ⟨⟨t735, t736, t737, t4⟩, A28, H⟩ := sqD H
      try dsimp only at H
      obtain ⟨c29, H⟩ := sqI H
      have LMc29 := sqa c29
      clear c29
      obtain ⟨y1, hy1⟩ : ∃ y_ : List ByteArray, y_ = (x6_2 ++ [t4]) := ⟨_, rfl⟩
      replace H : (impl_DeskSay.l0 k2 y1 l1 (l1.length : Int) (wrap64 (x25_2 + 1)) t735 t736 t737) = some (r1, r2, r3, r4) := sqW hy1 H
      have Ny1 := sqa hy1
      clear hy1
      have H' := sqa H
      clear H
      have p0 : 0 ≤ (x25_2 : Int) := of_decide_eq_true Z9
      have q0 : x25_2 < (l1.length : Int) := of_decide_eq_true Z9
      obtain ⟨ad0, e0, hx0⟩ := Kd.at_string HR1.1 x25_2 p0 q0
      cases e0
      replace hx0 := (HB.1.cell (World.block_lt_of_cell? w _ hx0)).trans hx0
      replace p0 := eq_true p0
      replace q0 := eq_true q0
      have := N0.1
      have := N1.1
      obtain ⟨_, _, _, _, _, _⟩ := sqY3 B0
      obtain ⟨Ao32, co32, eo32⟩ := Kd.R_slice O3.1
      subst eo32
      go_wp2_with (first | ((with_reducible refine sqc 87 rfl ?_); refine sqC (some 32) func87 #[.agg #[.int .i64 x0, .int .i64 x1, .slice Ao32 x2.length co32], .string (rdOf ByteArray.empty l1 x25_2)] ?_; (with_reducible refine (impl_deskLine.calls k2 x0 x1 _ _ x2 (rdOf ByteArray.empty l1 x25_2) t735 t736 t737 t4 _ ?sideG ?side1 ?side2 A28.1).mono ?_); (case sideG => exact Z61 E0 E1); (case side1 => exact Z29 O3); (case side2 => exact Z30 O3); rintro e w33 ⟨v2, rfl, ho0, hb⟩; refine ⟨_, rfl, ?_⟩; replace O2 := sqU O2 hb; have O4 := sqa (Kd.R_lower (Kd.R_new' ho0 (Kd.R_lt (sqR O3))) (below_size (sqB2 HB E0 E1))); replace O3 := sqa (Kd.R_elder' (sqR O3) (Kd.R_base ho0) hb); replace B0 := sqT B0 hb; replace B2 := sqT B2 hb; replace HB := sqS (sqB2 HB E0 E1) hb; (try clear hb); (try clear ho0)) | ((with_reducible refine sqd 9 rfl ?_); (try (refine gate_guard (by rfl) ?_; dsimp only)); refine sqBx w (sqB2 HB E0 E1) (cs := #[.int .i64 0, .int .i64 0, .slice none 0 0]) (t := 34) ?_; intro gb741 hg w34 B9 E2 HB hb; replace O2 := sqU O2 hb; replace O3 := sqU O3 hb; replace O4 := sqU O4 hb; obtain ⟨N2, N3⟩ := sqM hg B0; replace B0 := sqT B0 hb; obtain ⟨N4, N5⟩ := sqM hg B2; replace B2 := sqT B2 hb; clear hb hg; have := N3.1; have := N2.1; have := N5.1; have := N4.1; obtain ⟨_, _, _, _, _, _⟩ := sqY3 B9; obtain ⟨Ao38, co38, eo38⟩ := Kd.R_slice O4.1; subst eo38; obtain ⟨_, _, _, _, _, _⟩ := sqY3 B0) | ((with_reducible refine gate_builtin (b := .append) (xs := #[.tmp 36, .tmp 38]) rfl ?_); (try (refine gate_guard (by rfl) ?_; dsimp only)); at_builtin; refine Kd.R_append Kd.string (w0 := w) w.heap.size rfl (.tmp 36) (.tmp 38) 73 9 (.string ⟨#[]⟩) 16 rfl underlying73 info9 rfl (by decide) (by omega) u6 x6_2 t4 [.string t4] (fun _ => True) (fun _ => False) rfl Z10 ?aP (fun _ hk => hk.elim) ?aF ?aO ?aB ?aS ?aL ?_; (case aP => exact rfl); (case aB => exact (sqB3 HB E0 E1 E2)); (case aF => exact Z45); (case aO => exact (by (with_reducible repeat (first | apply Kd.R_alloc | apply Kd.R_drewN | apply Kd.R_drew)); exact Kd.R_mono (Kd.R_far (p := ⟨gb723, 2, none⟩) (Kd.R_far (p := ⟨gb723, 1, none⟩) (Kd.R_far (p := ⟨gb723, 0, none⟩) (Kd.R_far (p := ⟨gb741, 2, none⟩) (Kd.R_far (p := ⟨gb741, 1, none⟩) (Kd.R_far (p := ⟨gb741, 0, none⟩) (Kd.R_types (Kd.R_types O2.1 B9.1 (by decide)) B0.1 (by decide)) (fun _ hk => hk.1.2) (.int .i64 t735)) (fun _ hk => hk.1.2) (.int .i64 t736)) (fun _ hk => hk.1.2) (.slice Ao38 t737.length co38)) (fun _ hk => hk.2) (.int .i64 t735)) (fun _ hk => hk.2) (.int .i64 t736)) (fun _ hk => hk.2) (.slice Ao38 t737.length co38)) (fun _ hk => trivial))); (case aS => exact (below_size (sqB3 HB E0 E1 E2))); (case aL => exact Z17 LMc29); intro v3 w40 ho hb hg hat; rw [← Ny1.out] at ho; replace O3 := sqa (Kd.R_over' (Z64 O3 B9 B0) (Kd.R_typed (Z64 O2 B9 B0)) (by decide) hg); replace B2 := sqa (blk_grown (g := g0) (o := .cells #[.int .i64 0, .int .i64 0, .slice none 0 0] 34 (0, 0)) (Z48 N1 N4 B2) hg (Kd.R_ne O2.1 B2.1 (by decide))); replace O4 := sqa (Kd.R_over' (Z64 O4 B9 B0) (Kd.R_typed (Z64 O2 B9 B0)) (by decide) hg); replace B0 := sqa (blk_grown (g := gb723) (o := .cells #[.int .i64 t735, .int .i64 t736, .slice Ao38 t737.length co38] 34 (0, 0)) (by refine sqPut (cs := #[.int .i64 t735, .int .i64 t736, .slice Ao32 x2.length co32]) ?_ 2; refine sqPut (cs := #[.int .i64 t735, .int .i64 x1, .slice Ao32 x2.length co32]) ?_ 1; refine sqPut (cs := #[.int .i64 x0, .int .i64 x1, .slice Ao32 x2.length co32]) ?_ 0; refine sqFar ?_ N2; refine sqFar ?_ N2; refine sqFar ?_ N2; exact sqK B0) hg (Kd.R_ne O2.1 B0.1 (by decide))); replace B9 := sqa (blk_grown (g := gb741) (o := .cells #[.int .i64 t735, .int .i64 t736, .slice Ao38 t737.length co38] 34 (0, 0)) (by refine sqFar ?_ N3; refine sqFar ?_ N3; refine sqFar ?_ N3; refine sqPut (cs := #[.int .i64 t735, .int .i64 t736, .slice none 0 0]) ?_ 2; refine sqPut (cs := #[.int .i64 t735, .int .i64 0, .slice none 0 0]) ?_ 1; refine sqPut (cs := #[.int .i64 0, .int .i64 0, .slice none 0 0]) ?_ 0; exact sqK B9) hg (Kd.R_ne O2.1 B9.1 (by decide))); replace HB := sqa (hb); have O5 := sqa (ho); clear O2; clear ho hb hg hat))
      go_roundg k2
      case measure => have := HJ2.out; have := HK2.out; omega
      case rel => exact ⟨(y1), (wrap64 (x25_2 + 1)), (t735), (t736), (t737), (.slice Ao38 t737.length co38), Z4, H', ⟨Z49 HK2⟩, ⟨sqR O5⟩, ⟨by (with_reducible repeat (first | apply Kd.R_alloc | apply Kd.R_drewN | apply Kd.R_drew)); exact Kd.R_mono O4.1 (fun _ hk => trivial)⟩, ⟨sqK B0⟩, ⟨sqK B2⟩, ⟨sqB3 HB E0 E1 E2⟩⟩
     rw [if_neg c25] at H
     have c25b0 : decide (x25_2 < (l1.length : Int)) = false := decide_eq_false c25
     clear c25
     obtain ⟨rfl, rfl, rfl, rfl⟩ := sqO4 H
     have := N0.1
     have := N1.1
     obtain ⟨_, _, _, _, _, _⟩ := sqY3 B0
     obtain ⟨_, _, _, _, _, _⟩ := sqY3 B2
     obtain ⟨Ao44, co44, eo44⟩ := Kd.R_slice O3.1
     subst eo44
     go_wp2
     refine sqE g0 34 #[.int .i64 x0, .int .i64 x1, .slice Ao44 x2.length co44] (by refine sqPut (cs := #[.int .i64 x0, .int .i64 x1, .slice none 0 0]) ?_ 2; refine sqPut (cs := #[.int .i64 x0, .int .i64 0, .slice none 0 0]) ?_ 1; refine sqPut (cs := #[.int .i64 0, .int .i64 0, .slice none 0 0]) ?_ 0; exact sqK B2) underlying34 ?_
     exact ⟨_, _, Z16, Z65 O3 B2, Z65 O2 B2, sqB2 HB E0 E1⟩

/-! ### laws_eqStringS: function 49 -/
def laws_eqStringS.l0 : Nat → List ByteArray → List ByteArray → Int → Option (Bool)
 | 0, _, _, _ => none
 | k + 1, x0, x1, x5 => if x5 < (x0.length : Int) then (if 0 ≤ x5 then (if x5 < (x1.length : Int) then (if (rdOf ByteArray.empty x0 x5).toList = (rdOf ByteArray.empty x1 x5).toList then (laws_eqStringS.l0 k x0 x1 (wrap64 (x5 + 1))) else (some false)) else (none)) else (none)) else (some true)
def laws_eqStringS.f (k : Nat) (l0 : List ByteArray) (l1 : List ByteArray) : Option (Bool) := if (l0.length : Int) = (l1.length : Int) then (laws_eqStringS.l0 k l0 l1 0) else (some false)
abbrev laws_eqStringS.M (k : Nat) : Prop := (∀ y0 y1 y2, LeO (laws_eqStringS.l0 k y0 y1 y2) (laws_eqStringS.l0 (k + 1) y0 y1 y2))
theorem laws_eqStringS.mono_t : ∀ k, laws_eqStringS.M k → laws_eqStringS.M (k + 1) ∧ ∀ a0 a1, LeO (laws_eqStringS.f k a0 a1) (laws_eqStringS.f (k + 1) a0 a1) := by
  rintro k ih0
  refine ⟨?_, ?_⟩ <;> (try unfold laws_eqStringS.M) <;> intros <;> (first | unfold laws_eqStringS.l0 | unfold laws_eqStringS.f) <;> repeat' (with_reducible first | exact ih0 _ _ _ | exact LeO.refl _ | exact LeO.none _ | refine LeO.ite ?_ ?_ | refine LeO.bind ?_ fun _ => ?_)
theorem laws_eqStringS.mono_l : ∀ k, laws_eqStringS.M k
 | 0 => fun _ _ _ r h => by simp [laws_eqStringS.l0] at h
 | k + 1 => (laws_eqStringS.mono_t k (laws_eqStringS.mono_l k)).1
theorem laws_eqStringS.mono a0 a1 k : LeO (laws_eqStringS.f k a0 a1) (laws_eqStringS.f (k + 1) a0 a1) := (laws_eqStringS.mono_t k (laws_eqStringS.mono_l k)).2 a0 a1
theorem laws_eqStringS.calls (k : Nat) (A0 : Option Addr) (c0 : Nat) (l0 : List ByteArray) (A1 : Option Addr) (c1 : Nat) (l1 : List ByteArray) (r : Bool) (w : World) (hr0 : Kd.C Kd.string w A0 l0.length l0) (hc0 : l0.length ≤ c0) (hr1 : Kd.C Kd.string w A1 l1.length l1) (hc1 : l1.length ≤ c1) (H : laws_eqStringS.f k l0 l1 = some r) :
  Calls prog 49 #[.slice A0 l0.length c0, .slice A1 l1.length c1] w fun e w' => e = .returned (.bool r) ∧ Drawn0 w w' := by
 have HR0 := sqa hr0
 have HC0 := sqa hc0
 clear hr0 hc0
 have HR1 := sqa hr1
 have HC1 := sqa hc1
 clear hr1 hc1
 unfold laws_eqStringS.f at H
 by_cases c3 : (l0.length : Int) = (l1.length : Int)
 ·rw [if_pos c3] at H
  have c3b0 : ((l0.length : Int) == (l1.length : Int)) = true := sqe1 c3
  have c3b1 : ((l0.length : Int) != (l1.length : Int)) = false := sqn0 c3
  have c3b2 : (l0.length == l1.length) = true := by first | simpa using c3 | (simp at c3 ⊢; omega)
  clear c3
  have H' := sqa H
  clear H
  go_enter func49, ntmps49
  go_wp2
  repeat (go_quiet (fail); try go_wp2)
  go_loopg [5] k (fun kq v5 w' => ∃ (x5_1 : Int), v5 = .int .i64 x5_1 ∧ Aside0 (laws_eqStringS.l0 kq l0 l1 x5_1 = some r) ∧ Aside0 (kq ≤ k) ∧ Drawn0 w w')
  case atStart => exact ⟨(0), Z4, H', ⟨Nat.le_refl _⟩, Z51⟩
  case round =>
   clear H'
   obtain ⟨x5_1, rfl, HA, HK1, ⟨m1, rfl⟩⟩ := hrel
   cases gk with
   | zero => exact absurd HA.out (by simp [laws_eqStringS.l0])
   | succ k1 =>
    have H := HA.out
    clear HA
    simp only [laws_eqStringS.l0] at H
    by_cases c4 : x5_1 < (l0.length : Int)
    ·rw [if_pos c4] at H
     have c4b0 : decide (x5_1 < (l0.length : Int)) = true := decide_eq_true c4
     clear c4
     obtain ⟨c5, H⟩ := sqI H
     have c5b0 : decide (0 ≤ x5_1) = true := decide_eq_true c5
     clear c5
     obtain ⟨c6, H⟩ := sqI H
     have c6b0 : decide (x5_1 < (l1.length : Int)) = true := decide_eq_true c6
     clear c6
     by_cases c7 : (rdOf ByteArray.empty l0 x5_1).toList = (rdOf ByteArray.empty l1 x5_1).toList
     ·rw [if_pos c7] at H
      have c7b0 : ((rdOf ByteArray.empty l0 x5_1).toList == (rdOf ByteArray.empty l1 x5_1).toList) = true := sqe1 c7
      have c7b1 : ((rdOf ByteArray.empty l0 x5_1).toList != (rdOf ByteArray.empty l1 x5_1).toList) = false := sqn0 c7
      clear c7
      have H' := sqa H
      clear H
      have p0 : 0 ≤ (x5_1 : Int) := of_decide_eq_true Z9
      have q0 : x5_1 < (l0.length : Int) := of_decide_eq_true Z9
      obtain ⟨ad0, e0, hx0⟩ := Kd.at_string HR0.1 x5_1 p0 q0
      cases e0
      replace p0 := eq_true p0
      replace q0 := eq_true q0
      have p1 : 0 ≤ (x5_1 : Int) := of_decide_eq_true Z9
      have q1 : x5_1 < (l1.length : Int) := of_decide_eq_true Z9
      obtain ⟨ad1, e1, hx1⟩ := Kd.at_string HR1.1 x5_1 p1 q1
      cases e1
      replace p1 := eq_true p1
      replace q1 := eq_true q1
      go_wp2
      repeat (go_quiet (fail); try go_wp2)
      go_roundg k1
      case measure => have := HK1.out; omega
      case rel => exact ⟨(wrap64 (x5_1 + 1)), Z4, H', ⟨Z17 HK1⟩, Z51⟩
     rw [if_neg c7] at H
     have c7b0 : ((rdOf ByteArray.empty l0 x5_1).toList == (rdOf ByteArray.empty l1 x5_1).toList) = false := sqe0 c7
     have c7b1 : ((rdOf ByteArray.empty l0 x5_1).toList != (rdOf ByteArray.empty l1 x5_1).toList) = true := sqn1 c7
     obtain rfl := sqo H
     have p0 : 0 ≤ (x5_1 : Int) := of_decide_eq_true Z9
     have q0 : x5_1 < (l0.length : Int) := of_decide_eq_true Z9
     obtain ⟨ad0, e0, hx0⟩ := Kd.at_string HR0.1 x5_1 p0 q0
     cases e0
     replace p0 := eq_true p0
     replace q0 := eq_true q0
     have p1 : 0 ≤ (x5_1 : Int) := of_decide_eq_true Z9
     have q1 : x5_1 < (l1.length : Int) := of_decide_eq_true Z9
     obtain ⟨ad1, e1, hx1⟩ := Kd.at_string HR1.1 x5_1 p1 q1
     cases e1
     replace p1 := eq_true p1
     replace q1 := eq_true q1
     go_wp2
     repeat (go_quiet (fail); try go_wp2)
     go_ret
     exact ⟨Z4, Z51⟩
    rw [if_neg c4] at H
    have c4b0 : decide (x5_1 < (l0.length : Int)) = false := decide_eq_false c4
    clear c4
    obtain rfl := sqo H
    go_wp2
    repeat (go_quiet (fail); try go_wp2)
    go_ret
    exact ⟨Z4, Z51⟩
 rw [if_neg c3] at H
 have c3b0 : ((l0.length : Int) == (l1.length : Int)) = false := sqe0 c3
 have c3b1 : ((l0.length : Int) != (l1.length : Int)) = true := sqn1 c3
 have c3b2 : (l0.length == l1.length) = false := by first | simpa using c3 | (simp at c3 ⊢; omega)
 obtain rfl := sqo H
 go_enter func49, ntmps49
 go_wp2
 repeat (go_quiet (fail); try go_wp2)
 go_ret
 exact ⟨Z4, Z51⟩

/-! ### laws_markText: function 79 -/
def laws_markText.l0 : Nat → Int → ByteArray → Option (ByteArray)
 | 0, _, _ => none
 | k + 1, x0, x3 => if x0 > 0 then ((some (([(wrap64 (48 + (Int.tmod x0 10))) % 256] : List Int) : List Int)).bind fun y0 => (if (strOfNums y0).size + x3.size ≤ 9223372036854775807 then (laws_markText.l0 k (wrap64 (Int.tdiv x0 10)) ((strOfNums y0) ++ x3)) else (none))) else (if 1 + x3.size ≤ 9223372036854775807 then (some ((⟨#[109]⟩ : ByteArray) ++ x3)) else (none))
def laws_markText.f (k : Nat) (a0 : Int) : Option (ByteArray) := if a0 ≤ 0 then (some (⟨#[109, 48]⟩ : ByteArray)) else (laws_markText.l0 k a0 (⟨#[]⟩ : ByteArray))
abbrev laws_markText.M (k : Nat) : Prop := (∀ y0 y1, LeO (laws_markText.l0 k y0 y1) (laws_markText.l0 (k + 1) y0 y1))
theorem laws_markText.mono_t : ∀ k, laws_markText.M k → laws_markText.M (k + 1) ∧ ∀ a0, LeO (laws_markText.f k a0) (laws_markText.f (k + 1) a0) := by
  rintro k ih0
  refine ⟨?_, ?_⟩ <;> (try unfold laws_markText.M) <;> intros <;> (first | unfold laws_markText.l0 | unfold laws_markText.f) <;> repeat' (with_reducible first | exact ih0 _ _ | exact LeO.refl _ | exact LeO.none _ | refine LeO.ite ?_ ?_ | refine LeO.bind ?_ fun _ => ?_)
theorem laws_markText.mono_l : ∀ k, laws_markText.M k
 | 0 => fun _ _ r h => by simp [laws_markText.l0] at h
 | k + 1 => (laws_markText.mono_t k (laws_markText.mono_l k)).1
theorem laws_markText.mono a0 k : LeO (laws_markText.f k a0) (laws_markText.f (k + 1) a0) := (laws_markText.mono_t k (laws_markText.mono_l k)).2 a0
theorem laws_markText.calls (k : Nat) (a0 : Int) (r : ByteArray) (w : World) (H : laws_markText.f k a0 = some r) :
  Calls prog 79 #[.int .i64 a0] w fun e w' => e = .returned (.string r) ∧ Below w.heap.size w w' := by
 have HB := sqh w
 unfold laws_markText.f at H
 by_cases c2 : a0 ≤ 0
 ·rw [if_pos c2] at H
  have c2b0 : decide (a0 ≤ 0) = true := decide_eq_true c2
  clear c2
  obtain rfl := sqo H
  go_enter func79, ntmps79
  go_wp2
  go_ret
  exact ⟨Z16, sqB HB⟩
 rw [if_neg c2] at H
 have c2b0 : decide (a0 ≤ 0) = false := decide_eq_false c2
 clear c2
 have H' := sqa H
 clear H
 go_enter func79, ntmps79
 go_wp2
 go_loopg [0, 3] k (fun kq v0 v3 w' => ∃ (x0_1 : Int) (x3_1 : ByteArray), v0 = .int .i64 x0_1 ∧ v3 = .string x3_1 ∧ Aside0 (laws_markText.l0 kq x0_1 x3_1 = some r) ∧ Aside0 (kq ≤ k) ∧ Aside0 (Below w.heap.size w w'))
 case atStart => exact ⟨(a0), ((⟨#[]⟩ : ByteArray)), Z4, Z4, H', ⟨Nat.le_refl _⟩, ⟨sqB HB⟩⟩
 case round =>
  clear H'
  obtain ⟨x0_1, x3_1, rfl, rfl, HA, HK1, HB⟩ := hrel
  cases gk with
  | zero => exact absurd HA.out (by simp [laws_markText.l0])
  | succ k1 =>
   have H := HA.out
   clear HA
   simp only [laws_markText.l0] at H
   by_cases c3 : x0_1 > 0
   ·rw [if_pos c3] at H
    have c3b0 : decide (0 < x0_1) = true := decide_eq_true c3
    clear c3
    obtain ⟨y0, hy0⟩ : ∃ y_ : List Int, y_ = (([(wrap64 (48 + (Int.tmod x0_1 10))) % 256] : List Int)) := ⟨_, rfl⟩
    replace H : (if (strOfNums y0).size + x3_1.size ≤ 9223372036854775807 then (laws_markText.l0 k1 (wrap64 (Int.tdiv x0_1 10)) ((strOfNums y0) ++ x3_1)) else (none)) = some r := sqW hy0 H
    have Ny0 := sqa hy0
    clear hy0
    obtain ⟨c4, H⟩ := sqI H
    have c4b0 := eq_true c4
    have c4b1 : decide ((strOfNums y0).size + x3_1.size ≤ 9223372036854775807) = true := decide_eq_true c4
    try have c4b2 : (9223372036854775807 < (strOfNums y0).size + x3_1.size) = False := eq_false (Nat.not_lt.2 c4)
    have H' := sqa H
    clear H
    go_wp2_with (first | ((with_reducible refine sqd 12 rfl ?_); refine Kd.R_lit (Kd.int .u8) _ 5 ?hg (N := 12) ?hd (xs := ([(wrap64 (48 + (Int.tmod x0_1 10))) % 256] : List Int)) (inner := [.int .u8 ((wrap64 (48 + (Int.tmod x0_1 10))) % 256)]) (ok := fun _ => True) (okp := fun _ => True) ?hr ?hp (fun _ hk => hk) trivial (Below.refl _ _) (Nat.le_refl _) (by simp) ?_; (case hd => rfl); (case hg => rfl); (case hr => exact Z10); (case hp => exact (Reps.one (show Kd.M (Kd.int .u8) _ _ _ ((wrap64 (48 + (Int.tmod x0_1 10))) % 256) [.int .u8 ((wrap64 (48 + (Int.tmod x0_1 10))) % 256)] from rfl) (Reps.none _ _))); intro v1 w5 ho6 hb hg_ hnew_; clear hg_ hnew_; (first | rw [← Ny0.out] at ho6 | (simp only [Int.reduceToNat] at ho6; rw [← Ny0.out] at ho6)); have O0 := sqL ho6 (sqB HB); replace HB := sqS (sqB HB) hb; clear hb ho6; have hcv7 := own_string (P := prog) underlying43 underlying5 underlying9 (Kd.own_of_R O0.1)))
    go_roundg k1
    case measure => have := HK1.out; omega
    case rel => exact ⟨(wrap64 (Int.tdiv x0_1 10)), ((strOfNums y0) ++ x3_1), Z4, Z4, H', ⟨Z17 HK1⟩, ⟨sqB HB⟩⟩
   rw [if_neg c3] at H
   have c3b0 : decide (0 < x0_1) = false := decide_eq_false c3
   clear c3
   obtain ⟨c8, H⟩ := sqI H
   have c8b0 := eq_true c8
   have c8b1 : decide (1 + x3_1.size ≤ 9223372036854775807) = true := decide_eq_true c8
   try have c8b2 : (9223372036854775807 < 1 + x3_1.size) = False := eq_false (Nat.not_lt.2 c8)
   obtain rfl := sqo H
   go_wp2
   go_ret
   exact ⟨Z16, sqB HB⟩

end Go.Proofs.YtofmlbgfcohhoaaGreatDoor.PFnExactDeskSay
