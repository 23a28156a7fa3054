/- Lean functions of the Go functions that the law FnExactDeskLine reaches, each with its contract: made by a program of this session. -/
import Derived.Test.YtofmlbgfcohhoaaGreatDoorPFnExactDeskLinex7
import Derived.Test.YtofmlbgfcohhoaaGreatDoorPFnExactDeskLinex11
namespace Go.Proofs.YtofmlbgfcohhoaaGreatDoor.PFnExactDeskLine
open Go.RowKit Go.Proofs.YtofmlbgfcohhoaaGreatDoorW.PrintWords Go.Proofs.YtofmlbgfcohhoaaGreatDoorW.PrintLast Go.Proofs.YtofmlbgfcohhoaaGreatDoorW.PrintMore Go.Proofs.YtofmlbgfcohhoaaGreatDoor.Lib
attribute [local go_sem] max2_int min2_int max_two min_two max_three min_three max_four min_four   -- for this text's walks alone
set_option linter.unusedVariables false
set_option linter.unusedSimpArgs false

/-! ### impl_deskLine: function 87 -/
def impl_deskLine.f (k : Nat) (a0_0 : Int) (a0_1 : Int) (l0_2 : List (S31)) (a1 : ByteArray) : Option (Int × Int × (List (S31)) × ByteArray) := (impl_readDeed.f k a1).bind fun bt370 => (if bt370.2.2 = true then ((impl_deskDo.f k a0_0 a0_1 l0_2 bt370.1 bt370.2.1).bind fun bt374 => (if bt374.2.2.2 = true then (some (bt374.1, bt374.2.1, bt374.2.2.1, (⟨#[111, 107]⟩ : ByteArray))) else (some (bt374.1, bt374.2.1, bt374.2.2.1, (⟨#[110, 111, 116]⟩ : ByteArray))))) else ((impl_copyDesk.f a0_0 a0_1 l0_2).bind fun bt381 => ((impl_asked.f k a0_0 a0_1 a1).bind fun t386 => (some (bt381.1, bt381.2.1, bt381.2.2, t386)))))
theorem impl_deskLine.mono : ∀ a0 a1 a2 a3 k, LeO (impl_deskLine.f k a0 a1 a2 a3) (impl_deskLine.f (k + 1) a0 a1 a2 a3) := by
 intro a0 a1 a2 a3 k
 unfold impl_deskLine.f
 repeat' (with_reducible first | exact impl_asked.mono _ _ _ _ | exact impl_deskDo.mono _ _ _ _ _ _ | exact impl_readDeed.mono _ _ | exact LeO.refl _ | exact LeO.none _ | refine LeO.ite ?_ ?_ | refine LeO.bind ?_ fun _ => ?_)
def impl_deskLine.T7 : Bool × List (List Nat × List Nat) := (true, [([], []), ([0], [0]), ([], []), ([2], [2]), ([], []), ([3, 4, 1], [3, 4]), ([1, 5, 0, 1], [1]), ([5, 6, 0, 1, 2, 3, 4, 5, 6], [5])])
def impl_deskLine.B7 : List Nat := [0, 1, 0, 4, 0, 31, 63, 127]
theorem impl_deskLine.tab7 : rtab .any (opsOf Tryz.f87 7) = impl_deskLine.T7 := by kernel_rfl
theorem impl_deskLine.bits7 : waitsOk impl_deskLine.T7.2 impl_deskLine.B7 = true := by kernel_rfl
set_option maxHeartbeats 8000000 in
set_option maxRecDepth 100000 in
theorem impl_deskLine.calls (k : Nat) (a0_0 : Int) (a0_1 : Int) (A0_2 : Option Addr) (c0_2 : Nat) (l0_2 : List (S31)) (a1 : ByteArray) (r1 : Int) (r2 : Int) (r3 : List (S31)) (r4 : ByteArray) (w : World) (hG : Glob w) (hr0_2 : Kd.C k31 w A0_2 l0_2.length l0_2) (hc0_2 : l0_2.length ≤ c0_2) (h : impl_deskLine.f k a0_0 a0_1 l0_2 a1 = some (r1, r2, r3, r4)) :
  Calls Tryz.prog 87 #[.agg #[.int .i64 a0_0, .int .i64 a0_1, .slice A0_2 l0_2.length c0_2], .string a1] w fun e w' => ∃ v2_ : Value, e = .returned (.tuple #[.agg #[.int .i64 r1, .int .i64 r2, v2_], .string r4]) ∧ Kd.R k31 31 w' w.heap.size (fun _ => True) v2_ r3 ∧ Below w.heap.size w w' := by
 have hu34 := Tryz.underlying34
 have hu38 := Tryz.underlying38
 have hu31 := Tryz.underlying31
 have HR0_2 := Aside0.mk hr0_2
 have HC0_2 := Aside0.mk hc0_2
 clear hr0_2 hc0_2
 have HB := Aside0.mk (Below.refl w.heap.size w)
 unfold impl_deskLine.f at h
 have H := h
 clear h
 obtain ⟨⟨t370, t371, t372⟩, A3, H⟩ := sqD H
 try dsimp only at H
 go_enter Tryz.func87, Tryz.ntmps87
 go_upto_if 15 with (first | ((with_reducible refine gate_dst (N := 2) rfl ?_); refine sqBx w (sqB HB) (N := 2) (cs := #[.int .i64 a0_0, .int .i64 a0_1, .slice A0_2 l0_2.length c0_2]) (t := 34) ?_; intro gb368 hg w7 BK368 GE368 HB hb; clear hb hg) | ((with_reducible refine gate_dst (N := 4) rfl ?_); refine sqBx w (sqB1 HB GE368) (N := 4) (cs := #[.int .i64 0, .int .i64 0, .slice none 0 0]) (t := 34) ?_; intro gb369 hg w8 BK369 GE369 HB hb; obtain ⟨NB368_369, NB369_368⟩ := sqM hg BK368; replace BK368 := sqT BK368 hb; clear hb hg) | ((with_reducible refine gate_callee (f := 85) rfl ?_); refine sqC (some 12) Tryz.func85 #[.string a1] ?_; (with_reducible refine (impl_readDeed.calls k a1 t370 t371 t372 _ ?sideG A3.out).mono ?_); (case sideG => exact Z11 GE368 GE369); rintro e w9 ⟨rfl, hb⟩; refine ⟨_, rfl, ?_⟩; replace BK368 := sqT BK368 hb; replace BK369 := sqT BK369 hb; replace HB := sqS (sqB2 HB GE368 GE369) hb; (try clear hb)) | ((with_reducible refine gate_dst (N := 6) rfl ?_); refine sqBx w (sqB2 HB GE368 GE369) (N := 6) (cs := #[.int .i64 0, .string (⟨#[]⟩ : ByteArray)]) (t := 38) ?_; intro gb373 hg w10 BK373 GE373 HB hb; obtain ⟨NB368_373, NB373_368⟩ := sqM hg BK368; replace BK368 := sqT BK368 hb; obtain ⟨NB369_373, NB373_369⟩ := sqM hg BK369; replace BK369 := sqT BK369 hb; clear hb hg; have hnb11 := NB373_368.out; have hnc11 := NB368_373.out; have hnb12 := NB373_369.out; have hnc12 := NB369_373.out; obtain ⟨hcz13_0, hcz13_1, hfz13_0, hfz13_1⟩ := sqY2 BK373; have hnb14 := NB368_369.out; have hnc14 := NB369_368.out; obtain ⟨hcz15_0, hcz15_1, hcz15_2, hfz15_0, hfz15_1, hfz15_2⟩ := sqY3 BK368))
 by_cases c4 : t372 = true
 ·subst c4
  rw [if_pos rfl] at H
  obtain ⟨⟨t374, t375, t376, t379⟩, A5, H⟩ := sqD H
  try dsimp only at H
  go_upto_if 23 with (first | ((with_reducible refine gate_callee (f := 61) rfl ?_); refine sqC (some 19) Tryz.func61 #[.agg #[.int .i64 a0_0, .int .i64 a0_1, .slice A0_2 l0_2.length c0_2], .agg #[.int .i64 t370, .string t371]] ?_; (with_reducible refine (impl_deskDo.calls k a0_0 a0_1 _ _ l0_2 t370 t371 t374 t375 t376 t379 _ ?sideG ?side1 ?side2 A5.out).mono ?_); (case sideG => exact Glob.below hG (sqB3 HB GE368 GE369 GE373)); (case side1 => exact Kd.C_below HR0_2.out (sqB3 HB GE368 GE369 GE373)); (case side2 => exact Z13); rintro e w16 ⟨v377, rfl, ho0, hb⟩; refine ⟨_, rfl, ?_⟩; have HO378 := sqL ho0 (sqB3 HB GE368 GE369 GE373); replace BK368 := sqH NB368_373 BK368 hb; replace BK369 := sqH NB369_373 BK369 hb; replace BK373 := Aside0.mk (blk_below (g := gb373) (o := .cells #[.int .i64 t370, .string t371] 38 (0, 0)) (Z14 BK373) hb); replace HB := sqS (sqB3 HB GE368 GE369 GE373) hb; (try clear hb); (try clear ho0)) | ((with_reducible refine gate_dst (N := 8) rfl ?_); refine sqBx w (sqB3 HB GE368 GE369 GE373) (N := 8) (cs := #[.int .i64 0, .int .i64 0, .slice none 0 0]) (t := 34) ?_; intro gb380 hg w17 BK380 GE380 HB hb; replace HO378 := sqU HO378 hb; obtain ⟨NB368_380, NB380_368⟩ := sqM hg BK368; replace BK368 := sqT BK368 hb; obtain ⟨NB369_380, NB380_369⟩ := sqM hg BK369; replace BK369 := sqT BK369 hb; obtain ⟨NB373_380, NB380_373⟩ := sqM hg BK373; replace BK373 := sqT BK373 hb; clear hb hg; obtain ⟨Ao22, co22, eo22⟩ := Kd.R_slice HO378.out; subst eo22; have hnb18 := NB380_368.out; have hnc18 := NB368_380.out; have hnb19 := NB380_369.out; have hnc19 := NB369_380.out; have hnb20 := NB380_373.out; have hnc20 := NB373_380.out; obtain ⟨hcz21_0, hcz21_1, hcz21_2, hfz21_0, hfz21_1, hfz21_2⟩ := sqY3 BK380; obtain ⟨hcz23_0, hcz23_1, hcz23_2, hfz23_0, hfz23_1, hfz23_2⟩ := sqY3 BK369))
  by_cases c6 : t379 = true
  ·subst c6
   rw [if_pos rfl] at H
   obtain ⟨rfl, rfl, rfl, rfl⟩ := sqO4 H
   go_wp2_with fail
   refine bodyPost_ret (results_ct rfl _ _ gb369 34 #[.int .i64 t374, .int .i64 t375, .slice Ao22 t376.length co22] (0, 0) _ rfl (Z15 NB369_380 BK369) Tryz.underlying34 rfl (by kernel_rfl)) rfl ?_
   exact ⟨_, Z6, by (with_reducible repeat (first | apply Kd.R_alloc | apply Kd.R_drewN | apply Kd.R_drew)); exact Kd.R_mono (Kd.R_far (p := ⟨gb369, 2, none⟩) (Kd.R_far (p := ⟨gb369, 1, none⟩) (Kd.R_far (p := ⟨gb369, 0, none⟩) (Kd.R_far (p := ⟨gb380, 2, none⟩) (Kd.R_far (p := ⟨gb380, 1, none⟩) (Kd.R_far (p := ⟨gb380, 0, none⟩) (Kd.R_types (Kd.R_types HO378.out BK380.out (by decide)) BK369.out (by decide)) (fun _ hk => hk.1.2) (.int .i64 t374)) (fun _ hk => hk.1.2) (.int .i64 t375)) (fun _ hk => hk.1.2) (.slice Ao22 t376.length co22)) (fun _ hk => hk.2) (.int .i64 t374)) (fun _ hk => hk.2) (.int .i64 t375)) (fun _ hk => hk.2) (.slice Ao22 t376.length co22)) (fun _ hk => trivial), sqB4 HB GE368 GE369 GE373 GE380⟩
  replace c6 := Bool.eq_false_iff.mpr c6
  subst c6
  rw [if_neg sqF] at H
  obtain ⟨rfl, rfl, rfl, rfl⟩ := sqO4 H
  go_wp2_with fail
  refine bodyPost_ret (results_ct rfl _ _ gb369 34 #[.int .i64 t374, .int .i64 t375, .slice Ao22 t376.length co22] (0, 0) _ rfl (Z15 NB369_380 BK369) Tryz.underlying34 rfl (by kernel_rfl)) rfl ?_
  exact ⟨_, Z6, by (with_reducible repeat (first | apply Kd.R_alloc | apply Kd.R_drewN | apply Kd.R_drew)); exact Kd.R_mono (Kd.R_far (p := ⟨gb369, 2, none⟩) (Kd.R_far (p := ⟨gb369, 1, none⟩) (Kd.R_far (p := ⟨gb369, 0, none⟩) (Kd.R_far (p := ⟨gb380, 2, none⟩) (Kd.R_far (p := ⟨gb380, 1, none⟩) (Kd.R_far (p := ⟨gb380, 0, none⟩) (Kd.R_types (Kd.R_types HO378.out BK380.out (by decide)) BK369.out (by decide)) (fun _ hk => hk.1.2) (.int .i64 t374)) (fun _ hk => hk.1.2) (.int .i64 t375)) (fun _ hk => hk.1.2) (.slice Ao22 t376.length co22)) (fun _ hk => hk.2) (.int .i64 t374)) (fun _ hk => hk.2) (.int .i64 t375)) (fun _ hk => hk.2) (.slice Ao22 t376.length co22)) (fun _ hk => trivial), sqB4 HB GE368 GE369 GE373 GE380⟩
 replace c4 := Bool.eq_false_iff.mpr c4
 subst c4
 rw [if_neg sqF] at H
 obtain ⟨⟨t381, t382, t383⟩, A41, H⟩ := sqD H
 try dsimp only at H
 obtain ⟨t386, A42, H⟩ := sqD H
 obtain ⟨rfl, rfl, rfl, rfl⟩ := sqO4 H
 try go_wp2_with fail
 obtain ⟨w50, hw_⟩ : ∃ w_, (w10.setCell ⟨gb373, 0, none⟩ (.int .i64 t370)).setCell ⟨gb373, 1, none⟩ (.string t371) = w_ := ⟨_, rfl⟩
 replace BK368 := sqJ hw_ NB368_373 BK368
 replace BK369 := sqJ hw_ NB369_373 BK369
 replace BK373 : Aside0 (w50.heap[gb373]? = some (.cells #[.int .i64 t370, .string t371] 38 (0, 0))) := by rw [← hw_]; exact ⟨Z14 BK373⟩
 replace HB : Aside0 (Below w.heap.size w w50) := by rw [← hw_]; exact ⟨sqB3 HB GE368 GE369 GE373⟩
 rw [hw_]; clear hw_
 replace BK368 := Aside0.mk (blk_drew BK368.out)
 replace BK369 := Aside0.mk (blk_drew BK369.out)
 replace BK373 := Aside0.mk (blk_drew BK373.out)
 replace HB := Aside0.mk (below_drew1 HB.out)
 refine start_ (n := 8) (S := fun w' => w'.cell? ⟨gb368, 0, none⟩ = some (.int .i64 a0_0) ∧ w'.cell? ⟨gb368, 1, none⟩ = some (.int .i64 a0_1) ∧ w'.cell? ⟨gb368, 2, none⟩ = some (.slice A0_2 l0_2.length c0_2)) (ds := []) #[false, false, false, false, false, false, false, false] (by kernel_rfl) rfl rfl ⟨(blk_cell BK368.out 0).trans rfl, (blk_cell BK368.out 1).trans rfl, (blk_cell BK368.out 2).trans rfl⟩ (fun hHeld => ?_); refine with_tabW impl_deskLine.tab7 impl_deskLine.bits7 (fun HT_ HW_ => ?_)
 generalize w50.drew = w51 at BK368 BK369 BK373 HB hHeld ⊢
 refine sqP (i := 2) (N := some 28) (h := ?_)
 refine sqP (i := 4) (N := some 30) (h := ?_)
 refine sqQ (i := 0) (N := some 26) hHeld (h := ?_)
 refine sqQ (i := 3) (N := some 29) hHeld (h := ?_)
 refine one_ (i := 1) (N := some 27) #[true, true, true, true, true, false, false, false] rfl rfl (one_of HT_.out (by kernel_rfl)) (by decide) (fun K hK => ?_)
 refine goes_ Tryz.func76 (by kernel_rfl) rfl #[.agg #[.int .i64 a0_0, .int .i64 a0_1, .slice A0_2 l0_2.length c0_2]] (by rfl) rfl rfl sqA ?_
 with_reducible refine (impl_copyDesk.calls a0_0 a0_1 _ _ l0_2 t381 t382 t383 _ ?side1 ?side2 A41.out).mono ?_
 (case side1 => exact Z16)
 (case side2 => exact Z13)
 rintro e w52 ⟨v384, rfl, ho0, hb⟩
 refine ⟨_, rfl, ?_⟩
 have HO385 := sqL ho0 (sqB3 HB GE368 GE369 GE373)
 replace BK368 := sqT BK368 hb
 replace BK369 := sqT BK369 hb
 replace BK373 := sqT BK373 hb
 replace HB := sqS (sqB3 HB GE368 GE369 GE373) hb
 (try clear hb)
 (try clear hb2)
 (try clear hk)
 (try clear hi)
 (try clear ho0)
 refine hK.out _ _ ⟨(blk_cell BK368.out 0).trans rfl, (blk_cell BK368.out 1).trans rfl, (blk_cell BK368.out 2).trans rfl⟩ (fun hHeld => ?_)
 clear hK K
 refine sqN (some 27) ?_
 refine one_ (i := 5) (N := some 31) #[true, true, true, true, true, true, false, false] rfl rfl (one_of HT_.out (by kernel_rfl)) (by decide) (fun K hK => ?_)
 refine goes_ Tryz.func125 (by kernel_rfl) rfl #[.agg #[.int .i64 a0_0, .int .i64 a0_1], .string a1] (by rfl) rfl rfl sqA ?_
 with_reducible refine (impl_asked.calls k a0_0 a0_1 a1 t386 _ ?sideG A42.out).mono ?_
 (case sideG => exact Glob.below hG (sqB3 HB GE368 GE369 GE373))
 rintro e w53 ⟨rfl, hb⟩
 refine ⟨_, rfl, ?_⟩
 replace HO385 := sqU HO385 hb
 replace BK368 := sqT BK368 hb
 replace BK369 := sqT BK369 hb
 replace BK373 := sqT BK373 hb
 replace HB := sqS (sqB3 HB GE368 GE369 GE373) hb
 (try clear hb)
 (try clear hb2)
 (try clear hk)
 (try clear hi)
 obtain ⟨Ao56, co56, eo56⟩ := Kd.R_slice HO385.out
 (first | subst eo56 | (injection eo56 with f1_ f2_ f3_; have f4_ := f1_.symm; have f5_ := f3_.symm; clear f1_ f2_ f3_; subst f4_; subst f5_))
 refine hK.out _ _ ⟨(blk_cell BK368.out 0).trans rfl, (blk_cell BK368.out 1).trans rfl, (blk_cell BK368.out 2).trans rfl⟩ (fun hHeld => ?_)
 clear hK K
 refine sqN (some 31) ?_
 refine one_ (i := 6) (N := none) #[true, true, true, true, true, true, true, false] rfl rfl (one_of HT_.out (by kernel_rfl)) (by decide) (fun K hK => ?_)
 have hs54 : w53.cell? ⟨gb369, 0, none⟩ = some (.int .i64 0) := (blk_cell BK369.out 0).trans rfl
 have hfs54 := blk_frozen BK369.out 0
 have hns54_0 := NB368_369.out
 have hns54_2 := NB373_369.out
 have hms54_0 := NB369_368.out
 have hms54_2 := NB369_373.out
 have hs55 : w53.cell? ⟨gb369, 1, none⟩ = some (.int .i64 0) := (blk_cell BK369.out 1).trans rfl
 have hfs55 := blk_frozen BK369.out 1
 have hs57 : w53.cell? ⟨gb369, 2, none⟩ = some (.slice none 0 0) := (blk_cell BK369.out 2).trans rfl
 have hfs57 := blk_frozen BK369.out 2
 refine skip_ (w1 := ?_) (by rfl) rfl ?_ ?_
 rotate_left
 ·go_simp
  rfl
 refine hK.out _ _ ⟨((cell_far (p := ⟨gb369, _, none⟩) NB368_369.out _).trans (((cell_far (p := ⟨gb369, _, none⟩) NB368_369.out _).trans (((cell_far (p := ⟨gb369, _, none⟩) NB368_369.out _).trans (hHeld.1)))))), ((cell_far (p := ⟨gb369, _, none⟩) NB368_369.out _).trans (((cell_far (p := ⟨gb369, _, none⟩) NB368_369.out _).trans (((cell_far (p := ⟨gb369, _, none⟩) NB368_369.out _).trans (hHeld.2.1)))))), ((cell_far (p := ⟨gb369, _, none⟩) NB368_369.out _).trans (((cell_far (p := ⟨gb369, _, none⟩) NB368_369.out _).trans (((cell_far (p := ⟨gb369, _, none⟩) NB368_369.out _).trans (hHeld.2.2))))))⟩ (fun hHeld => ?_)
 clear hK K
 refine sqP (i := 7) (N := some 5) (h := ?_)
 refine done_ (done_of HT_.out (by kernel_rfl)) ?_
 try go_wp2
 refine bodyPost_ret (results_ct rfl _ _ gb369 34 #[.int .i64 t381, .int .i64 t382, .slice Ao56 t383.length co56] (0, 0) _ rfl (by refine sqPut (cs := #[.int .i64 t381, .int .i64 t382, .slice none 0 0]) ?_ 2; refine sqPut (cs := #[.int .i64 t381, .int .i64 0, .slice none 0 0]) ?_ 1; refine sqPut (cs := #[.int .i64 0, .int .i64 0, .slice none 0 0]) ?_ 0; exact sqK BK369) Tryz.underlying34 rfl (by kernel_rfl)) rfl ?_
 exact ⟨_, Z6, by (with_reducible repeat (first | apply Kd.R_alloc | apply Kd.R_drewN | apply Kd.R_drew)); exact Kd.R_mono (Kd.R_far (p := ⟨gb369, 2, none⟩) (Kd.R_far (p := ⟨gb369, 1, none⟩) (Kd.R_far (p := ⟨gb369, 0, none⟩) (Kd.R_types HO385.out BK369.out (by decide)) (fun _ hk => hk.2) (.int .i64 t381)) (fun _ hk => hk.2) (.int .i64 t382)) (fun _ hk => hk.2) (.slice Ao56 t383.length co56)) (fun _ hk => trivial), sqB3 HB GE368 GE369 GE373⟩

/-! ### impl_DeskLine: function 40 -/
def impl_DeskLine.f (k : Nat) (a0_0 : Int) (a0_1 : Int) (l0_2 : List (S31)) (a1 : ByteArray) : Option (Int × Int × (List (S31)) × ByteArray) := (impl_isDesk.f k a0_0 a0_1 l0_2).bind fun t389 => (if t389 = true then ((impl_deskLine.f k a0_0 a0_1 l0_2 a1).bind fun bt390 => (some (bt390.1, bt390.2.1, bt390.2.2.1, bt390.2.2.2))) else (some (0, 0, ([] : List (S31)), (⟨#[]⟩ : ByteArray))))
theorem impl_DeskLine.mono : ∀ a0 a1 a2 a3 k, LeO (impl_DeskLine.f k a0 a1 a2 a3) (impl_DeskLine.f (k + 1) a0 a1 a2 a3) := by
 intro a0 a1 a2 a3 k
 unfold impl_DeskLine.f
 repeat' (with_reducible first | exact impl_deskLine.mono _ _ _ _ _ | exact impl_isDesk.mono _ _ _ _ | exact LeO.refl _ | exact LeO.none _ | refine LeO.ite ?_ ?_ | refine LeO.bind ?_ fun _ => ?_)
set_option maxHeartbeats 8000000 in
set_option maxRecDepth 100000 in
theorem impl_DeskLine.calls (k : Nat) (a0_0 : Int) (a0_1 : Int) (A0_2 : Option Addr) (c0_2 : Nat) (l0_2 : List (S31)) (a1 : ByteArray) (r1 : Int) (r2 : Int) (r3 : List (S31)) (r4 : ByteArray) (w : World) (hG : Glob w) (hr0_2 : Kd.C k31 w A0_2 l0_2.length l0_2) (hc0_2 : l0_2.length ≤ c0_2) (h : impl_DeskLine.f k a0_0 a0_1 l0_2 a1 = some (r1, r2, r3, r4)) :
  Calls Tryz.prog 40 #[.agg #[.int .i64 a0_0, .int .i64 a0_1, .slice A0_2 l0_2.length c0_2], .string a1] w fun e w' => ∃ v2_ : Value, e = .returned (.tuple #[.agg #[.int .i64 r1, .int .i64 r2, v2_], .string r4]) ∧ Kd.R k31 31 w' w.heap.size (fun _ => True) v2_ r3 ∧ Below w.heap.size w w' := by
 have hu34 := Tryz.underlying34
 have HR0_2 := Aside0.mk hr0_2
 have HC0_2 := Aside0.mk hc0_2
 clear hr0_2 hc0_2
 have HB := Aside0.mk (Below.refl w.heap.size w)
 unfold impl_DeskLine.f at h
 have H := h
 clear h
 obtain ⟨t389, A3, H⟩ := sqD H
 by_cases c4 : t389 = true
 ·subst c4
  rw [if_pos rfl] at H
  obtain ⟨⟨t390, t391, t392, t395⟩, A5, H⟩ := sqD H
  try dsimp only at H
  obtain ⟨rfl, rfl, rfl, rfl⟩ := sqO4 H
  go_enter Tryz.func40, Tryz.ntmps40
  go_wp2_with (first | ((with_reducible refine gate_dst (N := 2) rfl ?_); refine sqBx w (sqB HB) (N := 2) (cs := #[.int .i64 a0_0, .int .i64 a0_1, .slice A0_2 l0_2.length c0_2]) (t := 34) ?_; intro gb387 hg w6 BK387 GE387 HB hb; clear hb hg) | ((with_reducible refine gate_dst (N := 4) rfl ?_); refine sqBx w (sqB1 HB GE387) (N := 4) (cs := #[.int .i64 0, .int .i64 0, .slice none 0 0]) (t := 34) ?_; intro gb388 hg w7 BK388 GE388 HB hb; obtain ⟨NB387_388, NB388_387⟩ := sqM hg BK387; replace BK387 := sqT BK387 hb; clear hb hg; have hnb8 := NB387_388.out; have hnc8 := NB388_387.out; obtain ⟨hcz9_0, hcz9_1, hcz9_2, hfz9_0, hfz9_1, hfz9_2⟩ := sqY3 BK387) | ((with_reducible refine gate_callee (f := 60) rfl ?_); refine sqC (some 7) Tryz.func60 #[.agg #[.int .i64 a0_0, .int .i64 a0_1, .slice A0_2 l0_2.length c0_2]] ?_; (with_reducible refine (impl_isDesk.calls k a0_0 a0_1 _ _ l0_2 true _ ?side1 ?side2 A3.out).mono ?_); (case side1 => exact Z16); (case side2 => exact Z13); rintro e w10 ⟨rfl, hb⟩; refine ⟨_, rfl, ?_⟩; replace BK387 := sqT BK387 hb; replace BK388 := sqT BK388 hb; replace HB := sqS (sqB2 HB GE387 GE388) hb; (try clear hb); obtain ⟨hcz11_0, hcz11_1, hcz11_2, hfz11_0, hfz11_1, hfz11_2⟩ := sqY3 BK387) | ((with_reducible refine gate_callee (f := 87) rfl ?_); refine sqC (some 12) Tryz.func87 #[.agg #[.int .i64 a0_0, .int .i64 a0_1, .slice A0_2 l0_2.length c0_2], .string a1] ?_; (with_reducible refine (impl_deskLine.calls k a0_0 a0_1 _ _ l0_2 a1 t390 t391 t392 t395 _ ?sideG ?side1 ?side2 A5.out).mono ?_); (case sideG => exact Z11 GE387 GE388); (case side1 => exact Z16); (case side2 => exact Z13); rintro e w12 ⟨v393, rfl, ho0, hb⟩; refine ⟨_, rfl, ?_⟩; have HO394 := sqL ho0 (sqB2 HB GE387 GE388); replace BK387 := sqT BK387 hb; replace BK388 := sqT BK388 hb; replace HB := sqS (sqB2 HB GE387 GE388) hb; (try clear hb); (try clear ho0); obtain ⟨hcz13_0, hcz13_1, hcz13_2, hfz13_0, hfz13_1, hfz13_2⟩ := sqY3 BK388; obtain ⟨Ao14, co14, eo14⟩ := Kd.R_slice HO394.out; subst eo14))
  refine bodyPost_ret (results_ct rfl _ _ gb388 34 #[.int .i64 t390, .int .i64 t391, .slice Ao14 t392.length co14] (0, 0) _ rfl (by refine sqPut (cs := #[.int .i64 t390, .int .i64 t391, .slice none 0 0]) ?_ 2; refine sqPut (cs := #[.int .i64 t390, .int .i64 0, .slice none 0 0]) ?_ 1; refine sqPut (cs := #[.int .i64 0, .int .i64 0, .slice none 0 0]) ?_ 0; exact sqK BK388) Tryz.underlying34 rfl (by kernel_rfl)) rfl ?_
  exact ⟨_, Z6, by (with_reducible repeat (first | apply Kd.R_alloc | apply Kd.R_drewN | apply Kd.R_drew)); exact Kd.R_mono (Kd.R_far (p := ⟨gb388, 2, none⟩) (Kd.R_far (p := ⟨gb388, 1, none⟩) (Kd.R_far (p := ⟨gb388, 0, none⟩) (Kd.R_types HO394.out BK388.out (by decide)) (fun _ hk => hk.2) (.int .i64 t390)) (fun _ hk => hk.2) (.int .i64 t391)) (fun _ hk => hk.2) (.slice Ao14 t392.length co14)) (fun _ hk => trivial), sqB2 HB GE387 GE388⟩
 replace c4 := Bool.eq_false_iff.mpr c4
 subst c4
 rw [if_neg sqF] at H
 obtain ⟨rfl, rfl, rfl, rfl⟩ := sqO4 H
 go_enter Tryz.func40, Tryz.ntmps40
 go_wp2_with (first | ((with_reducible refine gate_dst (N := 2) rfl ?_); refine sqBx w (sqB HB) (N := 2) (cs := #[.int .i64 a0_0, .int .i64 a0_1, .slice A0_2 l0_2.length c0_2]) (t := 34) ?_; intro gb387 hg w15 BK387 GE387 HB hb; clear hb hg) | ((with_reducible refine gate_dst (N := 4) rfl ?_); refine sqBx w (sqB1 HB GE387) (N := 4) (cs := #[.int .i64 0, .int .i64 0, .slice none 0 0]) (t := 34) ?_; intro gb388 hg w16 BK388 GE388 HB hb; obtain ⟨NB387_388, NB388_387⟩ := sqM hg BK387; replace BK387 := sqT BK387 hb; clear hb hg; have hnb17 := NB387_388.out; have hnc17 := NB388_387.out; obtain ⟨hcz18_0, hcz18_1, hcz18_2, hfz18_0, hfz18_1, hfz18_2⟩ := sqY3 BK387) | ((with_reducible refine gate_callee (f := 60) rfl ?_); refine sqC (some 7) Tryz.func60 #[.agg #[.int .i64 a0_0, .int .i64 a0_1, .slice A0_2 l0_2.length c0_2]] ?_; (with_reducible refine (impl_isDesk.calls k a0_0 a0_1 _ _ l0_2 false _ ?side1 ?side2 A3.out).mono ?_); (case side1 => exact Z16); (case side2 => exact Z13); rintro e w19 ⟨rfl, hb⟩; refine ⟨_, rfl, ?_⟩; replace BK387 := sqT BK387 hb; replace BK388 := sqT BK388 hb; replace HB := sqS (sqB2 HB GE387 GE388) hb; (try clear hb); obtain ⟨hcz20_0, hcz20_1, hcz20_2, hfz20_0, hfz20_1, hfz20_2⟩ := sqY3 BK388))
 refine bodyPost_ret (results_ct rfl _ _ gb388 34 #[.int .i64 0, .int .i64 0, .slice none 0 0] (0, 0) _ rfl (Z17 BK388) Tryz.underlying34 rfl (by kernel_rfl)) rfl ?_
 exact ⟨_, Z6, Z18, sqB2 HB GE387 GE388⟩

/-! ### spec_l1In: function 101 -/
def spec_l1In.f (a0 : Int) (a1 : Int) (a2 : Int) : Option (Bool) := if a0 ≥ a1 then (some (decide (a0 ≤ a2))) else (some false)
set_option maxHeartbeats 8000000 in
set_option maxRecDepth 100000 in
theorem spec_l1In.calls (a0 : Int) (a1 : Int) (a2 : Int) (r : Bool) (w : World) (h : spec_l1In.f a0 a1 a2 = some r) :
  Calls Tryz.prog 101 #[.int .i64 a0, .int .i64 a1, .int .i64 a2] w fun e w' => e = .returned (.bool r) ∧ Drawn0 w w' := by
 unfold spec_l1In.f at h
 have H := h
 clear h
 by_cases c4 : a0 ≥ a1
 ·rw [if_pos c4] at H
  have c4b0 : decide (a1 ≤ a0) = true := decide_eq_true c4
  clear c4
  obtain rfl := Option.some.inj H
  go_enter Tryz.func101, Tryz.ntmps101
  go_wp2
  go_ret
  exact ⟨Z2, Z19⟩
 rw [if_neg c4] at H
 have c4b0 : decide (a1 ≤ a0) = false := decide_eq_false c4
 clear c4
 obtain rfl := Option.some.inj H
 go_enter Tryz.func101, Tryz.ntmps101
 go_wp2
 go_ret
 exact ⟨Z2, Z19⟩

/-! ### spec_l1Common: function 121 -/
def spec_l1Common.l0 : Nat → Int → Int → Option (Int)
 | 0, _, _ => none
 | k + 1, x0, x1 => if x1 > 0 then (if x1 = 0 then (none) else (spec_l1Common.l0 k x1 (Int.tmod x0 x1))) else (some x0)
def spec_l1Common.f (k : Nat) (a0 : Int) (a1 : Int) : Option (Int) := spec_l1Common.l0 k (mx a0 (wrap64 (-a0))) (mx a1 (wrap64 (-a1)))
abbrev spec_l1Common.M (k : Nat) : Prop := (∀ y0 y1, LeO (spec_l1Common.l0 k y0 y1) (spec_l1Common.l0 (k + 1) y0 y1))
theorem spec_l1Common.mono_t : ∀ k, spec_l1Common.M k → spec_l1Common.M (k + 1) ∧ ∀ a0 a1, LeO (spec_l1Common.f k a0 a1) (spec_l1Common.f (k + 1) a0 a1) := by
  rintro k ih0
  refine ⟨?_, ?_⟩ <;> (try unfold spec_l1Common.M) <;> intros <;> (first | unfold spec_l1Common.l0 | unfold spec_l1Common.f) <;> repeat' (with_reducible first | exact ih0 _ _ | exact LeO.refl _ | exact LeO.none _ | refine LeO.ite ?_ ?_ | refine LeO.bind ?_ fun _ => ?_)
theorem spec_l1Common.mono_l : ∀ k, spec_l1Common.M k
 | 0 => fun _ _ r h => by simp [spec_l1Common.l0] at h
 | k + 1 => (spec_l1Common.mono_t k (spec_l1Common.mono_l k)).1
theorem spec_l1Common.mono a0 a1 k : LeO (spec_l1Common.f k a0 a1) (spec_l1Common.f (k + 1) a0 a1) := (spec_l1Common.mono_t k (spec_l1Common.mono_l k)).2 a0 a1
set_option maxHeartbeats 8000000 in
set_option maxRecDepth 100000 in
theorem spec_l1Common.calls (k : Nat) (a0 : Int) (a1 : Int) (r : Int) (w : World) (h : spec_l1Common.f k a0 a1 = some r) :
  Calls Tryz.prog 121 #[.int .i64 a0, .int .i64 a1] w fun e w' => e = .returned (.int .i64 r) ∧ Below w.heap.size w w' := by
 have HB := Aside0.mk (Below.refl w.heap.size w)
 unfold spec_l1Common.f at h
 have H := h
 clear h
 obtain ⟨ji3, hji3⟩ : ∃ j_ : Int, (mx a0 (wrap64 (-a0))) = j_ := ⟨_, rfl⟩
 replace H : (spec_l1Common.l0 k ji3 (mx a1 (wrap64 (-a1)))) = some r := by first | (rw [hji3] at H; exact H) | (simp only [hji3] at H ⊢; exact H)
 have hji3_ : (if a0 < (wrap64 (-a0)) then (wrap64 (-a0)) else a0) = ji3 := hji3
 obtain ⟨ji4, hji4⟩ : ∃ j_ : Int, (mx a1 (wrap64 (-a1))) = j_ := ⟨_, rfl⟩
 replace H : (spec_l1Common.l0 k ji3 ji4) = some r := by first | (rw [hji4] at H; exact H) | (simp only [hji4] at H ⊢; exact H)
 have hji4_ : (if a1 < (wrap64 (-a1)) then (wrap64 (-a1)) else a1) = ji4 := hji4
 have H' := Aside0.mk H
 clear H
 go_enter Tryz.func121, Tryz.ntmps121
 go_wp2
 go_loopg [0, 1] k (fun kq v0 v1 w' => ∃ (x0_1 : Int) (x1_1 : Int), v0 = .int .i64 x0_1 ∧ v1 = .int .i64 x1_1 ∧ Aside0 (spec_l1Common.l0 kq x0_1 x1_1 = some r) ∧ Aside0 (kq ≤ k) ∧ Aside0 (Below w.heap.size w w'))
 case atStart => exact ⟨(ji3), (ji4), (by first | rfl | (simp; done) | (simp only [← hji3] <;> (first | rfl | simp)) | (simp [*]; done)), (by first | rfl | (simp; done) | (simp only [← hji4] <;> (first | rfl | simp)) | (simp [*]; done)), H', ⟨Nat.le_refl _⟩, ⟨sqB HB⟩⟩
 case round =>
  clear H'
  obtain ⟨x0_1, x1_1, rfl, rfl, HA, HK1, HB⟩ := hrel
  cases gk with
  | zero => exact absurd HA.out (by simp [spec_l1Common.l0])
  | succ k1 =>
   have H := HA.out
   clear HA
   simp only [spec_l1Common.l0] at H
   by_cases c5 : x1_1 > 0
   ·rw [if_pos c5] at H
    have c5b0 : decide (0 < x1_1) = true := decide_eq_true c5
    clear c5
    by_cases c6 : x1_1 = 0
    ·rw [if_pos c6] at H
     exact absurd H (by simp)
    rw [if_neg c6] at H
    have c6b0 : (x1_1 == 0) = false := beq_eq_false_iff_ne.mpr c6
    have c6b1 : (x1_1 != 0) = true := bne_iff_ne.mpr c6
    have H' := Aside0.mk H
    clear H
    go_wp2
    go_roundg k1
    case measure => have := HK1.out; omega
    case rel => exact ⟨(x1_1), (Int.tmod x0_1 x1_1), Z2, Z2, H', ⟨Z3 HK1⟩, ⟨sqB HB⟩⟩
   rw [if_neg c5] at H
   have c5b0 : decide (0 < x1_1) = false := decide_eq_false c5
   clear c5
   obtain rfl := Option.some.inj H
   go_wp2
   go_ret
   exact ⟨by first | rfl | (simp [errP_none, errP_some] <;> rfl) | (simp only [← hji3, ← hji4]; first | rfl | (simp [errP_none, errP_some] <;> rfl)) | (simp [*, errP_none, errP_some] <;> rfl), sqB HB⟩

/-! ### spec_FractionOk: function 77 -/
def spec_FractionOk.f (k : Nat) (a0_0 : Int) (a0_1 : Int) : Option (Bool) := (spec_l1In.f a0_0 (-1000000) 1000000).bind fun t397 => (if t397 = true then ((spec_l1In.f a0_1 0 1000000).bind fun t398 => (if t398 = true then ((spec_l1Common.f k a0_0 a0_1).bind fun t399 => (if t399 = 1 then (if a0_1 > 0 then (some true) else (some (a0_0 == 1))) else (some false))) else (some false))) else (some false))
theorem spec_FractionOk.mono : ∀ a0 a1 k, LeO (spec_FractionOk.f k a0 a1) (spec_FractionOk.f (k + 1) a0 a1) := by
 intro a0 a1 k
 unfold spec_FractionOk.f
 repeat' (with_reducible first | exact spec_l1Common.mono _ _ _ | exact LeO.refl _ | exact LeO.none _ | refine LeO.ite ?_ ?_ | refine LeO.bind ?_ fun _ => ?_)
set_option maxHeartbeats 8000000 in
set_option maxRecDepth 100000 in
theorem spec_FractionOk.calls (k : Nat) (a0_0 : Int) (a0_1 : Int) (r : Bool) (w : World) (h : spec_FractionOk.f k a0_0 a0_1 = some r) :
  Calls Tryz.prog 77 #[.agg #[.int .i64 a0_0, .int .i64 a0_1]] w fun e w' => e = .returned (.bool r) ∧ Below w.heap.size w w' := by
 have hu31 := Tryz.underlying31
 have HB := Aside0.mk (Below.refl w.heap.size w)
 unfold spec_FractionOk.f at h
 have H := h
 clear h
 obtain ⟨t397, A2, H⟩ := sqD H
 by_cases c3 : t397 = true
 ·subst c3
  rw [if_pos rfl] at H
  obtain ⟨t398, A4, H⟩ := sqD H
  by_cases c5 : t398 = true
  ·subst c5
   rw [if_pos rfl] at H
   obtain ⟨t399, A6, H⟩ := sqD H
   by_cases c7 : t399 = 1
   ·rw [if_pos c7] at H
    have c7b0 : (t399 == 1) = true := beq_iff_eq.mpr c7
    have c7b1 : (t399 != 1) = false := bne_eq_false_iff_eq.mpr c7
    clear c7
    by_cases c8 : a0_1 > 0
    ·rw [if_pos c8] at H
     have c8b0 : decide (0 < a0_1) = true := decide_eq_true c8
     clear c8
     obtain rfl := Option.some.inj H
     go_enter Tryz.func77, Tryz.ntmps77
     go_wp2_with (first | ((with_reducible refine gate_dst (N := 1) rfl ?_); refine sqBx w (sqB HB) (N := 1) (cs := #[.int .i64 a0_0, .int .i64 a0_1]) (t := 31) ?_; intro gb396 hg w9 BK396 GE396 HB hb; clear hb hg; obtain ⟨hcz10_0, hcz10_1, hfz10_0, hfz10_1⟩ := sqY2 BK396) | ((with_reducible refine gate_callee (f := 101) rfl ?_); refine sqC (some 5) Tryz.func101 #[.int .i64 a0_0, .int .i64 (-1000000), .int .i64 1000000] ?_; (with_reducible refine (spec_l1In.calls a0_0 (-1000000) 1000000 true _ A2.out).mono ?_); rintro e w' ⟨rfl, ⟨nd, rfl⟩⟩; refine ⟨_, rfl, ?_⟩) | (go_at_call 101; (with_reducible refine (spec_l1In.calls a0_1 0 1000000 true _ A4.out).mono ?_); rintro e w' ⟨rfl, ⟨nd, rfl⟩⟩) | ((with_reducible refine gate_callee (f := 121) rfl ?_); refine sqC (some 17) Tryz.func121 #[.int .i64 a0_0, .int .i64 a0_1] ?_; (with_reducible refine (spec_l1Common.calls k a0_0 a0_1 t399 _ A6.out).mono ?_); rintro e w11 ⟨rfl, hb⟩; refine ⟨_, rfl, ?_⟩; replace BK396 := sqT BK396 hb; replace HB := sqS (sqB1 HB GE396) hb; (try clear hb); obtain ⟨hcz12_0, hcz12_1, hfz12_0, hfz12_1⟩ := sqY2 BK396))
     go_ret
     exact ⟨Z6, sqB1 HB GE396⟩
    rw [if_neg c8] at H
    have c8b0 : decide (0 < a0_1) = false := decide_eq_false c8
    clear c8
    obtain rfl := Option.some.inj H
    go_enter Tryz.func77, Tryz.ntmps77
    go_wp2_with (first | ((with_reducible refine gate_dst (N := 1) rfl ?_); refine sqBx w (sqB HB) (N := 1) (cs := #[.int .i64 a0_0, .int .i64 a0_1]) (t := 31) ?_; intro gb396 hg w13 BK396 GE396 HB hb; clear hb hg; obtain ⟨hcz14_0, hcz14_1, hfz14_0, hfz14_1⟩ := sqY2 BK396) | ((with_reducible refine gate_callee (f := 101) rfl ?_); refine sqC (some 5) Tryz.func101 #[.int .i64 a0_0, .int .i64 (-1000000), .int .i64 1000000] ?_; (with_reducible refine (spec_l1In.calls a0_0 (-1000000) 1000000 true _ A2.out).mono ?_); rintro e w' ⟨rfl, ⟨nd, rfl⟩⟩; refine ⟨_, rfl, ?_⟩) | (go_at_call 101; (with_reducible refine (spec_l1In.calls a0_1 0 1000000 true _ A4.out).mono ?_); rintro e w' ⟨rfl, ⟨nd, rfl⟩⟩) | ((with_reducible refine gate_callee (f := 121) rfl ?_); refine sqC (some 17) Tryz.func121 #[.int .i64 a0_0, .int .i64 a0_1] ?_; (with_reducible refine (spec_l1Common.calls k a0_0 a0_1 t399 _ A6.out).mono ?_); rintro e w15 ⟨rfl, hb⟩; refine ⟨_, rfl, ?_⟩; replace BK396 := sqT BK396 hb; replace HB := sqS (sqB1 HB GE396) hb; (try clear hb); obtain ⟨hcz16_0, hcz16_1, hfz16_0, hfz16_1⟩ := sqY2 BK396))
    go_ret
    exact ⟨Z6, sqB1 HB GE396⟩
   rw [if_neg c7] at H
   have c7b0 : (t399 == 1) = false := beq_eq_false_iff_ne.mpr c7
   have c7b1 : (t399 != 1) = true := bne_iff_ne.mpr c7
   obtain rfl := Option.some.inj H
   go_enter Tryz.func77, Tryz.ntmps77
   go_wp2_with (first | ((with_reducible refine gate_dst (N := 1) rfl ?_); refine sqBx w (sqB HB) (N := 1) (cs := #[.int .i64 a0_0, .int .i64 a0_1]) (t := 31) ?_; intro gb396 hg w17 BK396 GE396 HB hb; clear hb hg; obtain ⟨hcz18_0, hcz18_1, hfz18_0, hfz18_1⟩ := sqY2 BK396) | ((with_reducible refine gate_callee (f := 101) rfl ?_); refine sqC (some 5) Tryz.func101 #[.int .i64 a0_0, .int .i64 (-1000000), .int .i64 1000000] ?_; (with_reducible refine (spec_l1In.calls a0_0 (-1000000) 1000000 true _ A2.out).mono ?_); rintro e w' ⟨rfl, ⟨nd, rfl⟩⟩; refine ⟨_, rfl, ?_⟩) | (go_at_call 101; (with_reducible refine (spec_l1In.calls a0_1 0 1000000 true _ A4.out).mono ?_); rintro e w' ⟨rfl, ⟨nd, rfl⟩⟩) | ((with_reducible refine gate_callee (f := 121) rfl ?_); refine sqC (some 17) Tryz.func121 #[.int .i64 a0_0, .int .i64 a0_1] ?_; (with_reducible refine (spec_l1Common.calls k a0_0 a0_1 t399 _ A6.out).mono ?_); rintro e w19 ⟨rfl, hb⟩; refine ⟨_, rfl, ?_⟩; replace BK396 := sqT BK396 hb; replace HB := sqS (sqB1 HB GE396) hb; (try clear hb)))
   go_ret
   exact ⟨Z6, sqB1 HB GE396⟩
  replace c5 := Bool.eq_false_iff.mpr c5
  subst c5
  rw [if_neg sqF] at H
  obtain rfl := Option.some.inj H
  go_enter Tryz.func77, Tryz.ntmps77
  go_wp2_with (first | ((with_reducible refine gate_dst (N := 1) rfl ?_); refine sqBx w (sqB HB) (N := 1) (cs := #[.int .i64 a0_0, .int .i64 a0_1]) (t := 31) ?_; intro gb396 hg w20 BK396 GE396 HB hb; clear hb hg; obtain ⟨hcz21_0, hcz21_1, hfz21_0, hfz21_1⟩ := sqY2 BK396) | ((with_reducible refine gate_callee (f := 101) rfl ?_); refine sqC (some 5) Tryz.func101 #[.int .i64 a0_0, .int .i64 (-1000000), .int .i64 1000000] ?_; (with_reducible refine (spec_l1In.calls a0_0 (-1000000) 1000000 true _ A2.out).mono ?_); rintro e w' ⟨rfl, ⟨nd, rfl⟩⟩; refine ⟨_, rfl, ?_⟩) | (go_at_call 101; (with_reducible refine (spec_l1In.calls a0_1 0 1000000 false _ A4.out).mono ?_); rintro e w' ⟨rfl, ⟨nd, rfl⟩⟩))
  go_ret
  exact ⟨Z6, sqB1 HB GE396⟩
 replace c3 := Bool.eq_false_iff.mpr c3
 subst c3
 rw [if_neg sqF] at H
 obtain rfl := Option.some.inj H
 go_enter Tryz.func77, Tryz.ntmps77
 go_wp2_with (first | ((with_reducible refine gate_dst (N := 1) rfl ?_); refine sqBx w (sqB HB) (N := 1) (cs := #[.int .i64 a0_0, .int .i64 a0_1]) (t := 31) ?_; intro gb396 hg w22 BK396 GE396 HB hb; clear hb hg; obtain ⟨hcz23_0, hcz23_1, hfz23_0, hfz23_1⟩ := sqY2 BK396) | ((with_reducible refine gate_callee (f := 101) rfl ?_); refine sqC (some 5) Tryz.func101 #[.int .i64 a0_0, .int .i64 (-1000000), .int .i64 1000000] ?_; (with_reducible refine (spec_l1In.calls a0_0 (-1000000) 1000000 false _ A2.out).mono ?_); rintro e w' ⟨rfl, ⟨nd, rfl⟩⟩; refine ⟨_, rfl, ?_⟩))
 go_ret
 exact ⟨Z6, sqB1 HB GE396⟩

/-! ### spec_DeskOk: function 30 -/
def spec_DeskOk.l0 : Nat → Int → Int → Int → List (S31) → Option (Bool)
 | 0, _, _, _, _ => none
 | k + 1, x3, x401000, x401001, x401002 => if x3 < (x401002.length : Int) then (if 0 ≤ x3 then ((spec_FractionOk.f k ((rd_T31 x401002 x3).f0) ((rd_T31 x401002 x3).f1)).bind fun t402 => (if t402 = true then (spec_DeskOk.l0 k (wrap64 (x3 + 1)) x401000 x401001 x401002) else (some false))) else (none)) else ((spec_FractionOk.f k x401000 x401001).bind fun t403 => (if t403 = true then (some (decide ((x401002.length : Int) ≤ 8))) else (some false)))
def spec_DeskOk.f (k : Nat) (a0_0 : Int) (a0_1 : Int) (l0_2 : List (S31)) : Option (Bool) := spec_DeskOk.l0 k 0 a0_0 a0_1 l0_2
abbrev spec_DeskOk.M (k : Nat) : Prop := (∀ y0 y1 y2 y3, LeO (spec_DeskOk.l0 k y0 y1 y2 y3) (spec_DeskOk.l0 (k + 1) y0 y1 y2 y3))
theorem spec_DeskOk.mono_t : ∀ k, spec_DeskOk.M k → spec_DeskOk.M (k + 1) ∧ ∀ a0 a1 a2, LeO (spec_DeskOk.f k a0 a1 a2) (spec_DeskOk.f (k + 1) a0 a1 a2) := by
  rintro k ih0
  refine ⟨?_, ?_⟩ <;> (try unfold spec_DeskOk.M) <;> intros <;> (first | unfold spec_DeskOk.l0 | unfold spec_DeskOk.f) <;> repeat' (with_reducible first | exact ih0 _ _ _ _ | exact spec_FractionOk.mono _ _ _ | exact LeO.refl _ | exact LeO.none _ | refine LeO.ite ?_ ?_ | refine LeO.bind ?_ fun _ => ?_)
theorem spec_DeskOk.mono_l : ∀ k, spec_DeskOk.M k
 | 0 => fun _ _ _ _ r h => by simp [spec_DeskOk.l0] at h
 | k + 1 => (spec_DeskOk.mono_t k (spec_DeskOk.mono_l k)).1
theorem spec_DeskOk.mono a0 a1 a2 k : LeO (spec_DeskOk.f k a0 a1 a2) (spec_DeskOk.f (k + 1) a0 a1 a2) := (spec_DeskOk.mono_t k (spec_DeskOk.mono_l k)).2 a0 a1 a2
set_option maxHeartbeats 8000000 in
set_option maxRecDepth 100000 in
theorem spec_DeskOk.calls (k : Nat) (a0_0 : Int) (a0_1 : Int) (A0_2 : Option Addr) (c0_2 : Nat) (l0_2 : List (S31)) (r : Bool) (w : World) (hr0_2 : Kd.C k31 w A0_2 l0_2.length l0_2) (hc0_2 : l0_2.length ≤ c0_2) (h : spec_DeskOk.f k a0_0 a0_1 l0_2 = some r) :
  Calls Tryz.prog 30 #[.agg #[.int .i64 a0_0, .int .i64 a0_1, .slice A0_2 l0_2.length c0_2]] w fun e w' => e = .returned (.bool r) ∧ Below w.heap.size w w' := by
 have hu34 := Tryz.underlying34
 have hu31 := Tryz.underlying31
 have HR0_2 := Aside0.mk hr0_2
 have HC0_2 := Aside0.mk hc0_2
 clear hr0_2 hc0_2
 have HB := Aside0.mk (Below.refl w.heap.size w)
 unfold spec_DeskOk.f at h
 have H := h
 clear h
 have H' := Aside0.mk H
 clear H
 go_enter Tryz.func30, Tryz.ntmps30
 go_wp2_with (first | ((with_reducible refine gate_dst (N := 1) rfl ?_); (try (refine gate_guard (by rfl) ?_; dsimp only)); refine sqBx w (sqB HB) (N := 1) (cs := #[.int .i64 a0_0, .int .i64 a0_1, .slice A0_2 l0_2.length c0_2]) (t := 34) ?_; intro gb400 hg w2 BK400 GE400 HB hb; clear hb hg))
 go_loopg [3] k (fun kq v3 w' => ∃ (x3_1 : Int), v3 = .int .i64 x3_1 ∧ Aside0 (spec_DeskOk.l0 kq x3_1 a0_0 a0_1 l0_2 = some r) ∧ Aside0 (kq ≤ k) ∧ Aside0 (w'.heap[gb400]? = some (.cells #[.int .i64 a0_0, .int .i64 a0_1, (.slice A0_2 l0_2.length c0_2)] 34 (0, 0))) ∧ Aside0 (Below w.heap.size w w'))
 case atStart => exact ⟨(0), Z2, H', ⟨Nat.le_refl _⟩, ⟨sqK BK400⟩, ⟨sqB1 HB GE400⟩⟩
 case round =>
  clear H'
  obtain ⟨x3_1, rfl, HA, HK1, BK400, HB⟩ := hrel
  cases gk with
  | zero => exact absurd HA.out (by simp [spec_DeskOk.l0])
  | succ k1 =>
   have H := HA.out
   clear HA
   simp only [spec_DeskOk.l0] at H
   by_cases c3 : x3_1 < (l0_2.length : Int)
   ·rw [if_pos c3] at H
    have c3b0 : decide (x3_1 < (l0_2.length : Int)) = true := decide_eq_true c3
    clear c3
    obtain ⟨c4, H⟩ := sqI H
    have c4b0 : decide (0 ≤ x3_1) = true := decide_eq_true c4
    clear c4
    obtain ⟨t402, A5, H⟩ := sqD H
    by_cases c6 : t402 = true
    ·subst c6
     rw [if_pos rfl] at H
     have H' := Aside0.mk H
     clear H
     obtain ⟨hcz7_0, hcz7_1, hcz7_2, hfz7_0, hfz7_1, hfz7_2⟩ := sqY3 BK400
     have p401 : 0 ≤ (x3_1 : Int) := of_decide_eq_true Z20
     have q401 : x3_1 < (l0_2.length : Int) := of_decide_eq_true Z20
     obtain ⟨ad401, e401, hx401_0, hx401_1⟩ := at_T31 HR0_2.out x3_1 p401 q401
     cases e401
     replace hx401_0 := (HB.out.cell (World.block_lt_of_cell? w _ hx401_0)).trans hx401_0
     replace hx401_1 := (HB.out.cell (World.block_lt_of_cell? w _ hx401_1)).trans hx401_1
     replace p401 := eq_true p401
     replace q401 := eq_true q401
     go_wp2_with (first | ((with_reducible refine gate_callee (f := 77) rfl ?_); refine sqC (some 16) Tryz.func77 #[.agg #[.int .i64 ((rd_T31 l0_2 x3_1).f0), .int .i64 ((rd_T31 l0_2 x3_1).f1)]] ?_; (with_reducible refine (spec_FractionOk.calls k1 ((rd_T31 l0_2 x3_1).f0) ((rd_T31 l0_2 x3_1).f1) true _ A5.out).mono ?_); rintro e w8 ⟨rfl, hb⟩; refine ⟨_, rfl, ?_⟩; replace BK400 := sqT BK400 hb; replace HB := sqS (sqB1 HB GE400) hb; (try clear hb)))
     go_roundg k1
     case measure => have := HK1.out; omega
     case rel => exact ⟨(wrap64 (x3_1 + 1)), Z2, H', ⟨Z3 HK1⟩, ⟨sqK BK400⟩, ⟨sqB1 HB GE400⟩⟩
    replace c6 := Bool.eq_false_iff.mpr c6
    subst c6
    rw [if_neg sqF] at H
    obtain rfl := Option.some.inj H
    obtain ⟨hcz9_0, hcz9_1, hcz9_2, hfz9_0, hfz9_1, hfz9_2⟩ := sqY3 BK400
    have p401 : 0 ≤ (x3_1 : Int) := of_decide_eq_true Z20
    have q401 : x3_1 < (l0_2.length : Int) := of_decide_eq_true Z20
    obtain ⟨ad401, e401, hx401_0, hx401_1⟩ := at_T31 HR0_2.out x3_1 p401 q401
    cases e401
    replace hx401_0 := (HB.out.cell (World.block_lt_of_cell? w _ hx401_0)).trans hx401_0
    replace hx401_1 := (HB.out.cell (World.block_lt_of_cell? w _ hx401_1)).trans hx401_1
    replace p401 := eq_true p401
    replace q401 := eq_true q401
    go_wp2_with (first | ((with_reducible refine gate_callee (f := 77) rfl ?_); refine sqC (some 16) Tryz.func77 #[.agg #[.int .i64 ((rd_T31 l0_2 x3_1).f0), .int .i64 ((rd_T31 l0_2 x3_1).f1)]] ?_; (with_reducible refine (spec_FractionOk.calls k1 ((rd_T31 l0_2 x3_1).f0) ((rd_T31 l0_2 x3_1).f1) false _ A5.out).mono ?_); rintro e w10 ⟨rfl, hb⟩; refine ⟨_, rfl, ?_⟩; replace BK400 := sqT BK400 hb; replace HB := sqS (sqB1 HB GE400) hb; (try clear hb)))
    go_ret
    exact ⟨Z6, sqB1 HB GE400⟩
   rw [if_neg c3] at H
   have c3b0 : decide (x3_1 < (l0_2.length : Int)) = false := decide_eq_false c3
   clear c3
   obtain ⟨t403, A11, H⟩ := sqD H
   by_cases c12 : t403 = true
   ·subst c12
    rw [if_pos rfl] at H
    obtain rfl := Option.some.inj H
    obtain ⟨hcz13_0, hcz13_1, hcz13_2, hfz13_0, hfz13_1, hfz13_2⟩ := sqY3 BK400
    go_wp2_with (first | ((with_reducible refine gate_callee (f := 77) rfl ?_); refine sqC (some 20) Tryz.func77 #[.agg #[.int .i64 a0_0, .int .i64 a0_1]] ?_; (with_reducible refine (spec_FractionOk.calls k1 a0_0 a0_1 true _ A11.out).mono ?_); rintro e w14 ⟨rfl, hb⟩; refine ⟨_, rfl, ?_⟩; replace BK400 := sqT BK400 hb; replace HB := sqS (sqB1 HB GE400) hb; (try clear hb); obtain ⟨hcz15_0, hcz15_1, hcz15_2, hfz15_0, hfz15_1, hfz15_2⟩ := sqY3 BK400))
    go_ret
    exact ⟨Z6, sqB1 HB GE400⟩
   replace c12 := Bool.eq_false_iff.mpr c12
   subst c12
   rw [if_neg sqF] at H
   obtain rfl := Option.some.inj H
   obtain ⟨hcz16_0, hcz16_1, hcz16_2, hfz16_0, hfz16_1, hfz16_2⟩ := sqY3 BK400
   go_wp2_with (first | ((with_reducible refine gate_callee (f := 77) rfl ?_); refine sqC (some 20) Tryz.func77 #[.agg #[.int .i64 a0_0, .int .i64 a0_1]] ?_; (with_reducible refine (spec_FractionOk.calls k1 a0_0 a0_1 false _ A11.out).mono ?_); rintro e w17 ⟨rfl, hb⟩; refine ⟨_, rfl, ?_⟩; replace BK400 := sqT BK400 hb; replace HB := sqS (sqB1 HB GE400) hb; (try clear hb)))
   go_ret
   exact ⟨Z6, sqB1 HB GE400⟩

/-! ### spec_l11Copy: function 56 -/
def spec_l11Copy.f (a0_0 : Int) (a0_1 : Int) (l0_2 : List (S31)) : Option (Int × Int × (List (S31))) := (some (([] : List (S31)) : List (S31))).bind fun y406 => (if y406.length + l0_2.length < 8796093022208 then (some (a0_0, a0_1, (y406 ++ l0_2))) else (none))
def spec_l11Copy.T1 : Bool × List (List Nat × List Nat) := (true, [([], []), ([0], [0]), ([], []), ([], []), ([3], [3]), ([2, 4], [2, 4]), ([1, 5], [1, 5]), ([6, 5, 0, 1, 2, 3, 4, 5, 6], [6])])
def spec_l11Copy.B1 : List Nat := [0, 1, 0, 0, 8, 28, 63, 127]
theorem spec_l11Copy.tab1 : rtab .any (opsOf Tryz.f56 1) = spec_l11Copy.T1 := by kernel_rfl
theorem spec_l11Copy.bits1 : waitsOk spec_l11Copy.T1.2 spec_l11Copy.B1 = true := by kernel_rfl
set_option maxHeartbeats 8000000 in
set_option maxRecDepth 100000 in
theorem spec_l11Copy.calls (a0_0 : Int) (a0_1 : Int) (A0_2 : Option Addr) (c0_2 : Nat) (l0_2 : List (S31)) (r1 : Int) (r2 : Int) (r3 : List (S31)) (w : World) (hr0_2 : Kd.C k31 w A0_2 l0_2.length l0_2) (hc0_2 : l0_2.length ≤ c0_2) (h : spec_l11Copy.f a0_0 a0_1 l0_2 = some (r1, r2, r3)) :
  Calls Tryz.prog 56 #[.agg #[.int .i64 a0_0, .int .i64 a0_1, .slice A0_2 l0_2.length c0_2]] w fun e w' => ∃ v2_ : Value, e = .returned (.agg #[.int .i64 r1, .int .i64 r2, v2_]) ∧ Kd.R k31 31 w' w.heap.size (fun _ => True) v2_ r3 ∧ Below w.heap.size w w' := by
 have hu34 := Tryz.underlying34
 have hu31 := Tryz.underlying31
 have HR0_2 := Aside0.mk hr0_2
 have HC0_2 := Aside0.mk hc0_2
 clear hr0_2 hc0_2
 have HB := Aside0.mk (Below.refl w.heap.size w)
 unfold spec_l11Copy.f at h
 have H := h
 clear h
 obtain ⟨y406, hy406⟩ : ∃ y_ : List (S31), y_ = (([] : List (S31))) := ⟨_, rfl⟩
 replace H : (if y406.length + l0_2.length < 8796093022208 then (some (a0_0, a0_1, (y406 ++ l0_2))) else (none)) = some (r1, r2, r3) := sqW hy406 H
 have Ny406 := Aside0.mk hy406
 clear hy406
 obtain ⟨c2, H⟩ := sqI H
 have LMc2 := Aside0.mk c2
 clear c2
 obtain ⟨y409, hy409⟩ : ∃ y_ : List (S31), y_ = (y406 ++ l0_2) := ⟨_, rfl⟩
 replace H : (some (a0_0, a0_1, y409)) = some (r1, r2, r3) := sqW hy409 H
 have Ny409 := Aside0.mk hy409
 clear hy409
 obtain ⟨rfl, rfl, rfl⟩ := sqO3 H
 go_enter Tryz.func56, Tryz.ntmps56
 try go_wp2_with (first | ((with_reducible refine gate_dst (N := 1) rfl ?_); refine sqBx w (sqB HB) (N := 1) (cs := #[.int .i64 a0_0, .int .i64 a0_1, .slice A0_2 l0_2.length c0_2]) (t := 34) ?_; intro gb404 hg w3 BK404 GE404 HB hb; clear hb hg) | ((with_reducible refine gate_dst (N := 2) rfl ?_); refine sqBx w (sqB1 HB GE404) (N := 2) (cs := #[.int .i64 0, .int .i64 0, .slice none 0 0]) (t := 34) ?_; intro gb405 hg w4 BK405 GE405 HB hb; obtain ⟨NB404_405, NB405_404⟩ := sqM hg BK404; replace BK404 := sqT BK404 hb; clear hb hg))
 replace BK404 := Aside0.mk (blk_drew BK404.out)
 replace BK405 := Aside0.mk (blk_drew BK405.out)
 replace HB := Aside0.mk (below_drew1 HB.out)
 refine start_ (n := 8) (S := fun w' => w'.cell? ⟨gb404, 0, none⟩ = some (.int .i64 a0_0) ∧ w'.cell? ⟨gb404, 1, none⟩ = some (.int .i64 a0_1) ∧ w'.cell? ⟨gb404, 2, none⟩ = some (.slice A0_2 l0_2.length c0_2)) (ds := []) #[false, false, false, false, false, false, false, false] (by kernel_rfl) rfl rfl ⟨(blk_cell BK404.out 0).trans rfl, (blk_cell BK404.out 1).trans rfl, (blk_cell BK404.out 2).trans rfl⟩ (fun hHeld => ?_); refine with_tabW spec_l11Copy.tab1 spec_l11Copy.bits1 (fun HT_ HW_ => ?_)
 generalize w4.drew = w5 at BK404 BK405 HB hHeld ⊢
 refine sqP (i := 0) (N := some 3) (h := ?_)
 refine sqP (i := 3) (N := some 6) (h := ?_)
 refine sqQ (i := 1) (N := some 4) hHeld (h := ?_)
 refine sqQ (i := 4) (N := some 7) hHeld (h := ?_)
 refine one_ (i := 2) (N := some 5) #[true, true, true, true, true, false, false, false] rfl rfl (one_of HT_.out (by kernel_rfl)) (by decide) (fun K hK => ?_)
 refine Kd.R_lit_step k31 _ 31 ?hg (N := 5) ?hd (xs := ([] : List (S31))) (inner := []) (ok := fun _ => True) (okp := fun _ => True) ?hr ?hp (fun _ hk => hk) trivial (Below.refl _ _) (Nat.le_refl _) (by simp) ?_; (case hd => rfl); (case hg => rfl); (case hr => exact Z21); (case hp => exact Z22)
 intro v407 w6 ho7 hb hg_ hnew_
 clear hg_ hnew_
 (first | rw [← Ny406.out] at ho7 | (simp only [Int.reduceToNat] at ho7; rw [← Ny406.out] at ho7))
 have HO408 := sqL ho7 (sqB2 HB GE404 GE405)
 replace BK404 := sqT BK404 hb
 replace BK405 := sqT BK405 hb
 replace HB := sqS (sqB2 HB GE404 GE405) hb
 clear hb ho7
 refine hK.out _ _ ⟨(blk_cell BK404.out 0).trans rfl, (blk_cell BK404.out 1).trans rfl, (blk_cell BK404.out 2).trans rfl⟩ (fun hHeld => ?_)
 clear hK K
 refine sqN (some 5) ?_
 refine one_ (i := 5) (N := some 8) #[true, true, true, true, true, true, false, false] rfl rfl (one_of HT_.out (by kernel_rfl)) (by decide) (fun K hK => ?_)
 refine Kd.R_append_rows_step k31 (w0 := w) w.heap.size (by rfl) (.tmp 5) (.tmp 7) 32 31 (.agg #[(.int .i64 0), (.int .i64 0)]) 16 rfl Tryz.underlying32 info31 rfl (by decide) (by omega) v407 y406 l0_2 _ _ _ (fun _ => True) (fun _ => False) rfl rfl ?aO ?aR (fun _ _ h => h) (fun _ h => h.elim) ?aF ?aB ?aS ?aL ?_
 (case aR => exact Z16)
 (case aB => exact (sqB2 HB GE404 GE405))
 (case aF => exact Z23)
 (case aO => exact (sqR HO408))
 (case aS => exact (below_size (sqB2 HB GE404 GE405)))
 (case aL => exact Z3 LMc2)
 intro v410 w8 ho hb hg hat
 rw [← Ny409.out] at ho
 replace BK404 := Aside0.mk (blk_grown (sqK BK404) hg (Kd.R_ne HO408.out BK404.out (by decide)))
 replace BK405 := Aside0.mk (blk_grown (sqK BK405) hg (Kd.R_ne HO408.out BK405.out (by decide)))
 replace HB := Aside0.mk (hb)
 have HO411 := Aside0.mk (ho)
 clear HO408
 clear ho hb hg hat
 obtain ⟨Ao9, co9, eo9⟩ := Kd.R_slice HO411.out
 (first | subst eo9 | (injection eo9 with f1_ f2_ f3_; have f4_ := f1_.symm; have f5_ := f3_.symm; clear f1_ f2_ f3_; subst f4_; subst f5_))
 refine hK.out _ _ ⟨(blk_cell BK404.out 0).trans rfl, (blk_cell BK404.out 1).trans rfl, (blk_cell BK404.out 2).trans rfl⟩ (fun hHeld => ?_)
 clear hK K
 refine sqN (some 8) ?_
 refine sqP (i := 6) (N := some 9) (h := ?_)
 refine one_ (i := 7) (N := none) #[true, true, true, true, true, true, true, true] rfl rfl (one_of HT_.out (by kernel_rfl)) (by decide) (fun K hK => ?_)
 have hs10 : w8.cell? ⟨gb405, 0, none⟩ = some (.int .i64 0) := (blk_cell BK405.out 0).trans rfl
 have hfs10 := blk_frozen BK405.out 0
 have hns10_0 := NB404_405.out
 have hms10_0 := NB405_404.out
 have hs11 : w8.cell? ⟨gb405, 1, none⟩ = some (.int .i64 0) := (blk_cell BK405.out 1).trans rfl
 have hfs11 := blk_frozen BK405.out 1
 have hs12 : w8.cell? ⟨gb405, 2, none⟩ = some (.slice none 0 0) := (blk_cell BK405.out 2).trans rfl
 have hfs12 := blk_frozen BK405.out 2
 refine skip_ (w1 := ?_) (by rfl) rfl ?_ ?_
 rotate_left
 ·go_simp
  rfl
 refine hK.out _ _ ⟨((cell_far (p := ⟨gb405, _, none⟩) NB404_405.out _).trans (((cell_far (p := ⟨gb405, _, none⟩) NB404_405.out _).trans (((cell_far (p := ⟨gb405, _, none⟩) NB404_405.out _).trans (hHeld.1)))))), ((cell_far (p := ⟨gb405, _, none⟩) NB404_405.out _).trans (((cell_far (p := ⟨gb405, _, none⟩) NB404_405.out _).trans (((cell_far (p := ⟨gb405, _, none⟩) NB404_405.out _).trans (hHeld.2.1)))))), ((cell_far (p := ⟨gb405, _, none⟩) NB404_405.out _).trans (((cell_far (p := ⟨gb405, _, none⟩) NB404_405.out _).trans (((cell_far (p := ⟨gb405, _, none⟩) NB404_405.out _).trans (hHeld.2.2))))))⟩ (fun hHeld => ?_)
 clear hK K
 refine done_ (done_of HT_.out (by kernel_rfl)) ?_
 try go_wp2
 refine bodyPost_ret (results_cell_row rfl _ _ gb405 34 #[.int .i64 a0_0, .int .i64 a0_1, .slice Ao9 y409.length co9] (0, 0) _ rfl (Z24 BK405) Tryz.underlying34 rfl (by kernel_rfl)) rfl ?_
 exact ⟨_, Z6, by (with_reducible repeat (first | apply Kd.R_alloc | apply Kd.R_drewN | apply Kd.R_drew)); exact Kd.R_mono (Kd.R_far (p := ⟨gb405, 2, none⟩) (Kd.R_far (p := ⟨gb405, 1, none⟩) (Kd.R_far (p := ⟨gb405, 0, none⟩) (Kd.R_types HO411.out BK405.out (by decide)) (fun _ hk => hk.2) (.int .i64 a0_0)) (fun _ hk => hk.2) (.int .i64 a0_1)) (fun _ hk => hk.2) (.slice Ao9 y409.length co9)) (fun _ hk => trivial), sqB2 HB GE404 GE405⟩

end Go.Proofs.YtofmlbgfcohhoaaGreatDoor.PFnExactDeskLine
