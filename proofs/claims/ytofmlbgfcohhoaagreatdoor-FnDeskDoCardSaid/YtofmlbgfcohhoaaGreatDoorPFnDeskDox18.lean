/- Lean functions of the Go functions that the law FnDeskDo reaches, each with its contract: made by a program of this session. -/
import Derived.Test.YtofmlbgfcohhoaaGreatDoorPFnDeskDox17
namespace Go.Proofs.YtofmlbgfcohhoaaGreatDoor.PFnDeskDo
open Go.RowKit Go.Proofs.YtofmlbgfcohhoaaGreatDoorW.PrintWords Go.Proofs.YtofmlbgfcohhoaaGreatDoorW.PrintLast Go.Proofs.YtofmlbgfcohhoaaGreatDoorW.PrintMore Go.Proofs.YtofmlbgfcohhoaaGreatDoor.Lib
attribute [local go_sem] max2_int min2_int max_two min_two max_three min_three max_four min_four   -- for this text's walks alone
set_option linter.unusedVariables false
set_option linter.unusedSimpArgs false

attribute [local go_sem high] eqA31
/-! ### spec_DrawDeskDo: function 21 -/
def spec_DrawDeskDo.f (k : Nat) (l0 : List Int) : Option (Int × Int × (List (S31)) × Int × ByteArray) := (spec_l20Open.f l0).bind fun bt491 => ((spec_l20Desk.f k bt491.1 bt491.2 12).bind fun bt494 => ((spec_l20Deed.f k bt491.1 bt494.2.2.2).bind fun bt501 => (some (bt494.1, bt494.2.1, bt494.2.2.1, bt501.1, bt501.2.1))))
theorem spec_DrawDeskDo.mono : ∀ a0 k, LeO (spec_DrawDeskDo.f k a0) (spec_DrawDeskDo.f (k + 1) a0) := by
 intro a0 k
 unfold spec_DrawDeskDo.f
 repeat' first
   | (with_reducible exact spec_l20Deed.mono _ _ _)
   | (with_reducible exact spec_l20Desk.mono _ _ _ _)
   | (with_reducible exact LeO.refl _)
   | (with_reducible exact LeO.none _)
   | (with_reducible refine LeO.ite ?_ ?_)
   | (with_reducible refine LeO.bind ?_ (fun _ => ?_))
set_option maxHeartbeats 8000000 in
set_option maxRecDepth 100000 in
theorem spec_DrawDeskDo.calls (k : Nat) (A0 : Option Addr) (c0 : Nat) (l0 : List Int) (r1 : Int) (r2 : Int) (r3 : List (S31)) (r4 : Int) (r5 : ByteArray) (w : World) (hr0 : Kd.C (Kd.int .u8) w A0 l0.length l0) (hc0 : l0.length ≤ c0) (h : spec_DrawDeskDo.f k l0 = some (r1, r2, r3, r4, r5)) :
  Calls Tryz.prog 21 #[.slice A0 l0.length c0] w fun e w' => ∃ v2_ : Value, e = .returned (.tuple #[.agg #[.int .i64 r1, .int .i64 r2, v2_], .agg #[.int .i64 r4, .string r5]]) ∧ Kd.Q k31 31 w' w.heap.size (fun _ => True) v2_ r3 ∧ Below w.heap.size w w' := by
 have hu34 := Tryz.underlying34
 have hu38 := Tryz.underlying38
 have HR0 := Aside0.mk hr0
 have HC0 := Aside0.mk hc0
 clear hr0 hc0
 have HB := Aside0.mk (Below.refl w.heap.size w)
 have H : ((spec_l20Open.f l0).bind fun bt491 => ((spec_l20Desk.f k bt491.1 bt491.2 12).bind fun bt494 => ((spec_l20Deed.f k bt491.1 bt494.2.2.2).bind fun bt501 => (some (bt494.1, bt494.2.1, bt494.2.2.1, bt501.1, bt501.2.1))))) = some (r1, r2, r3, r4, r5) := h
 clear h
 obtain ⟨⟨t491, t492⟩, A2, H⟩ := sqD H
 try dsimp only at H
 obtain ⟨⟨t494, t495, t496, t499⟩, A3, H⟩ := sqD H
 try dsimp only at H
 obtain ⟨⟨t501, t502, t503⟩, A4, H⟩ := sqD H
 try dsimp only at H
 obtain ⟨rfl, rfl, rfl, rfl, rfl⟩ := sqO5 H
 go_enter Tryz.func21, Tryz.ntmps21
 try go_wp2_with (first | ((with_reducible refine gate_dst (N := 2) rfl ?_); refine sqBox (N := 2) (cs := #[.int .i64 0, .int .i64 0, .slice none 0 0]) (t := 34) ?_; intro gb489 hg w5 BK489 hb; have GW489 := Aside0.mk ((sqG hg (sqB HB))); have GE489 := GW489; replace HB := sqS (sqB HB) hb; clear hb hg) | ((with_reducible refine gate_dst (N := 3) rfl ?_); refine sqBox (N := 3) (cs := #[.int .i64 0, .string (⟨#[]⟩ : ByteArray)]) (t := 38) ?_; intro gb490 hg w6 BK490 hb; have GW490 := Aside0.mk ((sqG hg (sqB1 HB GE489))); have GE490 := GW490; replace HB := sqS (sqB1 HB GE489) hb; obtain ⟨NB489_490, NB490_489⟩ := sqM hg BK489; replace BK489 := sqT BK489 hb; clear hb hg) | ((with_reducible refine gate_callee (f := 66) rfl ?_); refine goesL_ (some 7) rfl rfl Tryz.func66 (by kernel_rfl) rfl #[.slice A0 l0.length c0] rfl sqA ?_; (with_reducible refine (spec_l20Open.calls _ _ l0 t491 t492 w _ ?side1 ?side2 ?side3 A2.out).mono ?_); (case side1 => repeat (first | (with_reducible first | exact HB.out | apply below_alloc | apply pw_below_drewN | apply below_drew1 | refine below_set ?_ GE489.out | refine below_set ?_ GE490.out) | exact HB.out)); (case side2 => exact HR0.out); (case side3 => exact HC0.out); rintro e w7 ⟨g493, rfl, hi, hb, hb2⟩; refine ⟨_, rfl, ?_⟩; replace HB := Aside0.mk (hb); have HI493 := Aside0.mk (hi); have NB493_489 := Aside0.mk (IsS131.ne_blk hi (blk_below (sqK BK489) hb2) (by decide)); have NB489_493 := Aside0.mk (Ne.symm (IsS131.ne_blk hi (blk_below (sqK BK489) hb2) (by decide))); replace BK489 := Aside0.mk (blk_below (sqK BK489) hb2); have NB493_490 := Aside0.mk (IsS131.ne_blk hi (blk_below (sqK BK490) hb2) (by decide)); have NB490_493 := Aside0.mk (Ne.symm (IsS131.ne_blk hi (blk_below (sqK BK490) hb2) (by decide))); replace BK490 := Aside0.mk (blk_below (sqK BK490) hb2); (try clear hb)) | ((with_reducible refine gate_callee (f := 67) rfl ?_); refine goesL_ (some 9) rfl rfl Tryz.func67 (by kernel_rfl) rfl #[.pointer (some ⟨g493, 0, none⟩), .int .i64 12] rfl sqA ?_; (with_reducible refine (spec_l20Desk.calls k g493 t491 t492 12 t494 t495 t496 t499 w _ ?side1 ?side2 A3.out).mono ?_); (case side1 => exact Z42 HI493 NB493_489 NB493_490); (case side2 => exact Z44 HI493 GE489 GE490); rintro e w8 ⟨v497, rfl, ho0, hi, hb, hk⟩; refine ⟨_, rfl, ?_⟩; replace BK489 := Aside0.mk (KeepBut.blk hk (g' := gb489) (o := .cells #[.int .i64 0, .int .i64 0, .slice none 0 0] 34 (0, 0)) (sqK BK489) NB489_493.out (by simp)); replace BK490 := Aside0.mk (KeepBut.blk hk (g' := gb490) (o := .cells #[.int .i64 0, .string (⟨#[]⟩ : ByteArray)] 38 (0, 0)) (sqK BK490) NB490_493.out (by simp)); have HO498 := Aside0.mk (Kd.Q_lower ho0 (below_size (Z44 HI493 GE489 GE490))); replace HB := Aside0.mk (hb); replace HI493 := Aside0.mk (hi); (try clear hb); (try clear ho0)) | ((with_reducible refine gate_dst (N := 5) rfl ?_); refine sqBox (N := 5) (cs := #[.int .i64 0, .int .i64 0, .slice none 0 0]) (t := 34) ?_; intro gb500 hg w9 BK500 hb; replace HO498 := Aside0.mk (Kd.Q_below (Z29 HO498) hb); have GW500 := Aside0.mk ((by rw [hg]; exact (below_size (Z44 HI493 GE489 GE490)) : w.heap.size ≤ gb500)); have GE500 := GW500; replace HB := Aside0.mk (below_step (Z44 HI493 GE489 GE490) hb); obtain ⟨NB489_500, NB500_489⟩ := sqM hg BK489; replace BK489 := sqT BK489 hb; obtain ⟨NB490_500, NB500_490⟩ := sqM hg BK490; replace BK490 := sqT BK490 hb; have NB493_500 := Aside0.mk ((by rw [hg]; exact Nat.ne_of_lt (IsS131.lt (show IsS131 w _ g493 t491 t499 from by repeat (first | (with_reducible first | exact HI493.out | apply IsS131.alloc | apply IsS131.drewN | apply IsS131.drew | apply IsS131.set_1 | refine IsS131.far ?_ NB493_489.out _ | refine IsS131.far ?_ NB493_490.out _) | exact HI493.out))) : g493 ≠ gb500)); have NB500_493 := Aside0.mk ((by rw [hg]; exact Nat.ne_of_gt (IsS131.lt (show IsS131 w _ g493 t491 t499 from by repeat (first | (with_reducible first | exact HI493.out | apply IsS131.alloc | apply IsS131.drewN | apply IsS131.drew | apply IsS131.set_1 | refine IsS131.far ?_ NB493_489.out _ | refine IsS131.far ?_ NB493_490.out _) | exact HI493.out))) : gb500 ≠ g493)); replace HI493 := Aside0.mk (IsS131.below (Z42 HI493 NB493_489 NB493_490) hb); clear hb hg; have hnb10 := NB500_489.out; have hnc10 := NB489_500.out; have hnb11 := NB500_490.out; have hnc11 := NB490_500.out; have hnb12 := NB500_493.out; have hnc12 := NB493_500.out; obtain ⟨hcz13_0, hcz13_1, hcz13_2, hfz13_0, hfz13_1, hfz13_2⟩ := sqY3 BK500; obtain ⟨Ao14, co14, eo14, _⟩ := Kd.Q_slice HO498.out; subst eo14))
 have n0_ : Aside0 (Kd.Q k31 31 (((w9.setCell ⟨gb500, 0, none⟩ (.int .i64 t494)).setCell ⟨gb500, 1, none⟩ (.int .i64 t495)).setCell ⟨gb500, 2, none⟩ (.slice Ao14 t496.length co14)) w.heap.size (fun _ => True) (.slice Ao14 t496.length co14) t496) := ⟨by (with_reducible repeat (first | apply Kd.Q_alloc | apply Kd.Q_drewN | apply Kd.Q_drew)); exact Kd.Q_mono (Kd.Q_far (p := ⟨gb500, 2, none⟩) (Kd.Q_far (p := ⟨gb500, 1, none⟩) (Kd.Q_far (p := ⟨gb500, 0, none⟩) (Kd.Q_types HO498.out BK500.out (by decide)) (fun _ hk => hk.2) (.int .i64 t494)) (fun _ hk => hk.2) (.int .i64 t495)) (fun _ hk => hk.2) (.slice Ao14 t496.length co14)) (fun _ hk => trivial)⟩
 have n1_ : Aside0 ((((w9.setCell ⟨gb500, 0, none⟩ (.int .i64 t494)).setCell ⟨gb500, 1, none⟩ (.int .i64 t495)).setCell ⟨gb500, 2, none⟩ (.slice Ao14 t496.length co14)).heap[gb489]? = some (.cells #[.int .i64 0, .int .i64 0, .slice none 0 0] 34 (0, 0))) := ⟨Z20 NB489_500 BK489⟩
 have n2_ : Aside0 ((((w9.setCell ⟨gb500, 0, none⟩ (.int .i64 t494)).setCell ⟨gb500, 1, none⟩ (.int .i64 t495)).setCell ⟨gb500, 2, none⟩ (.slice Ao14 t496.length co14)).heap[gb490]? = some (.cells #[.int .i64 0, .string (⟨#[]⟩ : ByteArray)] 38 (0, 0))) := ⟨Z20 NB490_500 BK490⟩
 have n3_ : Aside0 ((((w9.setCell ⟨gb500, 0, none⟩ (.int .i64 t494)).setCell ⟨gb500, 1, none⟩ (.int .i64 t495)).setCell ⟨gb500, 2, none⟩ (.slice Ao14 t496.length co14)).heap[gb500]? = some (.cells #[.int .i64 t494, .int .i64 t495, .slice Ao14 t496.length co14] 34 (0, 0))) := ⟨by refine sqPut (cs := #[.int .i64 t494, .int .i64 t495, .slice none 0 0]) ?_ 2; refine sqPut (cs := #[.int .i64 t494, .int .i64 0, .slice none 0 0]) ?_ 1; refine sqPut (cs := #[.int .i64 0, .int .i64 0, .slice none 0 0]) ?_ 0; exact sqK BK500⟩
 have n4_ : Aside0 (IsS131 w (((w9.setCell ⟨gb500, 0, none⟩ (.int .i64 t494)).setCell ⟨gb500, 1, none⟩ (.int .i64 t495)).setCell ⟨gb500, 2, none⟩ (.slice Ao14 t496.length co14)) g493 t491 t499) := ⟨Z53 HI493 NB493_489 NB493_490 NB493_500⟩
 have n5_ : Aside0 (Below w.heap.size w (((w9.setCell ⟨gb500, 0, none⟩ (.int .i64 t494)).setCell ⟨gb500, 1, none⟩ (.int .i64 t495)).setCell ⟨gb500, 2, none⟩ (.slice Ao14 t496.length co14))) := ⟨Z55 HI493 GE489 GE490 GE500⟩
 (try clear HO498)
 (try clear BK489)
 (try clear BK490)
 (try clear BK500)
 (try clear HI493)
 (try clear HB)
 generalize (((w9.setCell ⟨gb500, 0, none⟩ (.int .i64 t494)).setCell ⟨gb500, 1, none⟩ (.int .i64 t495)).setCell ⟨gb500, 2, none⟩ (.slice Ao14 t496.length co14)) = w15 at n0_ n1_ n2_ n3_ n4_ n5_ ⊢
 have HO498 := n0_
 have BK489 := n1_
 have BK490 := n2_
 have BK500 := n3_
 have HI493 := n4_
 have HB := n5_
 clear n0_ n1_ n2_ n3_ n4_ n5_
 replace HO498 := Aside0.mk (Kd.Q_drew HO498.out)
 replace BK489 := Aside0.mk (blk_drew BK489.out)
 replace BK490 := Aside0.mk (blk_drew BK490.out)
 replace BK500 := Aside0.mk (blk_drew BK500.out)
 replace HI493 := Aside0.mk (IsS131.drew HI493.out)
 replace HB := Aside0.mk (below_drew1 HB.out)
 refine start_ (n := 5) (S := fun w' => w'.cell? ⟨gb500, 0, none⟩ = some (.int .i64 t494) ∧ w'.cell? ⟨gb500, 1, none⟩ = some (.int .i64 t495) ∧ w'.cell? ⟨gb500, 2, none⟩ = some (.slice Ao14 t496.length co14)) (ds := []) #[false, false, false, false, false] (by kernel_rfl) rfl rfl ⟨(blk_cell BK500.out 0).trans rfl, (blk_cell BK500.out 1).trans rfl, (blk_cell BK500.out 2).trans rfl⟩ (fun hHeld => ?_)
 generalize w15.drew = w16 at HO498 BK489 BK490 BK500 HI493 HB hHeld ⊢
 refine pure_ (i := 1) (N := some 11) (v := ?_) (a' := ?_) #[false, true, false, false, false] rfl rfl (by kernel_rfl) (fun _ _ _ h => h) (Or.inl ⟨by rfl, ?_⟩) ?_ ?_
 rotate_left
 ·intro w'
  go_simp
  with_reducible rfl
 rotate_left
 ·simp only [Act.put, List.setIfInBounds_toArray, List.set_cons_zero, List.set_cons_succ, i64_w, i32_w]
  rfl
 refine take_ (i := 0) (N := some 10) (v := ?_) (a' := ?_) #[true, true, false, false, false] rfl rfl (by kernel_rfl) (fun _ _ _ h => h) (Or.inl ⟨by rfl, ?_⟩) hHeld ?_ ?_
 rotate_left
 ·rintro w' ⟨s0, s1, s2⟩
  go_simp
  with_reducible rfl
 rotate_left
 ·simp only [Act.put, List.setIfInBounds_toArray, List.set_cons_zero, List.set_cons_succ, i64_w, i32_w]
  rfl
 refine one_ (i := 2) (N := some 12) #[true, true, true, false, false] rfl rfl (by kernel_rfl) (by decide) (fun K hK => ?_)
 refine goes_ Tryz.func68 (by kernel_rfl) rfl #[.pointer (some ⟨g493, 0, none⟩)] (by rfl) rfl rfl sqA ?_
 with_reducible refine (spec_l20Deed.calls k g493 t491 t499 t501 t502 t503 w _ ?side1 ?side2 A4.out).mono ?_
 (case side1 => exact Z53 HI493 NB493_489 NB493_490 NB493_500)
 (case side2 => exact Z55 HI493 GE489 GE490 GE500)
 rintro e w17 ⟨rfl, hi, hb, hk⟩
 refine ⟨_, rfl, ?_⟩
 replace BK489 := Aside0.mk (KeepBut.blk hk (g' := gb489) (o := .cells #[.int .i64 0, .int .i64 0, .slice none 0 0] 34 (0, 0)) (sqK BK489) NB489_493.out (by simp))
 replace BK490 := Aside0.mk (KeepBut.blk hk (g' := gb490) (o := .cells #[.int .i64 0, .string (⟨#[]⟩ : ByteArray)] 38 (0, 0)) (sqK BK490) NB490_493.out (by simp))
 replace HO498 := Aside0.mk (Kd.Q_mono (Kd.Q_keep (IsS131.apartQ (show IsS131 w _ g493 t491 t499 from by repeat (first | (with_reducible first | exact HI493.out | apply IsS131.alloc | apply IsS131.drewN | apply IsS131.drew | apply IsS131.set_1 | refine IsS131.far ?_ NB493_489.out _ | refine IsS131.far ?_ NB493_490.out _ | refine IsS131.far ?_ NB493_500.out _) | exact HI493.out)) (Z29 HO498) (by decide)) hk (fun _ h => h.2)) (fun _ h => h.1))
 replace BK500 := Aside0.mk (KeepBut.blk hk (g' := gb500) (o := .cells #[.int .i64 t494, .int .i64 t495, .slice Ao14 t496.length co14] 34 (0, 0)) (sqK BK500) NB500_493.out (by simp))
 replace HB := Aside0.mk (hb)
 replace HI493 := Aside0.mk (hi)
 (try clear hb)
 (try clear hb2)
 (try clear hk)
 (try clear hi)
 refine hK.out _ _ ⟨(blk_cell BK500.out 0).trans rfl, (blk_cell BK500.out 1).trans rfl, (blk_cell BK500.out 2).trans rfl⟩ (fun hHeld => ?_)
 clear hK K
 refine sqN (some 12) ?_
 refine one_ (i := 3) (N := none) #[true, true, true, true, false] rfl rfl (by kernel_rfl) (by decide) (fun K hK => ?_)
 have hs18 : w17.cell? ⟨gb489, 0, none⟩ = some (.int .i64 0) := (blk_cell BK489.out 0).trans rfl
 have hfs18 := blk_frozen BK489.out 0
 have hns18_1 := NB490_489.out
 have hns18_2 := NB500_489.out
 have hms18_1 := NB489_490.out
 have hms18_2 := NB489_500.out
 have hs19 : w17.cell? ⟨gb489, 1, none⟩ = some (.int .i64 0) := (blk_cell BK489.out 1).trans rfl
 have hfs19 := blk_frozen BK489.out 1
 have hns19_1 := NB490_489.out
 have hns19_2 := NB500_489.out
 have hms19_1 := NB489_490.out
 have hms19_2 := NB489_500.out
 have hs20 : w17.cell? ⟨gb489, 2, none⟩ = some (.slice none 0 0) := (blk_cell BK489.out 2).trans rfl
 have hfs20 := blk_frozen BK489.out 2
 have hns20_1 := NB490_489.out
 have hns20_2 := NB500_489.out
 have hms20_1 := NB489_490.out
 have hms20_2 := NB489_500.out
 refine skip_ (w1 := ?_) (by rfl) rfl ?_ ?_
 rotate_left
 ·go_simp
  rfl
 refine hK.out _ _ ⟨((cell_far (p := ⟨gb489, _, none⟩) NB500_489.out _).trans (((cell_far (p := ⟨gb489, _, none⟩) NB500_489.out _).trans (((cell_far (p := ⟨gb489, _, none⟩) NB500_489.out _).trans (hHeld.1)))))), ((cell_far (p := ⟨gb489, _, none⟩) NB500_489.out _).trans (((cell_far (p := ⟨gb489, _, none⟩) NB500_489.out _).trans (((cell_far (p := ⟨gb489, _, none⟩) NB500_489.out _).trans (hHeld.2.1)))))), ((cell_far (p := ⟨gb489, _, none⟩) NB500_489.out _).trans (((cell_far (p := ⟨gb489, _, none⟩) NB500_489.out _).trans (((cell_far (p := ⟨gb489, _, none⟩) NB500_489.out _).trans (hHeld.2.2))))))⟩ (fun hHeld => ?_)
 clear hK K
 refine one_ (i := 4) (N := none) #[true, true, true, true, true] rfl rfl (by kernel_rfl) (by decide) (fun K hK => ?_)
 have hs21 : w17.cell? ⟨gb490, 0, none⟩ = some (.int .i64 0) := (blk_cell BK490.out 0).trans rfl
 have hfs21 := blk_frozen BK490.out 0
 have hns21_0 := NB489_490.out
 have hns21_2 := NB500_490.out
 have hms21_0 := NB490_489.out
 have hms21_2 := NB490_500.out
 have hs22 : w17.cell? ⟨gb490, 1, none⟩ = some (.string (⟨#[]⟩ : ByteArray)) := (blk_cell BK490.out 1).trans rfl
 have hfs22 := blk_frozen BK490.out 1
 have hns22_0 := NB489_490.out
 have hns22_2 := NB500_490.out
 have hms22_0 := NB490_489.out
 have hms22_2 := NB490_500.out
 refine skip_ (w1 := ?_) (by rfl) rfl ?_ ?_
 rotate_left
 ·go_simp
  rfl
 refine hK.out _ _ ⟨((cell_far (p := ⟨gb490, _, none⟩) NB500_490.out _).trans (((cell_far (p := ⟨gb490, _, none⟩) NB500_490.out _).trans (hHeld.1)))), ((cell_far (p := ⟨gb490, _, none⟩) NB500_490.out _).trans (((cell_far (p := ⟨gb490, _, none⟩) NB500_490.out _).trans (hHeld.2.1)))), ((cell_far (p := ⟨gb490, _, none⟩) NB500_490.out _).trans (((cell_far (p := ⟨gb490, _, none⟩) NB500_490.out _).trans (hHeld.2.2))))⟩ (fun hHeld => ?_)
 clear hK K
 refine done_ (by kernel_rfl) ?_
 try go_wp2
 refine bodyPost_ret (results_cc rfl _ _ gb489 gb490 34 38 #[.int .i64 t494, .int .i64 t495, .slice Ao14 t496.length co14] #[.int .i64 t501, .string t502] (0, 0) (0, 0) _ _ rfl (by refine sqFar ?_ NB489_490; refine sqFar ?_ NB489_490; refine sqPut (cs := #[.int .i64 t494, .int .i64 t495, .slice none 0 0]) ?_ 2; refine sqPut (cs := #[.int .i64 t494, .int .i64 0, .slice none 0 0]) ?_ 1; refine sqPut (cs := #[.int .i64 0, .int .i64 0, .slice none 0 0]) ?_ 0; exact sqK BK489) Tryz.underlying34 rfl (by kernel_rfl) rfl (by refine sqPut (cs := #[.int .i64 t501, .string (⟨#[]⟩ : ByteArray)]) ?_ 1; refine sqPut (cs := #[.int .i64 0, .string (⟨#[]⟩ : ByteArray)]) ?_ 0; refine sqFar ?_ NB490_489; refine sqFar ?_ NB490_489; refine sqFar ?_ NB490_489; exact sqK BK490) Tryz.underlying38 rfl (by kernel_rfl)) rfl ?_
 exact ⟨_, Z3, by (with_reducible repeat (first | apply Kd.Q_alloc | apply Kd.Q_drewN | apply Kd.Q_drew)); exact Kd.Q_mono (Kd.Q_far (p := ⟨gb490, 1, none⟩) (Kd.Q_far (p := ⟨gb490, 0, none⟩) (Kd.Q_far (p := ⟨gb489, 2, none⟩) (Kd.Q_far (p := ⟨gb489, 1, none⟩) (Kd.Q_far (p := ⟨gb489, 0, none⟩) (Kd.Q_types (Kd.Q_types HO498.out BK489.out (by decide)) BK490.out (by decide)) (fun _ hk => hk.1.2) (.int .i64 t494)) (fun _ hk => hk.1.2) (.int .i64 t495)) (fun _ hk => hk.1.2) (.slice Ao14 t496.length co14)) (fun _ hk => hk.2) (.int .i64 t501)) (fun _ hk => hk.2) (.string t502)) (fun _ hk => trivial), Z55 HI493 GE489 GE490 GE500⟩

/-! ### laws_sameDesk: function 22 -/
mutual
def laws_sameDesk.j0 : Nat → Bool → Int → Int → List (S31) → Int → Int → List (S31) → Option (Bool)
 | 0, _, _, _, _, _, _, _ => none
 | k + 1, x19, x505000, x505001, x505002, x506000, x506001, x506002 => if x19 = true then (some false) else (laws_sameDesk.l0 k 0 x505000 x505001 x505002 x506000 x506001 x506002)
def laws_sameDesk.l0 : Nat → Int → Int → Int → List (S31) → Int → Int → List (S31) → Option (Bool)
 | 0, _, _, _, _, _, _, _ => none
 | k + 1, x5, x505000, x505001, x505002, x506000, x506001, x506002 => if x5 < (x505002.length : Int) then (if 0 ≤ x5 then (if x5 < (x506002.length : Int) then (if (!(((rd_T31 x505002 x5).f0) == ((rd_T31 x506002 x5).f0)) || (!(((rd_T31 x505002 x5).f1) == ((rd_T31 x506002 x5).f1)))) = true then (some false) else (laws_sameDesk.l0 k (wrap64 (x5 + 1)) x505000 x505001 x505002 x506000 x506001 x506002)) else (none)) else (none)) else (some true)
end
def laws_sameDesk.f (k : Nat) (a0_0 : Int) (a0_1 : Int) (l0_2 : List (S31)) (a1_0 : Int) (a1_1 : Int) (l1_2 : List (S31)) : Option (Bool) := if (!(a0_0 == a1_0) || (!(a0_1 == a1_1))) = true then (laws_sameDesk.j0 k true a0_0 a0_1 l0_2 a1_0 a1_1 l1_2) else (laws_sameDesk.j0 k ((l0_2.length : Int) != (l1_2.length : Int)) a0_0 a0_1 l0_2 a1_0 a1_1 l1_2)
theorem laws_sameDesk.mono_l : ∀ k, (∀ y0 y1 y2 y3 y4 y5 y6, LeO (laws_sameDesk.j0 k y0 y1 y2 y3 y4 y5 y6) (laws_sameDesk.j0 (k + 1) y0 y1 y2 y3 y4 y5 y6)) ∧ (∀ y0 y1 y2 y3 y4 y5 y6, LeO (laws_sameDesk.l0 k y0 y1 y2 y3 y4 y5 y6) (laws_sameDesk.l0 (k + 1) y0 y1 y2 y3 y4 y5 y6))
 | 0 => ⟨fun _ _ _ _ _ _ _ r h => by simp [laws_sameDesk.j0] at h, fun _ _ _ _ _ _ _ r h => by simp [laws_sameDesk.l0] at h⟩
 | k + 1 => by
  obtain ⟨ih0, ih1⟩ := laws_sameDesk.mono_l k
  refine ⟨?_, ?_⟩
  ·intro y0 y1 y2 y3 y4 y5 y6
   unfold laws_sameDesk.j0
   repeat' first
   | (with_reducible exact ih0 _ _ _ _ _ _ _)
   | (with_reducible exact ih1 _ _ _ _ _ _ _)
   | (with_reducible exact LeO.refl _)
   | (with_reducible exact LeO.none _)
   | (with_reducible refine LeO.ite ?_ ?_)
   | (with_reducible refine LeO.bind ?_ (fun _ => ?_))
  ·intro y0 y1 y2 y3 y4 y5 y6
   unfold laws_sameDesk.l0
   repeat' first
   | (with_reducible exact ih0 _ _ _ _ _ _ _)
   | (with_reducible exact ih1 _ _ _ _ _ _ _)
   | (with_reducible exact LeO.refl _)
   | (with_reducible exact LeO.none _)
   | (with_reducible refine LeO.ite ?_ ?_)
   | (with_reducible refine LeO.bind ?_ (fun _ => ?_))
theorem laws_sameDesk.mono : ∀ a0 a1 a2 a3 a4 a5 k, LeO (laws_sameDesk.f k a0 a1 a2 a3 a4 a5) (laws_sameDesk.f (k + 1) a0 a1 a2 a3 a4 a5) := by
 intro a0 a1 a2 a3 a4 a5 k
 obtain ⟨ih0, ih1⟩ := laws_sameDesk.mono_l k
 unfold laws_sameDesk.f
 repeat' first
   | (with_reducible exact ih0 _ _ _ _ _ _ _)
   | (with_reducible exact ih1 _ _ _ _ _ _ _)
   | (with_reducible exact LeO.refl _)
   | (with_reducible exact LeO.none _)
   | (with_reducible refine LeO.ite ?_ ?_)
   | (with_reducible refine LeO.bind ?_ (fun _ => ?_))
set_option maxHeartbeats 8000000 in
set_option maxRecDepth 100000 in
theorem laws_sameDesk.calls (k : Nat) (a0_0 : Int) (a0_1 : Int) (A0_2 : Option Addr) (c0_2 : Nat) (l0_2 : List (S31)) (a1_0 : Int) (a1_1 : Int) (A1_2 : Option Addr) (c1_2 : Nat) (l1_2 : List (S31)) (r : Bool) (w : World) (hr0_2 : Kd.C k31 w A0_2 l0_2.length l0_2) (hc0_2 : l0_2.length ≤ c0_2) (hr1_2 : Kd.C k31 w A1_2 l1_2.length l1_2) (hc1_2 : l1_2.length ≤ c1_2) (h : laws_sameDesk.f k a0_0 a0_1 l0_2 a1_0 a1_1 l1_2 = some r) :
  Calls Tryz.prog 22 #[.agg #[.int .i64 a0_0, .int .i64 a0_1, .slice A0_2 l0_2.length c0_2], .agg #[.int .i64 a1_0, .int .i64 a1_1, .slice A1_2 l1_2.length c1_2]] w fun e w' => e = .returned (.bool r) ∧ Below w.heap.size w w' := by
 have hu34 := Tryz.underlying34
 have hu31 := Tryz.underlying31
 have HR0_2 := Aside0.mk hr0_2
 have HC0_2 := Aside0.mk hc0_2
 clear hr0_2 hc0_2
 have HR1_2 := Aside0.mk hr1_2
 have HC1_2 := Aside0.mk hc1_2
 clear hr1_2 hc1_2
 have HB := Aside0.mk (Below.refl w.heap.size w)
 have H : (if (!(a0_0 == a1_0) || (!(a0_1 == a1_1))) = true then (laws_sameDesk.j0 k true a0_0 a0_1 l0_2 a1_0 a1_1 l1_2) else (laws_sameDesk.j0 k ((l0_2.length : Int) != (l1_2.length : Int)) a0_0 a0_1 l0_2 a1_0 a1_1 l1_2)) = some r := h
 clear h
 have HC3 := Aside0.mk H
 clear H
 go_enter Tryz.func22, Tryz.ntmps22
 go_upto_region 1 with (first | ((with_reducible refine gate_dst (N := 2) rfl ?_); (try (refine gate_guard (by rfl) ?_; dsimp only)); refine sqBox (N := 2) (cs := #[.int .i64 a0_0, .int .i64 a0_1, .slice A0_2 l0_2.length c0_2]) (t := 34) ?_; intro gb504 hg w4 BK504 hb; have GW504 := Aside0.mk ((sqG hg (sqB HB))); have GE504 := GW504; replace HB := sqS (sqB HB) hb; clear hb hg) | ((with_reducible refine gate_dst (N := 3) rfl ?_); (try (refine gate_guard (by rfl) ?_; dsimp only)); refine sqBox (N := 3) (cs := #[.int .i64 a1_0, .int .i64 a1_1, .slice A1_2 l1_2.length c1_2]) (t := 34) ?_; intro gb505 hg w5 BK505 hb; have GW505 := Aside0.mk ((sqG hg (sqB1 HB GE504))); have GE505 := GW505; replace HB := sqS (sqB1 HB GE504) hb; obtain ⟨NB504_505, NB505_504⟩ := sqM hg BK504; replace BK504 := sqT BK504 hb; clear hb hg))
 repeat (go_quiet (first | ((with_reducible refine gate_dst (N := 2) rfl ?_); (try (refine gate_guard (by rfl) ?_; dsimp only)); refine sqBox (N := 2) (cs := #[.int .i64 a0_0, .int .i64 a0_1, .slice A0_2 l0_2.length c0_2]) (t := 34) ?_; intro gb504 hg w4 BK504 hb; have GW504 := Aside0.mk ((sqG hg (sqB HB))); have GE504 := GW504; replace HB := sqS (sqB HB) hb; clear hb hg) | ((with_reducible refine gate_dst (N := 3) rfl ?_); (try (refine gate_guard (by rfl) ?_; dsimp only)); refine sqBox (N := 3) (cs := #[.int .i64 a1_0, .int .i64 a1_1, .slice A1_2 l1_2.length c1_2]) (t := 34) ?_; intro gb505 hg w5 BK505 hb; have GW505 := Aside0.mk ((sqG hg (sqB1 HB GE504))); have GE505 := GW505; replace HB := sqS (sqB1 HB GE504) hb; obtain ⟨NB504_505, NB505_504⟩ := sqM hg BK504; replace BK504 := sqT BK504 hb; clear hb hg)); go_upto_region 1 with (first | ((with_reducible refine gate_dst (N := 2) rfl ?_); (try (refine gate_guard (by rfl) ?_; dsimp only)); refine sqBox (N := 2) (cs := #[.int .i64 a0_0, .int .i64 a0_1, .slice A0_2 l0_2.length c0_2]) (t := 34) ?_; intro gb504 hg w4 BK504 hb; have GW504 := Aside0.mk ((sqG hg (sqB HB))); have GE504 := GW504; replace HB := sqS (sqB HB) hb; clear hb hg) | ((with_reducible refine gate_dst (N := 3) rfl ?_); (try (refine gate_guard (by rfl) ?_; dsimp only)); refine sqBox (N := 3) (cs := #[.int .i64 a1_0, .int .i64 a1_1, .slice A1_2 l1_2.length c1_2]) (t := 34) ?_; intro gb505 hg w5 BK505 hb; have GW505 := Aside0.mk ((sqG hg (sqB1 HB GE504))); have GE505 := GW505; replace HB := sqS (sqB1 HB GE504) hb; obtain ⟨NB504_505, NB505_504⟩ := sqM hg BK504; replace BK504 := sqT BK504 hb; clear hb hg)))
 (try simp only [Act.put, List.setIfInBounds_toArray, List.set_cons_zero, List.set_cons_succ])
 go_cut [19] (fun v19 wc => ∃ (kq : Nat) (x19_2 : Bool), v19 = .bool x19_2 ∧ Aside0 (laws_sameDesk.j0 kq x19_2 a0_0 a0_1 l0_2 a1_0 a1_1 l1_2 = some r) ∧ Aside0 (kq ≤ k) ∧ Aside0 (wc.heap[gb504]? = some (.cells #[.int .i64 a0_0, .int .i64 a0_1, (.slice A0_2 l0_2.length c0_2)] 34 (0, 0))) ∧ Aside0 (wc.heap[gb505]? = some (.cells #[.int .i64 a1_0, .int .i64 a1_1, (.slice A1_2 l1_2.length c1_2)] 34 (0, 0))) ∧ Aside0 (Below w.heap.size w wc))
 case first =>
  have H := HC3.out
  clear HC3
  by_cases c6 : (!(a0_0 == a1_0) || (!(a0_1 == a1_1))) = true
  ·rw [if_pos c6] at H
   have c6b0 : (!(a0_0 == a1_0) || (!(a0_1 == a1_1))) = true := c6
   clear c6
   (first | rw [c6b0] | (simp only [i64_w, i32_w]; rw [c6b0]) | skip)
   have H' := Aside0.mk H
   clear H
   have hnb7 := NB504_505.out
   have hnc7 := NB505_504.out
   obtain ⟨hcz8_0, hcz8_1, hcz8_2, hfz8_0, hfz8_1, hfz8_2⟩ := sqY3 BK504
   obtain ⟨hcz9_0, hcz9_1, hcz9_2, hfz9_0, hfz9_1, hfz9_2⟩ := sqY3 BK505
   go_wp2
   repeat (go_quiet (fail); try go_wp2)
   go_meet
   case rel => exact ⟨_, (true), Z1, H', ⟨Z16⟩, ⟨sqK BK504⟩, ⟨sqK BK505⟩, ⟨sqB2 HB GE504 GE505⟩⟩
  ·rw [if_neg c6] at H
   have c6b0 : (!(a0_0 == a1_0) || (!(a0_1 == a1_1))) = false := by simpa using c6
   clear c6
   (first | rw [c6b0] | (simp only [i64_w, i32_w]; rw [c6b0]) | skip)
   have H' := Aside0.mk H
   clear H
   have hnb10 := NB504_505.out
   have hnc10 := NB505_504.out
   obtain ⟨hcz11_0, hcz11_1, hcz11_2, hfz11_0, hfz11_1, hfz11_2⟩ := sqY3 BK504
   obtain ⟨hcz12_0, hcz12_1, hcz12_2, hfz12_0, hfz12_1, hfz12_2⟩ := sqY3 BK505
   go_wp2
   repeat (go_quiet (fail); try go_wp2)
   go_meet
   case rel => exact ⟨_, (((l0_2.length : Int) != (l1_2.length : Int))), Z1, H', ⟨Z16⟩, ⟨sqK BK504⟩, ⟨sqK BK505⟩, ⟨sqB2 HB GE504 GE505⟩⟩
 case rest =>
  clear HC3
  try clear c1; try clear c2; try clear p2; try clear c6; try clear c6b0; try clear c7; try clear c10; try clear hcz11_0; try clear hcz11_1; try clear hcz11_2; try clear hcz12_0; try clear hcz12_1; try clear hcz12_2; try clear hcz8_0; try clear hcz8_1; try clear hcz8_2; try clear hcz9_0; try clear hcz9_1; try clear hcz9_2; try clear hfz11_0; try clear hfz11_1; try clear hfz11_2; try clear hfz12_0; try clear hfz12_1; try clear hfz12_2; try clear hfz8_0; try clear hfz8_1; try clear hfz8_2; try clear hfz9_0; try clear hfz9_1; try clear hfz9_2
  obtain ⟨kq, x19_2, rfl, HA, HJ2, BK504, BK505, HB⟩ := hcut
  cases kq with
  | zero => exact absurd HA.out (by simp [laws_sameDesk.j0])
  | succ kj2 =>
   have H := HA.out
   clear HA
   simp only [laws_sameDesk.j0] at H
   by_cases c13 : x19_2 = true
   ·subst c13
    rw [if_pos rfl] at H
    obtain rfl := Option.some.inj H
    go_wp2
    repeat (go_quiet (fail); try go_wp2)
    go_ret
    exact ⟨Z3, sqB2 HB GE504 GE505⟩
   ·replace c13 := Bool.eq_false_iff.mpr c13
    subst c13
    rw [if_neg sqF] at H
    have H' := Aside0.mk H
    clear H
    go_wp2
    repeat (go_quiet (fail); try go_wp2)
    go_loopg [5] kj2 (fun kq v5 w' => ∃ (x5_2 : Int), v5 = .int .i64 x5_2 ∧ Aside0 (laws_sameDesk.l0 kq x5_2 a0_0 a0_1 l0_2 a1_0 a1_1 l1_2 = some r) ∧ Aside0 (kq ≤ kj2) ∧ Aside0 (w'.heap[gb504]? = some (.cells #[.int .i64 a0_0, .int .i64 a0_1, (.slice A0_2 l0_2.length c0_2)] 34 (0, 0))) ∧ Aside0 (w'.heap[gb505]? = some (.cells #[.int .i64 a1_0, .int .i64 a1_1, (.slice A1_2 l1_2.length c1_2)] 34 (0, 0))) ∧ Aside0 (Below w.heap.size w w'))
    case atStart => exact ⟨(0), Z1, H', ⟨Nat.le_refl _⟩, ⟨sqK BK504⟩, ⟨sqK BK505⟩, ⟨sqB2 HB GE504 GE505⟩⟩
    case round =>
     clear H'
     try clear c1; try clear c2; try clear p2; try clear c6; try clear c6b0; try clear c7; try clear c10; try clear c13; try clear hcz11_0; try clear hcz11_1; try clear hcz11_2; try clear hcz12_0; try clear hcz12_1; try clear hcz12_2; try clear hcz8_0; try clear hcz8_1; try clear hcz8_2; try clear hcz9_0; try clear hcz9_1; try clear hcz9_2; try clear hfz11_0; try clear hfz11_1; try clear hfz11_2; try clear hfz12_0; try clear hfz12_1; try clear hfz12_2; try clear hfz8_0; try clear hfz8_1; try clear hfz8_2; try clear hfz9_0; try clear hfz9_1; try clear hfz9_2; try clear p2
     obtain ⟨x5_2, rfl, HA, HK2, BK504, BK505, HB⟩ := hrel
     cases gk with
     | zero => exact absurd HA.out (by simp [laws_sameDesk.l0])
     | succ k2 =>
      have H := HA.out
      clear HA
      simp only [laws_sameDesk.l0] at H
      by_cases c14 : x5_2 < (l0_2.length : Int)
      ·rw [if_pos c14] at H
       have c14b0 : decide (x5_2 < (l0_2.length : Int)) = true := decide_eq_true c14
       clear c14
       obtain ⟨c15, H⟩ := sqI H
       have c15b0 : decide (0 ≤ x5_2) = true := decide_eq_true c15
       clear c15
       obtain ⟨c16, H⟩ := sqI H
       have c16b0 : decide (x5_2 < (l1_2.length : Int)) = true := decide_eq_true c16
       clear c16
       by_cases c17 : (!(((rd_T31 l0_2 x5_2).f0) == ((rd_T31 l1_2 x5_2).f0)) || (!(((rd_T31 l0_2 x5_2).f1) == ((rd_T31 l1_2 x5_2).f1)))) = true
       ·rw [if_pos c17] at H
        have c17b0 : (!(((rd_T31 l0_2 x5_2).f0) == ((rd_T31 l1_2 x5_2).f0)) || (!(((rd_T31 l0_2 x5_2).f1) == ((rd_T31 l1_2 x5_2).f1)))) = true := c17
        clear c17
        obtain rfl := Option.some.inj H
        have hnb18 := NB504_505.out
        have hnc18 := NB505_504.out
        obtain ⟨hcz19_0, hcz19_1, hcz19_2, hfz19_0, hfz19_1, hfz19_2⟩ := sqY3 BK504
        have p506 : 0 ≤ (x5_2 : Int) := of_decide_eq_true Z2
        have q506 : x5_2 < (l0_2.length : Int) := of_decide_eq_true Z2
        obtain ⟨ad506, e506, hx506_0, hx506_1⟩ := at_T31 HR0_2.out x5_2 p506 q506
        cases e506
        replace hx506_0 := (HB.out.cell (World.block_lt_of_cell? w _ hx506_0)).trans hx506_0
        replace hx506_1 := (HB.out.cell (World.block_lt_of_cell? w _ hx506_1)).trans hx506_1
        replace p506 := eq_true p506
        replace q506 := eq_true q506
        obtain ⟨hcz20_0, hcz20_1, hcz20_2, hfz20_0, hfz20_1, hfz20_2⟩ := sqY3 BK505
        have p507 : 0 ≤ (x5_2 : Int) := of_decide_eq_true Z2
        have q507 : x5_2 < (l1_2.length : Int) := of_decide_eq_true Z2
        obtain ⟨ad507, e507, hx507_0, hx507_1⟩ := at_T31 HR1_2.out x5_2 p507 q507
        cases e507
        replace hx507_0 := (HB.out.cell (World.block_lt_of_cell? w _ hx507_0)).trans hx507_0
        replace hx507_1 := (HB.out.cell (World.block_lt_of_cell? w _ hx507_1)).trans hx507_1
        replace p507 := eq_true p507
        replace q507 := eq_true q507
        go_wp2
        repeat (go_quiet (fail); try go_wp2)
        go_ret
        exact ⟨Z3, sqB2 HB GE504 GE505⟩
       ·rw [if_neg c17] at H
        have c17b0 : (!(((rd_T31 l0_2 x5_2).f0) == ((rd_T31 l1_2 x5_2).f0)) || (!(((rd_T31 l0_2 x5_2).f1) == ((rd_T31 l1_2 x5_2).f1)))) = false := by simpa using c17
        clear c17
        have H' := Aside0.mk H
        clear H
        have hnb21 := NB504_505.out
        have hnc21 := NB505_504.out
        obtain ⟨hcz22_0, hcz22_1, hcz22_2, hfz22_0, hfz22_1, hfz22_2⟩ := sqY3 BK504
        have p506 : 0 ≤ (x5_2 : Int) := of_decide_eq_true Z2
        have q506 : x5_2 < (l0_2.length : Int) := of_decide_eq_true Z2
        obtain ⟨ad506, e506, hx506_0, hx506_1⟩ := at_T31 HR0_2.out x5_2 p506 q506
        cases e506
        replace hx506_0 := (HB.out.cell (World.block_lt_of_cell? w _ hx506_0)).trans hx506_0
        replace hx506_1 := (HB.out.cell (World.block_lt_of_cell? w _ hx506_1)).trans hx506_1
        replace p506 := eq_true p506
        replace q506 := eq_true q506
        obtain ⟨hcz23_0, hcz23_1, hcz23_2, hfz23_0, hfz23_1, hfz23_2⟩ := sqY3 BK505
        have p507 : 0 ≤ (x5_2 : Int) := of_decide_eq_true Z2
        have q507 : x5_2 < (l1_2.length : Int) := of_decide_eq_true Z2
        obtain ⟨ad507, e507, hx507_0, hx507_1⟩ := at_T31 HR1_2.out x5_2 p507 q507
        cases e507
        replace hx507_0 := (HB.out.cell (World.block_lt_of_cell? w _ hx507_0)).trans hx507_0
        replace hx507_1 := (HB.out.cell (World.block_lt_of_cell? w _ hx507_1)).trans hx507_1
        replace p507 := eq_true p507
        replace q507 := eq_true q507
        go_wp2
        repeat (go_quiet (fail); try go_wp2)
        go_roundg k2
        case measure => have := HJ2.out; have := HK2.out; omega
        case rel => exact ⟨(wrap64 (x5_2 + 1)), Z1, H', ⟨by have := HJ2.out; have := HK2.out; omega⟩, ⟨sqK BK504⟩, ⟨sqK BK505⟩, ⟨sqB2 HB GE504 GE505⟩⟩
      ·rw [if_neg c14] at H
       have c14b0 : decide (x5_2 < (l0_2.length : Int)) = false := decide_eq_false c14
       clear c14
       obtain rfl := Option.some.inj H
       have hnb24 := NB504_505.out
       have hnc24 := NB505_504.out
       obtain ⟨hcz25_0, hcz25_1, hcz25_2, hfz25_0, hfz25_1, hfz25_2⟩ := sqY3 BK504
       go_wp2
       repeat (go_quiet (fail); try go_wp2)
       go_ret
       exact ⟨Z3, sqB2 HB GE504 GE505⟩

/-! ### impl_DeskOk: function 23 -/
def impl_DeskOk.f (k : Nat) (a0_0 : Int) (a0_1 : Int) (l0_2 : List (S31)) : Option (Bool) := (impl_isDesk.f k a0_0 a0_1 l0_2).bind fun t509 => (some t509)
theorem impl_DeskOk.mono : ∀ a0 a1 a2 k, LeO (impl_DeskOk.f k a0 a1 a2) (impl_DeskOk.f (k + 1) a0 a1 a2) := by
 intro a0 a1 a2 k
 unfold impl_DeskOk.f
 repeat' first
   | (with_reducible exact impl_isDesk.mono _ _ _ _)
   | (with_reducible exact LeO.refl _)
   | (with_reducible exact LeO.none _)
   | (with_reducible refine LeO.ite ?_ ?_)
   | (with_reducible refine LeO.bind ?_ (fun _ => ?_))
set_option maxHeartbeats 8000000 in
set_option maxRecDepth 100000 in
theorem impl_DeskOk.calls (k : Nat) (a0_0 : Int) (a0_1 : Int) (A0_2 : Option Addr) (c0_2 : Nat) (l0_2 : List (S31)) (r : Bool) (w : World) (hr0_2 : Kd.C k31 w A0_2 l0_2.length l0_2) (hc0_2 : l0_2.length ≤ c0_2) (h : impl_DeskOk.f k a0_0 a0_1 l0_2 = some r) :
  Calls Tryz.prog 23 #[.agg #[.int .i64 a0_0, .int .i64 a0_1, .slice A0_2 l0_2.length c0_2]] w fun e w' => e = .returned (.bool r) ∧ Below w.heap.size w w' := by
 have hu34 := Tryz.underlying34
 have HR0_2 := Aside0.mk hr0_2
 have HC0_2 := Aside0.mk hc0_2
 clear hr0_2 hc0_2
 have HB := Aside0.mk (Below.refl w.heap.size w)
 have H : ((impl_isDesk.f k a0_0 a0_1 l0_2).bind fun t509 => (some t509)) = some r := h
 clear h
 obtain ⟨t509, A2, H⟩ := sqD H
 obtain rfl := Option.some.inj H
 go_enter Tryz.func23, Tryz.ntmps23
 go_wp2_with (first | ((with_reducible refine gate_dst (N := 1) rfl ?_); refine sqBox (N := 1) (cs := #[.int .i64 a0_0, .int .i64 a0_1, .slice A0_2 l0_2.length c0_2]) (t := 34) ?_; intro gb508 hg w3 BK508 hb; have GW508 := Aside0.mk ((sqG hg (sqB HB))); have GE508 := GW508; replace HB := sqS (sqB HB) hb; clear hb hg; obtain ⟨hcz4_0, hcz4_1, hcz4_2, hfz4_0, hfz4_1, hfz4_2⟩ := sqY3 BK508) | ((with_reducible refine gate_callee (f := 60) rfl ?_); refine goesL_ (some 4) rfl rfl Tryz.func60 (by kernel_rfl) rfl #[.agg #[.int .i64 a0_0, .int .i64 a0_1, .slice A0_2 l0_2.length c0_2]] rfl sqA ?_; (with_reducible refine (impl_isDesk.calls k a0_0 a0_1 _ _ l0_2 t509 _ ?side1 ?side2 A2.out).mono ?_); (case side1 => exact Z6); (case side2 => exact HC0_2.out); rintro e w5 ⟨rfl, hb⟩; refine ⟨_, rfl, ?_⟩; replace BK508 := sqT BK508 hb; replace HB := sqS (sqB1 HB GE508) hb; (try clear hb)))
 go_ret
 exact ⟨Z3, sqB1 HB GE508⟩

/-! ### impl_FractionOk: function 69 -/
def impl_FractionOk.f (k : Nat) (a0_0 : Int) (a0_1 : Int) : Option (Bool) := (impl_isFraction.f k a0_0 a0_1).bind fun t511 => (some t511)
theorem impl_FractionOk.mono : ∀ a0 a1 k, LeO (impl_FractionOk.f k a0 a1) (impl_FractionOk.f (k + 1) a0 a1) := by
 intro a0 a1 k
 unfold impl_FractionOk.f
 repeat' first
   | (with_reducible exact impl_isFraction.mono _ _ _)
   | (with_reducible exact LeO.refl _)
   | (with_reducible exact LeO.none _)
   | (with_reducible refine LeO.ite ?_ ?_)
   | (with_reducible refine LeO.bind ?_ (fun _ => ?_))
set_option maxHeartbeats 8000000 in
set_option maxRecDepth 100000 in
theorem impl_FractionOk.calls (k : Nat) (a0_0 : Int) (a0_1 : Int) (r : Bool) (w : World) (h : impl_FractionOk.f k a0_0 a0_1 = some r) :
  Calls Tryz.prog 69 #[.agg #[.int .i64 a0_0, .int .i64 a0_1]] w fun e w' => e = .returned (.bool r) ∧ Below w.heap.size w w' := by
 have hu31 := Tryz.underlying31
 have HB := Aside0.mk (Below.refl w.heap.size w)
 have H : ((impl_isFraction.f k a0_0 a0_1).bind fun t511 => (some t511)) = some r := h
 clear h
 obtain ⟨t511, A2, H⟩ := sqD H
 obtain rfl := Option.some.inj H
 go_enter Tryz.func69, Tryz.ntmps69
 go_wp2_with (first | ((with_reducible refine gate_dst (N := 1) rfl ?_); refine sqBox (N := 1) (cs := #[.int .i64 a0_0, .int .i64 a0_1]) (t := 31) ?_; intro gb510 hg w3 BK510 hb; have GW510 := Aside0.mk ((sqG hg (sqB HB))); have GE510 := GW510; replace HB := sqS (sqB HB) hb; clear hb hg; obtain ⟨hcz4_0, hcz4_1, hfz4_0, hfz4_1⟩ := sqY2 BK510) | ((with_reducible refine gate_callee (f := 70) rfl ?_); refine goesL_ (some 4) rfl rfl Tryz.func70 (by kernel_rfl) rfl #[.agg #[.int .i64 a0_0, .int .i64 a0_1]] rfl sqA ?_; (with_reducible refine (impl_isFraction.calls k a0_0 a0_1 t511 _ A2.out).mono ?_); rintro e w5 ⟨rfl, hb⟩; refine ⟨_, rfl, ?_⟩; replace BK510 := sqT BK510 hb; replace HB := sqS (sqB1 HB GE510) hb; (try clear hb)))
 go_ret
 exact ⟨Z3, sqB1 HB GE510⟩

/-! ### laws_alive: function 24 -/
def laws_alive.f (k : Nat)  : Option (Bool) := (impl_FractionOk.f k 1 2).bind fun t512 => (if t512 = true then ((impl_FractionOk.f k 2 2).bind fun t513 => (some (!t513))) else (some false))
theorem laws_alive.mono : ∀ k, LeO (laws_alive.f k ) (laws_alive.f (k + 1) ) := by
 intro  k
 unfold laws_alive.f
 repeat' first
   | (with_reducible exact impl_FractionOk.mono _ _ _)
   | (with_reducible exact LeO.refl _)
   | (with_reducible exact LeO.none _)
   | (with_reducible refine LeO.ite ?_ ?_)
   | (with_reducible refine LeO.bind ?_ (fun _ => ?_))
set_option maxHeartbeats 8000000 in
set_option maxRecDepth 100000 in
theorem laws_alive.calls (k : Nat)  (r : Bool) (w : World) (h : laws_alive.f k  = some r) :
  Calls Tryz.prog 24 #[] w fun e w' => e = .returned (.bool r) ∧ Below w.heap.size w w' := by
 have hu31 := Tryz.underlying31
 have HB := Aside0.mk (Below.refl w.heap.size w)
 have H : ((impl_FractionOk.f k 1 2).bind fun t512 => (if t512 = true then ((impl_FractionOk.f k 2 2).bind fun t513 => (some (!t513))) else (some false))) = some r := h
 clear h
 obtain ⟨t512, A1, H⟩ := sqD H
 by_cases c2 : t512 = true
 ·subst c2
  rw [if_pos rfl] at H
  obtain ⟨t513, A3, H⟩ := sqD H
  obtain rfl := Option.some.inj H
  go_enter Tryz.func24, Tryz.ntmps24
  go_wp2_with (first | ((with_reducible refine gate_callee (f := 69) rfl ?_); refine goesL_ (some 2) rfl rfl Tryz.func69 (by kernel_rfl) rfl #[.agg #[.int .i64 1, .int .i64 2]] rfl sqA ?_; (with_reducible refine (impl_FractionOk.calls k 1 2 true _ A1.out).mono ?_); rintro e w4 ⟨rfl, hb⟩; refine ⟨_, rfl, ?_⟩; replace HB := sqS (sqB HB) hb; (try clear hb)) | (go_at_call 69; (with_reducible refine (impl_FractionOk.calls k 2 2 t513 _ A3.out).mono ?_); rintro e w5 ⟨rfl, hb⟩; replace HB := sqS (sqB HB) hb; (try clear hb)))
  go_ret
  exact ⟨Z3, sqB HB⟩
 ·replace c2 := Bool.eq_false_iff.mpr c2
  subst c2
  rw [if_neg sqF] at H
  obtain rfl := Option.some.inj H
  go_enter Tryz.func24, Tryz.ntmps24
  go_wp2_with (first | ((with_reducible refine gate_callee (f := 69) rfl ?_); refine goesL_ (some 2) rfl rfl Tryz.func69 (by kernel_rfl) rfl #[.agg #[.int .i64 1, .int .i64 2]] rfl sqA ?_; (with_reducible refine (impl_FractionOk.calls k 1 2 false _ A1.out).mono ?_); rintro e w6 ⟨rfl, hb⟩; refine ⟨_, rfl, ?_⟩; replace HB := sqS (sqB HB) hb; (try clear hb)))
  go_ret
  exact ⟨Z3, sqB HB⟩

/-! ### impl_backMove: function 73 -/
def impl_backMove.f (a0 : Int) : Option (ByteArray) := if a0 = 84 then (some (⟨#[116]⟩ : ByteArray)) else (if a0 = 116 then (some (⟨#[84]⟩ : ByteArray)) else (some (⟨#[82]⟩ : ByteArray)))
set_option maxHeartbeats 8000000 in
set_option maxRecDepth 100000 in
theorem impl_backMove.calls (a0 : Int) (r : ByteArray) (w : World) (h : impl_backMove.f a0 = some r) :
  Calls Tryz.prog 73 #[.int .u8 a0] w fun e w' => e = .returned (.string r) ∧ Drawn0 w w' := by
 have H : (if a0 = 84 then (some (⟨#[116]⟩ : ByteArray)) else (if a0 = 116 then (some (⟨#[84]⟩ : ByteArray)) else (some (⟨#[82]⟩ : ByteArray)))) = some r := h
 clear h
 by_cases c2 : a0 = 84
 ·rw [if_pos c2] at H
  have c2b0 : (a0 == 84) = true := beq_iff_eq.mpr c2
  have c2b1 : (a0 != 84) = false := bne_eq_false_iff_eq.mpr c2
  clear c2
  obtain rfl := Option.some.inj H
  go_enter Tryz.func73, Tryz.ntmps73
  go_wp2
  go_ret
  exact ⟨Z1, Z58⟩
 ·rw [if_neg c2] at H
  have c2b0 : (a0 == 84) = false := beq_eq_false_iff_ne.mpr c2
  have c2b1 : (a0 != 84) = true := bne_iff_ne.mpr c2
  by_cases c3 : a0 = 116
  ·rw [if_pos c3] at H
   have c3b0 : (a0 == 116) = true := beq_iff_eq.mpr c3
   have c3b1 : (a0 != 116) = false := bne_eq_false_iff_eq.mpr c3
   clear c3
   obtain rfl := Option.some.inj H
   go_enter Tryz.func73, Tryz.ntmps73
   go_wp2
   go_ret
   exact ⟨Z1, Z58⟩
  ·rw [if_neg c3] at H
   have c3b0 : (a0 == 116) = false := beq_eq_false_iff_ne.mpr c3
   have c3b1 : (a0 != 116) = true := bne_iff_ne.mpr c3
   obtain rfl := Option.some.inj H
   go_enter Tryz.func73, Tryz.ntmps73
   go_wp2
   go_ret
   exact ⟨Z1, Z58⟩

/-! ### impl_BackOf: function 26 -/
def impl_BackOf.l0 : Nat → ByteArray → ByteArray → Int → Option (ByteArray)
 | 0, _, _, _ => none
 | k + 1, x0, x3, x4 => if x4 ≥ 0 then (if 0 ≤ x4 then (if x4 < (x0.size : Int) then ((impl_backMove.f (bt x0 x4)).bind fun t515 => (if x3.size + t515.size ≤ 9223372036854775807 then (impl_BackOf.l0 k x0 (x3 ++ t515) (wrap64 (x4 - 1))) else (none))) else (none)) else (none)) else (some x3)
def impl_BackOf.f (k : Nat) (a0 : ByteArray) : Option (ByteArray) := (impl_isDance.f a0).bind fun t514 => (if t514 = true then (impl_BackOf.l0 k a0 (⟨#[]⟩ : ByteArray) (wrap64 ((a0.size : Int) - 1))) else (some (⟨#[]⟩ : ByteArray)))
theorem impl_BackOf.mono_l : ∀ k, (∀ y0 y1 y2, LeO (impl_BackOf.l0 k y0 y1 y2) (impl_BackOf.l0 (k + 1) y0 y1 y2))
 | 0 => fun _ _ _ r h => by simp [impl_BackOf.l0] at h
 | k + 1 => by
  have ih0 := impl_BackOf.mono_l k
  ·intro y0 y1 y2
   unfold impl_BackOf.l0
   repeat' first
   | (with_reducible exact ih0 _ _ _)
   | (with_reducible exact LeO.refl _)
   | (with_reducible exact LeO.none _)
   | (with_reducible refine LeO.ite ?_ ?_)
   | (with_reducible refine LeO.bind ?_ (fun _ => ?_))
theorem impl_BackOf.mono : ∀ a0 k, LeO (impl_BackOf.f k a0) (impl_BackOf.f (k + 1) a0) := by
 intro a0 k
 have ih0 := impl_BackOf.mono_l k
 unfold impl_BackOf.f
 repeat' first
   | (with_reducible exact ih0 _ _ _)
   | (with_reducible exact LeO.refl _)
   | (with_reducible exact LeO.none _)
   | (with_reducible refine LeO.ite ?_ ?_)
   | (with_reducible refine LeO.bind ?_ (fun _ => ?_))
set_option maxHeartbeats 8000000 in
set_option maxRecDepth 100000 in
theorem impl_BackOf.calls (k : Nat) (a0 : ByteArray) (r : ByteArray) (w : World) (h : impl_BackOf.f k a0 = some r) :
  Calls Tryz.prog 26 #[.string a0] w fun e w' => e = .returned (.string r) ∧ Below w.heap.size w w' := by
 have HB := Aside0.mk (Below.refl w.heap.size w)
 have H : ((impl_isDance.f a0).bind fun t514 => (if t514 = true then (impl_BackOf.l0 k a0 (⟨#[]⟩ : ByteArray) (wrap64 ((a0.size : Int) - 1))) else (some (⟨#[]⟩ : ByteArray)))) = some r := h
 clear h
 obtain ⟨t514, A2, H⟩ := sqD H
 by_cases c3 : t514 = true
 ·subst c3
  rw [if_pos rfl] at H
  have H' := Aside0.mk H
  clear H
  go_enter Tryz.func26, Tryz.ntmps26
  go_wp2_with (first | ((with_reducible refine gate_callee (f := 71) rfl ?_); refine goesL_ (some 6) rfl rfl Tryz.func71 (by kernel_rfl) rfl #[.string a0] rfl sqA ?_; (with_reducible refine (impl_isDance.calls a0 true _ A2.out).mono ?_); rintro e w4 ⟨rfl, hb⟩; refine ⟨_, rfl, ?_⟩; replace HB := sqS (sqB HB) hb; (try clear hb)))
  go_loopg [3, 4] k (fun kq v3 v4 w' => ∃ (x3_1 : ByteArray) (x4_1 : Int), v3 = .string x3_1 ∧ v4 = .int .i64 x4_1 ∧ Aside0 (impl_BackOf.l0 kq a0 x3_1 x4_1 = some r) ∧ Aside0 (kq ≤ k) ∧ Aside0 (Below w.heap.size w w'))
  case atStart => exact ⟨((⟨#[]⟩ : ByteArray)), (wrap64 ((a0.size : Int) - 1)), Z1, Z1, H', ⟨Nat.le_refl _⟩, ⟨sqB HB⟩⟩
  case round =>
   clear H'
   try clear c2; try clear p2; try clear c3
   obtain ⟨x3_1, x4_1, rfl, rfl, HA, HK1, HB⟩ := hrel
   cases gk with
   | zero => exact absurd HA.out (by simp [impl_BackOf.l0])
   | succ k1 =>
    have H := HA.out
    clear HA
    simp only [impl_BackOf.l0] at H
    by_cases c5 : x4_1 ≥ 0
    ·rw [if_pos c5] at H
     have c5b0 : decide (0 ≤ x4_1) = true := decide_eq_true c5
     clear c5
     obtain ⟨c6, H⟩ := sqI H
     have c6b0 : decide (0 ≤ x4_1) = true := decide_eq_true c6
     clear c6
     obtain ⟨c7, H⟩ := sqI H
     have c7b0 : decide (x4_1 < (a0.size : Int)) = true := decide_eq_true c7
     clear c7
     obtain ⟨t515, A9, H⟩ := sqD H
     obtain ⟨c10, H⟩ := sqI H
     have c10b0 := eq_true c10
     have c10b1 : decide (x3_1.size + t515.size ≤ 9223372036854775807) = true := decide_eq_true c10
     try have c10b2 : (9223372036854775807 < x3_1.size + t515.size) = False := eq_false (Nat.not_lt.2 c10)
     have H' := Aside0.mk H
     clear H
     have p8 : 0 ≤ (x4_1 : Int) := of_decide_eq_true Z2
     have q8 : x4_1 < (a0.size : Int) := of_decide_eq_true Z2
     have hx8 := bt_at a0 x4_1
     replace p8 := eq_true p8
     replace q8 := eq_true q8
     go_wp2_with (first | ((with_reducible refine gate_callee (f := 73) rfl ?_); refine goesL_ (some 19) rfl rfl Tryz.func73 (by kernel_rfl) rfl #[.int .u8 (bt a0 x4_1)] rfl sqA ?_; (with_reducible refine (impl_backMove.calls (bt a0 x4_1) t515 _ A9.out).mono ?_); rintro e w' ⟨rfl, ⟨nd, rfl⟩⟩; refine ⟨_, rfl, ?_⟩))
     go_roundg k1
     case measure => have := HK1.out; omega
     case rel => exact ⟨(x3_1 ++ t515), (wrap64 (x4_1 - 1)), Z1, Z1, H', ⟨Z4 HK1⟩, ⟨sqB HB⟩⟩
    ·rw [if_neg c5] at H
     have c5b0 : decide (0 ≤ x4_1) = false := decide_eq_false c5
     clear c5
     obtain rfl := Option.some.inj H
     go_wp2
     go_ret
     exact ⟨Z3, sqB HB⟩
 ·replace c3 := Bool.eq_false_iff.mpr c3
  subst c3
  rw [if_neg sqF] at H
  obtain rfl := Option.some.inj H
  go_enter Tryz.func26, Tryz.ntmps26
  go_wp2_with (first | ((with_reducible refine gate_callee (f := 71) rfl ?_); refine goesL_ (some 6) rfl rfl Tryz.func71 (by kernel_rfl) rfl #[.string a0] rfl sqA ?_; (with_reducible refine (impl_isDance.calls a0 false _ A2.out).mono ?_); rintro e w11 ⟨rfl, hb⟩; refine ⟨_, rfl, ?_⟩; replace HB := sqS (sqB HB) hb; (try clear hb)))
  go_ret
  exact ⟨Z3, sqB HB⟩

end Go.Proofs.YtofmlbgfcohhoaaGreatDoor.PFnDeskDo
