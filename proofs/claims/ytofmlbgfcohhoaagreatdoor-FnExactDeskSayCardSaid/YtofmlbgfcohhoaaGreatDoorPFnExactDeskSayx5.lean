import Derived.Test.YtofmlbgfcohhoaaGreatDoorPFnExactDeskSayx4
set_option maxHeartbeats 8000000
set_option maxRecDepth 100000
namespace Go.Proofs.YtofmlbgfcohhoaaGreatDoor.PFnExactDeskSay
open Go.RowKit Go.Proofs.YtofmlbgfcohhoaaGreatDoorW.PrintWords Go.Proofs.YtofmlbgfcohhoaaGreatDoorW.PrintLast Go.Proofs.YtofmlbgfcohhoaaGreatDoorW.PrintMore Go.Proofs.YtofmlbgfcohhoaaGreatDoor.Lib Go.Proofs.Tryz
attribute [local go_sem] max2_int min2_int max_two min_two max_three min_three max_four min_four   -- for this text's walks alone
set_option linter.unusedVariables false
set_option linter.unusedSimpArgs false

/-! ### spec_l11Copy: function 56 -/
def spec_l11Copy.f (a0_0 : Int) (a0_1 : Int) (l0_2 : List (S31)) : Option (Int × Int × (List (S31))) := (some (([] : List (S31)) : List (S31))).bind fun y0 => (if y0.length + l0_2.length < 8796093022208 then (some (a0_0, a0_1, (y0 ++ l0_2))) else (none))
def spec_l11Copy.T1 : Bool × List (List Nat × List Nat) := (true, [([], []), ([0], [0]), ([], []), ([], []), ([3], [3]), ([2, 4], [2, 4]), ([1, 5], [1, 5]), ([6, 5, 0, 1, 2, 3, 4, 5, 6], [6])])
def spec_l11Copy.B1 : List Nat := [0, 1, 0, 0, 8, 28, 63, 127]
theorem spec_l11Copy.tab1 : rtab .any (opsOf f56 1) = spec_l11Copy.T1 := by kernel_rfl
theorem spec_l11Copy.bits1 : waitsOk spec_l11Copy.T1.2 spec_l11Copy.B1 = true := by kernel_rfl
theorem spec_l11Copy.calls (a0_0 : Int) (a0_1 : Int) (A0_2 : Option Addr) (c0_2 : Nat) (l0_2 : List (S31)) (r1 : Int) (r2 : Int) (r3 : List (S31)) (w : World) (hr0_2 : Kd.C k31 w A0_2 l0_2.length l0_2) (hc0_2 : l0_2.length ≤ c0_2) (H : spec_l11Copy.f a0_0 a0_1 l0_2 = some (r1, r2, r3)) :
  Calls prog 56 #[.agg #[.int .i64 a0_0, .int .i64 a0_1, .slice A0_2 l0_2.length c0_2]] w fun e w' => ∃ v2_ : Value, e = .returned (.agg #[.int .i64 r1, .int .i64 r2, v2_]) ∧ Kd.R k31 31 w' w.heap.size (fun _ => True) v2_ r3 ∧ Below w.heap.size w w' := by
 have hu34 := underlying34
 have hu31 := underlying31
 have HR0_2 := sqa hr0_2
 have HC0_2 := sqa hc0_2
 clear hr0_2 hc0_2
 have HB := sqh w
 unfold spec_l11Copy.f at H
 obtain ⟨y0, hy0⟩ : ∃ y_ : List (S31), y_ = (([] : List (S31))) := ⟨_, rfl⟩
 replace H : (if y0.length + l0_2.length < 8796093022208 then (some (a0_0, a0_1, (y0 ++ l0_2))) else (none)) = some (r1, r2, r3) := sqW hy0 H
 have Ny0 := sqa hy0
 clear hy0
 obtain ⟨c2, H⟩ := sqI H
 have LMc2 := sqa c2
 clear c2
 obtain ⟨y1, hy1⟩ : ∃ y_ : List (S31), y_ = (y0 ++ l0_2) := ⟨_, rfl⟩
 replace H : (some (a0_0, a0_1, y1)) = some (r1, r2, r3) := sqW hy1 H
 have Ny1 := sqa hy1
 clear hy1
 obtain ⟨rfl, rfl, rfl⟩ := sqO3 H
 go_enter func56, ntmps56
 try go_wp2_with (first | ((with_reducible refine sqd 1 rfl ?_); refine sqBx w (sqB HB) (cs := #[.int .i64 a0_0, .int .i64 a0_1, .slice A0_2 l0_2.length c0_2]) (t := 34) ?_; intro g0 hg w3 B0 E0 HB hb; clear hb hg) | ((with_reducible refine sqd 2 rfl ?_); refine sqBx w (sqB1 HB E0) (cs := #[.int .i64 0, .int .i64 0, .slice none 0 0]) (t := 34) ?_; intro g1 hg w4 B2 E1 HB hb; obtain ⟨N0, N1⟩ := sqM hg B0; replace B0 := sqT B0 hb; clear hb hg))
 replace B0 := sqa (blk_drew B0.1)
 replace B2 := sqa (blk_drew B2.1)
 replace HB := sqa (below_drew1 HB.1)
 refine start_ (n := 8) (S := fun w' => w'.cell? ⟨g0, 0, none⟩ = some (.int .i64 a0_0) ∧ w'.cell? ⟨g0, 1, none⟩ = some (.int .i64 a0_1) ∧ w'.cell? ⟨g0, 2, none⟩ = some (.slice A0_2 l0_2.length c0_2)) (ds := []) #[false, false, false, false, false, false, false, false] (by kernel_rfl) rfl rfl (sqk1 B0) (fun hHeld => ?_); refine with_tabW spec_l11Copy.tab1 spec_l11Copy.bits1 (fun HT_ HW_ => ?_)
 generalize w4.drew = w5 at B0 B2 HB hHeld ⊢
 refine sqP 0 (some 3) (h := ?_)
 refine sqP 3 (some 6) (h := ?_)
 refine sqQ 1 (some 4) hHeld (h := ?_)
 refine sqQ 4 (some 7) hHeld (h := ?_)
 refine one_ (i := 2) (N := some 5) #[true, true, true, true, true, false, false, false] rfl rfl (one_of HT_.out (by kernel_rfl)) (by decide) (fun K hK => ?_)
 refine Kd.R_lit_step k31 _ 31 ?hg (N := 5) ?hd (xs := ([] : List (S31))) (inner := []) (ok := fun _ => True) (okp := fun _ => True) ?hr ?hp (fun _ hk => hk) trivial (Below.refl _ _) (Nat.le_refl _) (by simp) ?_; (case hd => rfl); (case hg => rfl); (case hr => exact Z10); (case hp => exact Z36)
 intro v0 w6 ho7 hb hg_ hnew_
 clear hg_ hnew_
 (first | rw [← Ny0.out] at ho7 | (simp only [Int.reduceToNat] at ho7; rw [← Ny0.out] at ho7))
 have O0 := sqL ho7 (sqB2 HB E0 E1)
 replace B0 := sqT B0 hb
 replace B2 := sqT B2 hb
 replace HB := sqS (sqB2 HB E0 E1) hb
 clear hb ho7
 refine hK.out _ _ (sqk1 B0) (fun hHeld => ?_)
 clear hK K
 refine sqN (some 5) ?_
 refine one_ (i := 5) (N := some 8) #[true, true, true, true, true, true, false, false] rfl rfl (one_of HT_.out (by kernel_rfl)) (by decide) (fun K hK => ?_)
 refine Kd.R_append_rows_step k31 (w0 := w) w.heap.size (by rfl) (.tmp 5) (.tmp 7) 32 31 (.agg #[(.int .i64 0), (.int .i64 0)]) 16 rfl underlying32 info31 rfl (by decide) (by omega) v0 y0 l0_2 _ _ _ (fun _ => True) (fun _ => False) rfl rfl ?aO ?aR (fun _ _ h => h) (fun _ h => h.elim) ?aF ?aB ?aS ?aL ?_
 (case aR => exact Z2)
 (case aB => exact (sqB2 HB E0 E1))
 (case aF => exact Z45)
 (case aO => exact (sqR O0))
 (case aS => exact (below_size (sqB2 HB E0 E1)))
 (case aL => exact Z17 LMc2)
 intro v1 w8 ho hb hg hat
 rw [← Ny1.out] at ho
 replace B0 := sqa (blk_grown (sqK B0) hg (Kd.R_ne O0.1 B0.1 (by decide)))
 replace B2 := sqa (blk_grown (sqK B2) hg (Kd.R_ne O0.1 B2.1 (by decide)))
 replace HB := sqa (hb)
 have O1 := sqa (ho)
 clear O0
 clear ho hb hg hat
 obtain ⟨Ao9, co9, eo9⟩ := Kd.R_slice O1.1
 (first | subst eo9 | (injection eo9 with f1_ f2_ f3_; have f4_ := f1_.symm; have f5_ := f3_.symm; clear f1_ f2_ f3_; subst f4_; subst f5_))
 refine hK.out _ _ (sqk1 B0) (fun hHeld => ?_)
 clear hK K
 refine sqN (some 8) ?_
 refine sqP 6 (some 9) (h := ?_)
 refine one_ (i := 7) (N := none) #[true, true, true, true, true, true, true, true] rfl rfl (one_of HT_.out (by kernel_rfl)) (by decide) (fun K hK => ?_)
 have hs10 : w8.cell? ⟨g1, 0, none⟩ = some (.int .i64 0) := (blk_cell B2.1 0).trans rfl
 have hfs10 := blk_frozen B2.1 0
 have hns10_0 := N0.1
 have hms10_0 := N1.1
 have hs11 : w8.cell? ⟨g1, 1, none⟩ = some (.int .i64 0) := (blk_cell B2.1 1).trans rfl
 have hfs11 := blk_frozen B2.1 1
 have hs12 : w8.cell? ⟨g1, 2, none⟩ = some (.slice none 0 0) := (blk_cell B2.1 2).trans rfl
 have hfs12 := blk_frozen B2.1 2
 refine skip_ (w1 := ?_) (by rfl) rfl ?_ ?_
 rotate_left
 ·go_simp
  rfl
 refine hK.out _ _ (sql1 N0 hHeld) (fun hHeld => ?_)
 clear hK K
 refine done_ (done_of HT_.out (by kernel_rfl)) ?_
 try go_wp2
 refine bodyPost_ret (results_cell_row rfl _ _ g1 34 #[.int .i64 a0_0, .int .i64 a0_1, .slice Ao9 y1.length co9] (0, 0) _ rfl (Z52 B2) underlying34 rfl (by kernel_rfl)) rfl ?_
 exact ⟨_, Z16, by (with_reducible repeat (first | apply Kd.R_alloc | apply Kd.R_drewN | apply Kd.R_drew)); exact Kd.R_mono (sqr3 O1.1 B2.1) (fun _ hk => trivial), sqB2 HB E0 E1⟩

/-! ### spec_PlusOf: function 127 -/
def spec_PlusOf.f (k : Nat) (a0_0 : Int) (a0_1 : Int) (a1 : Int) : Option (Int × Int × Bool) := (spec_FractionOk.f k a0_0 a0_1).bind fun t0 => (if t0 = true then ((spec_l1In.f a1 (-1000000) 1000000).bind fun t1 => (if t1 = true then ((spec_FractionOk.f k (wrap64 (a0_0 + (wrap64 (a1 * a0_1)))) a0_1).bind fun t2 => (if t2 = true then (some (wrap64 (a0_0 + (wrap64 (a1 * a0_1))), a0_1, true)) else (some (0, 0, false)))) else (some (0, 0, false)))) else (some (0, 0, false)))
theorem spec_PlusOf.mono : ∀ a0 a1 a2 k, LeO (spec_PlusOf.f k a0 a1 a2) (spec_PlusOf.f (k + 1) a0 a1 a2) := by
 intro a0 a1 a2 k
 unfold spec_PlusOf.f
 repeat' (with_reducible first | exact spec_FractionOk.mono _ _ _ | exact LeO.refl _ | exact LeO.none _ | refine LeO.ite ?_ ?_ | refine LeO.bind ?_ fun _ => ?_)
theorem spec_PlusOf.calls (k : Nat) (a0_0 : Int) (a0_1 : Int) (a1 : Int) (r1 : Int) (r2 : Int) (r3 : Bool) (w : World) (H : spec_PlusOf.f k a0_0 a0_1 a1 = some (r1, r2, r3)) :
  Calls prog 127 #[.agg #[.int .i64 a0_0, .int .i64 a0_1], .int .i64 a1] w fun e w' => e = .returned (.tuple #[.agg #[.int .i64 r1, .int .i64 r2], .bool r3]) ∧ Below w.heap.size w w' := by
 have hu31 := underlying31
 have HB := sqh w
 unfold spec_PlusOf.f at H
 obtain ⟨t0, A3, H⟩ := sqD H
 go_enter func127, ntmps127
 go_upto_region 2 with (first | ((with_reducible refine sqd 2 rfl ?_); refine sqBx w (sqB HB) (cs := #[.int .i64 a0_0, .int .i64 a0_1]) (t := 31) ?_; intro g0 hg w9 B0 E0 HB hb; clear hb hg) | ((with_reducible refine sqd 4 rfl ?_); refine sqBx w (sqB1 HB E0) (cs := #[.int .i64 0, .int .i64 0]) (t := 31) ?_; intro g1 hg w10 B2 E1 HB hb; obtain ⟨N0, N1⟩ := sqM hg B0; replace B0 := sqT B0 hb; clear hb hg; have := N0.1; have := N1.1; obtain ⟨_, _, _, _⟩ := sqY2 B0) | ((with_reducible refine sqd 6 rfl ?_); refine sqBx w (sqB2 HB E0 E1) (cs := #[.int .i64 0, .int .i64 0]) (t := 31) ?_; intro g2 hg w13 B9 E2 HB hb; obtain ⟨N2, N3⟩ := sqM hg B0; replace B0 := sqT B0 hb; obtain ⟨N4, N5⟩ := sqM hg B2; replace B2 := sqT B2 hb; clear hb hg; have := N3.1; have := N2.1; have := N5.1; have := N4.1; obtain ⟨_, _, _, _⟩ := sqY2 B9; obtain ⟨_, _, _, _⟩ := sqY2 B0))
 by_cases c4 : t0 = true
 ·subst c4
  rw [if_pos rfl] at H
  obtain ⟨t1, A5, H⟩ := sqD H
  by_cases c6 : t1 = true
  ·subst c6
   rw [if_pos rfl] at H
   obtain ⟨t2, A7, H⟩ := sqD H
   by_cases c8 : t2 = true
   ·subst c8
    rw [if_pos rfl] at H
    obtain ⟨rfl, rfl, rfl⟩ := sqO3 H
    go_wp2_with (first | ((with_reducible refine sqc 77 rfl ?_); refine sqC (some 18) func77 #[.agg #[.int .i64 a0_0, .int .i64 a0_1]] ?_; (with_reducible refine (spec_FractionOk.calls k a0_0 a0_1 true _ A3.1).mono ?_); refine sqV fun w18 hb => ?_; replace B0 := sqH N2 B0 hb; replace B2 := sqH N4 B2 hb; replace B9 := sqa (blk_below (g := g2) (o := .cells #[.int .i64 (wrap64 (a0_0 + (wrap64 (a1 * a0_1)))), .int .i64 a0_1] 31 (0, 0)) (Z53 B9) hb); replace HB := sqS (sqB3 HB E0 E1 E2) hb; (try clear hb)) | (go_at_call 101; (with_reducible refine (spec_l1In.calls a1 (-1000000) 1000000 true _ A5.1).mono ?_); rintro e w' ⟨rfl, ⟨nd, rfl⟩⟩; (try (rw [drewN_self w18]; generalize hq_ : World.drewN w18 _ = w18; have n0_ : Aside0 (w18.heap[g0]? = some (.cells #[.int .i64 a0_0, .int .i64 a0_1] 31 (0, 0))) := ⟨Z35 B0⟩; have n1_ : Aside0 (w18.heap[g1]? = some (.cells #[.int .i64 0, .int .i64 0] 31 (0, 0))) := ⟨Z35 B2⟩; have n2_ : Aside0 (w18.heap[g2]? = some (.cells #[.int .i64 (wrap64 (a0_0 + (wrap64 (a1 * a0_1)))), .int .i64 a0_1] 31 (0, 0))) := ⟨Z35 B9⟩; have n3_ : Aside0 (Below w.heap.size w w18) := ⟨by rw [← hq_]; exact (sqB3 HB E0 E1 E2)⟩; clear B0 B2 B9 HB hq_; have B0 := n0_; have B2 := n1_; have B9 := n2_; have HB := n3_; clear n0_ n1_ n2_ n3_)); have hcz19_0 : w18.cell? ⟨g2, 0, none⟩ = some (.int .i64 (wrap64 (a0_0 + (wrap64 (a1 * a0_1))))) := (blk_cell B9.1 0).trans rfl; have hcz19_1 := sqZ B9 1 (.int .i64 a0_1); have hfz19_0 := blk_frozen B9.1 0; have hfz19_1 := blk_frozen B9.1 1) | (go_at_call 77; (with_reducible refine (spec_FractionOk.calls k (wrap64 (a0_0 + (wrap64 (a1 * a0_1)))) a0_1 true _ A7.1).mono ?_); rintro e w20 ⟨rfl, hb⟩; replace B0 := sqT B0 hb; replace B2 := sqT B2 hb; replace B9 := sqT B9 hb; replace HB := sqS (sqB3 HB E0 E1 E2) hb; (try clear hb); have hcz21_0 : w20.cell? ⟨g2, 0, none⟩ = some (.int .i64 (wrap64 (a0_0 + (wrap64 (a1 * a0_1))))) := (blk_cell B9.1 0).trans rfl; have hcz21_1 := sqZ B9 1 (.int .i64 a0_1); have hfz21_0 := blk_frozen B9.1 0; have hfz21_1 := blk_frozen B9.1 1; obtain ⟨_, _, _, _⟩ := sqY2 B2))
    refine sqE g1 31 #[.int .i64 (wrap64 (a0_0 + (wrap64 (a1 * a0_1)))), .int .i64 a0_1] (Z53 B2) underlying31 ?_
    exact ⟨Z16, sqB3 HB E0 E1 E2⟩
   obtain rfl := sqb c8
   rw [if_neg sqF] at H
   obtain ⟨rfl, rfl, rfl⟩ := sqO3 H
   go_wp2_with (first | ((with_reducible refine sqc 77 rfl ?_); refine sqC (some 18) func77 #[.agg #[.int .i64 a0_0, .int .i64 a0_1]] ?_; (with_reducible refine (spec_FractionOk.calls k a0_0 a0_1 true _ A3.1).mono ?_); refine sqV fun w32 hb => ?_; replace B0 := sqH N2 B0 hb; replace B2 := sqH N4 B2 hb; replace B9 := sqa (blk_below (g := g2) (o := .cells #[.int .i64 (wrap64 (a0_0 + (wrap64 (a1 * a0_1)))), .int .i64 a0_1] 31 (0, 0)) (Z53 B9) hb); replace HB := sqS (sqB3 HB E0 E1 E2) hb; (try clear hb)) | (go_at_call 101; (with_reducible refine (spec_l1In.calls a1 (-1000000) 1000000 true _ A5.1).mono ?_); rintro e w' ⟨rfl, ⟨nd, rfl⟩⟩; (try (rw [drewN_self w32]; generalize hq_ : World.drewN w32 _ = w32; have n0_ : Aside0 (w32.heap[g0]? = some (.cells #[.int .i64 a0_0, .int .i64 a0_1] 31 (0, 0))) := ⟨Z35 B0⟩; have n1_ : Aside0 (w32.heap[g1]? = some (.cells #[.int .i64 0, .int .i64 0] 31 (0, 0))) := ⟨Z35 B2⟩; have n2_ : Aside0 (w32.heap[g2]? = some (.cells #[.int .i64 (wrap64 (a0_0 + (wrap64 (a1 * a0_1)))), .int .i64 a0_1] 31 (0, 0))) := ⟨Z35 B9⟩; have n3_ : Aside0 (Below w.heap.size w w32) := ⟨by rw [← hq_]; exact (sqB3 HB E0 E1 E2)⟩; clear B0 B2 B9 HB hq_; have B0 := n0_; have B2 := n1_; have B9 := n2_; have HB := n3_; clear n0_ n1_ n2_ n3_)); have hcz33_0 : w32.cell? ⟨g2, 0, none⟩ = some (.int .i64 (wrap64 (a0_0 + (wrap64 (a1 * a0_1))))) := (blk_cell B9.1 0).trans rfl; have hcz33_1 := sqZ B9 1 (.int .i64 a0_1); have hfz33_0 := blk_frozen B9.1 0; have hfz33_1 := blk_frozen B9.1 1) | (go_at_call 77; (with_reducible refine (spec_FractionOk.calls k (wrap64 (a0_0 + (wrap64 (a1 * a0_1)))) a0_1 false _ A7.1).mono ?_); rintro e w34 ⟨rfl, hb⟩; replace B0 := sqT B0 hb; replace B2 := sqT B2 hb; replace B9 := sqT B9 hb; replace HB := sqS (sqB3 HB E0 E1 E2) hb; (try clear hb); obtain ⟨_, _, _, _⟩ := sqY2 B2))
   refine sqE g1 31 #[.int .i64 0, .int .i64 0] (Z54 B2) underlying31 ?_
   exact ⟨Z16, sqB3 HB E0 E1 E2⟩
  obtain rfl := sqb c6
  rw [if_neg sqF] at H
  obtain ⟨rfl, rfl, rfl⟩ := sqO3 H
  go_wp2_with (first | ((with_reducible refine sqc 77 rfl ?_); refine sqC (some 18) func77 #[.agg #[.int .i64 a0_0, .int .i64 a0_1]] ?_; (with_reducible refine (spec_FractionOk.calls k a0_0 a0_1 true _ A3.1).mono ?_); refine sqV fun w45 hb => ?_; replace B0 := sqH N2 B0 hb; replace B2 := sqH N4 B2 hb; replace B9 := sqa (blk_below (g := g2) (o := .cells #[.int .i64 (wrap64 (a0_0 + (wrap64 (a1 * a0_1)))), .int .i64 a0_1] 31 (0, 0)) (Z53 B9) hb); replace HB := sqS (sqB3 HB E0 E1 E2) hb; (try clear hb)) | (go_at_call 101; (with_reducible refine (spec_l1In.calls a1 (-1000000) 1000000 false _ A5.1).mono ?_); rintro e w' ⟨rfl, ⟨nd, rfl⟩⟩; (try (rw [drewN_self w45]; generalize hq_ : World.drewN w45 _ = w45; have n0_ : Aside0 (w45.heap[g0]? = some (.cells #[.int .i64 a0_0, .int .i64 a0_1] 31 (0, 0))) := ⟨Z35 B0⟩; have n1_ : Aside0 (w45.heap[g1]? = some (.cells #[.int .i64 0, .int .i64 0] 31 (0, 0))) := ⟨Z35 B2⟩; have n2_ : Aside0 (w45.heap[g2]? = some (.cells #[.int .i64 (wrap64 (a0_0 + (wrap64 (a1 * a0_1)))), .int .i64 a0_1] 31 (0, 0))) := ⟨Z35 B9⟩; have n3_ : Aside0 (Below w.heap.size w w45) := ⟨by rw [← hq_]; exact (sqB3 HB E0 E1 E2)⟩; clear B0 B2 B9 HB hq_; have B0 := n0_; have B2 := n1_; have B9 := n2_; have HB := n3_; clear n0_ n1_ n2_ n3_)); obtain ⟨_, _, _, _⟩ := sqY2 B2))
  refine sqE g1 31 #[.int .i64 0, .int .i64 0] (Z54 B2) underlying31 ?_
  exact ⟨Z16, sqB3 HB E0 E1 E2⟩
 obtain rfl := sqb c4
 rw [if_neg sqF] at H
 obtain ⟨rfl, rfl, rfl⟩ := sqO3 H
 go_wp2_with (first | ((with_reducible refine sqc 77 rfl ?_); refine sqC (some 18) func77 #[.agg #[.int .i64 a0_0, .int .i64 a0_1]] ?_; (with_reducible refine (spec_FractionOk.calls k a0_0 a0_1 false _ A3.1).mono ?_); refine sqV fun w56 hb => ?_; replace B0 := sqH N2 B0 hb; replace B2 := sqH N4 B2 hb; replace B9 := sqa (blk_below (g := g2) (o := .cells #[.int .i64 (wrap64 (a0_0 + (wrap64 (a1 * a0_1)))), .int .i64 a0_1] 31 (0, 0)) (Z53 B9) hb); replace HB := sqS (sqB3 HB E0 E1 E2) hb; (try clear hb); obtain ⟨_, _, _, _⟩ := sqY2 B2))
 refine sqE g1 31 #[.int .i64 0, .int .i64 0] (Z54 B2) underlying31 ?_
 exact ⟨Z16, sqB3 HB E0 E1 E2⟩

/-! ### spec_LowestOf: function 136 -/
def spec_LowestOf.j0 : Nat → Int → Int → Bool → Option (Int × Int × Bool)
 | 0, _, _, _ => none
 | k + 1, x0, x1, x22 => if x22 = true then (some (0, 0, false)) else ((spec_l1Common.f k x0 x1).bind fun t165 => (if x1 < 0 then (if (wrap64 (-t165)) = 0 then (none) else (some (wrap64 (Int.tdiv x0 (wrap64 (-t165))), wrap64 (Int.tdiv x1 (wrap64 (-t165))), true))) else (if x1 = 0 then (if x0 < 0 then (if (wrap64 (-t165)) = 0 then (none) else (some (wrap64 (Int.tdiv x0 (wrap64 (-t165))), wrap64 (Int.tdiv x1 (wrap64 (-t165))), true))) else (if t165 = 0 then (none) else (some (wrap64 (Int.tdiv x0 t165), wrap64 (Int.tdiv x1 t165), true)))) else (if t165 = 0 then (none) else (some (wrap64 (Int.tdiv x0 t165), wrap64 (Int.tdiv x1 t165), true))))))
def spec_LowestOf.f (k : Nat) (a0 : Int) (a1 : Int) : Option (Int × Int × Bool) := (spec_l1In.f a0 (-1000000) 1000000).bind fun t0 => (if t0 = true then ((spec_l1In.f a1 (-1000000) 1000000).bind fun t1 => (if t1 = true then (if a0 = 0 then (spec_LowestOf.j0 k a0 a1 (a1 == 0)) else (spec_LowestOf.j0 k a0 a1 false)) else (spec_LowestOf.j0 k a0 a1 true))) else (spec_LowestOf.j0 k a0 a1 true))
abbrev spec_LowestOf.M (k : Nat) : Prop := (∀ y0 y1 y2, LeO (spec_LowestOf.j0 k y0 y1 y2) (spec_LowestOf.j0 (k + 1) y0 y1 y2))
theorem spec_LowestOf.mono_t : ∀ k, spec_LowestOf.M k → spec_LowestOf.M (k + 1) ∧ ∀ a0 a1, LeO (spec_LowestOf.f k a0 a1) (spec_LowestOf.f (k + 1) a0 a1) := by
  rintro k ih0
  refine ⟨?_, ?_⟩ <;> (try unfold spec_LowestOf.M) <;> intros <;> (first | unfold spec_LowestOf.j0 | unfold spec_LowestOf.f) <;> repeat' (with_reducible first | exact ih0 _ _ _ | exact spec_l1Common.mono _ _ _ | exact LeO.refl _ | exact LeO.none _ | refine LeO.ite ?_ ?_ | refine LeO.bind ?_ fun _ => ?_)
theorem spec_LowestOf.mono_l : ∀ k, spec_LowestOf.M k
 | 0 => fun _ _ _ r h => by simp [spec_LowestOf.j0] at h
 | k + 1 => (spec_LowestOf.mono_t k (spec_LowestOf.mono_l k)).1
theorem spec_LowestOf.mono a0 a1 k : LeO (spec_LowestOf.f k a0 a1) (spec_LowestOf.f (k + 1) a0 a1) := (spec_LowestOf.mono_t k (spec_LowestOf.mono_l k)).2 a0 a1
def spec_LowestOf.T6 : Bool × List (List Nat × List Nat) := (true, [([], []), ([], []), ([0, 1], [0, 1]), ([], []), ([], []), ([3, 4], [3, 4]), ([2, 5], [2, 5]), ([6, 0, 1, 2, 3, 4, 5, 6], [6]), ([7, 0, 1, 2, 3, 4, 5, 6, 7], [])])
def spec_LowestOf.B6 : List Nat := [0, 0, 3, 0, 0, 24, 63, 127, 255]
theorem spec_LowestOf.tab6 : rtab .any (opsOf f136 6) = spec_LowestOf.T6 := by kernel_rfl
theorem spec_LowestOf.bits6 : waitsOk spec_LowestOf.T6.2 spec_LowestOf.B6 = true := by kernel_rfl
theorem spec_LowestOf.calls (k : Nat) (a0 : Int) (a1 : Int) (r1 : Int) (r2 : Int) (r3 : Bool) (w : World) (H : spec_LowestOf.f k a0 a1 = some (r1, r2, r3)) :
  Calls prog 136 #[.int .i64 a0, .int .i64 a1] w fun e w' => e = .returned (.tuple #[.agg #[.int .i64 r1, .int .i64 r2], .bool r3]) ∧ Below w.heap.size w w' := by
 have hu31 := underlying31
 have HB := sqh w
 unfold spec_LowestOf.f at H
 have HC3 := sqa H
 clear H
 go_enter func136, ntmps136
 go_upto_region 1 with (first | ((with_reducible refine sqd 4 rfl ?_); refine sqBx w (sqB HB) (cs := #[.int .i64 0, .int .i64 0]) (t := 31) ?_; intro g0 hg w4 B0 E0 HB hb; clear hb hg))
 (try simp only [Act.put, List.setIfInBounds_toArray, List.set_cons_zero, List.set_cons_succ])
 go_cut [22] (fun v22 wc => ∃ (kq : Nat) (x22_2 : Bool), v22 = .bool x22_2 ∧ Aside0 (spec_LowestOf.j0 kq a0 a1 x22_2 = some (r1, r2, r3)) ∧ Aside0 (kq ≤ k) ∧ Aside0 (wc.heap[g0]? = some (.cells #[.int .i64 0, .int .i64 0] 31 (0, 0))) ∧ Aside0 (Below w.heap.size w wc))
 case first =>
  have H := HC3.1
  clear HC3
  obtain ⟨t0, A5, H⟩ := sqD H
  by_cases c6 : t0 = true
  ·subst c6
   rw [if_pos rfl] at H
   obtain ⟨t1, A7, H⟩ := sqD H
   by_cases c8 : t1 = true
   ·subst c8
    rw [if_pos rfl] at H
    by_cases c9 : a0 = 0
    ·rw [if_pos c9] at H
     have c9b0 : (a0 == 0) = true := sqe1 c9
     have c9b1 : (a0 != 0) = false := sqn0 c9
     clear c9
     (first | rw [c9b0] | (simp only [i64_w, i32_w]; rw [c9b0]) | skip)
     have H' := sqa H
     clear H
     go_wp2_with (first | ((with_reducible refine sqc 101 rfl ?_); refine sqC (some 8) func101 #[.int .i64 a0, .int .i64 (-1000000), .int .i64 1000000] ?_; (with_reducible refine (spec_l1In.calls a0 (-1000000) 1000000 true _ A5.1).mono ?_); rintro e w' ⟨rfl, ⟨nd, rfl⟩⟩; refine ⟨_, rfl, ?_⟩) | (go_at_call 101; (with_reducible refine (spec_l1In.calls a1 (-1000000) 1000000 true _ A7.1).mono ?_); rintro e w' ⟨rfl, ⟨nd, rfl⟩⟩))
     go_meet
     case rel => exact ⟨_, ((a1 == 0)), Z4, H', ⟨Z5⟩, ⟨sqK B0⟩, ⟨sqB1 HB E0⟩⟩
    rw [if_neg c9] at H
    have c9b0 : (a0 == 0) = false := sqe0 c9
    have c9b1 : (a0 != 0) = true := sqn1 c9
    (first | rw [c9b0] | (simp only [i64_w, i32_w]; rw [c9b0]) | skip)
    have H' := sqa H
    clear H
    go_wp2_with (first | ((with_reducible refine sqc 101 rfl ?_); refine sqC (some 8) func101 #[.int .i64 a0, .int .i64 (-1000000), .int .i64 1000000] ?_; (with_reducible refine (spec_l1In.calls a0 (-1000000) 1000000 true _ A5.1).mono ?_); rintro e w' ⟨rfl, ⟨nd, rfl⟩⟩; refine ⟨_, rfl, ?_⟩) | (go_at_call 101; (with_reducible refine (spec_l1In.calls a1 (-1000000) 1000000 true _ A7.1).mono ?_); rintro e w' ⟨rfl, ⟨nd, rfl⟩⟩))
    go_meet
    case rel => exact ⟨_, (false), Z4, H', ⟨Z5⟩, ⟨sqK B0⟩, ⟨sqB1 HB E0⟩⟩
   obtain rfl := sqb c8
   rw [if_neg sqF] at H
   have H' := sqa H
   clear H
   go_wp2_with (first | ((with_reducible refine sqc 101 rfl ?_); refine sqC (some 8) func101 #[.int .i64 a0, .int .i64 (-1000000), .int .i64 1000000] ?_; (with_reducible refine (spec_l1In.calls a0 (-1000000) 1000000 true _ A5.1).mono ?_); rintro e w' ⟨rfl, ⟨nd, rfl⟩⟩; refine ⟨_, rfl, ?_⟩) | (go_at_call 101; (with_reducible refine (spec_l1In.calls a1 (-1000000) 1000000 false _ A7.1).mono ?_); rintro e w' ⟨rfl, ⟨nd, rfl⟩⟩))
   go_meet
   case rel => exact ⟨_, (true), Z4, H', ⟨Z5⟩, ⟨sqK B0⟩, ⟨sqB1 HB E0⟩⟩
  obtain rfl := sqb c6
  rw [if_neg sqF] at H
  have H' := sqa H
  clear H
  go_wp2_with (first | ((with_reducible refine sqc 101 rfl ?_); refine sqC (some 8) func101 #[.int .i64 a0, .int .i64 (-1000000), .int .i64 1000000] ?_; (with_reducible refine (spec_l1In.calls a0 (-1000000) 1000000 false _ A5.1).mono ?_); rintro e w' ⟨rfl, ⟨nd, rfl⟩⟩; refine ⟨_, rfl, ?_⟩))
  go_meet
  case rel => exact ⟨_, (true), Z4, H', ⟨Z5⟩, ⟨sqK B0⟩, ⟨sqB1 HB E0⟩⟩
 case rest =>
  clear HC3
  obtain ⟨kq, x22_2, rfl, HA, HJ2, B0, HB⟩ := hcut
  cases kq with
  | zero => exact absurd HA.out (by simp [spec_LowestOf.j0])
  | succ kj2 =>
   have H := HA.out
   clear HA
   simp only [spec_LowestOf.j0] at H
   by_cases c10 : x22_2 = true
   ·subst c10
    rw [if_pos rfl] at H
    obtain ⟨rfl, rfl, rfl⟩ := sqO3 H
    obtain ⟨_, _, _, _⟩ := sqY2 B0
    go_wp2
    refine sqE g0 31 #[.int .i64 0, .int .i64 0] (Z54 B0) underlying31 ?_
    exact ⟨Z16, sqB1 HB E0⟩
   obtain rfl := sqb c10
   rw [if_neg sqF] at H
   obtain ⟨t165, A12, H⟩ := sqD H
   by_cases c13 : a1 < 0
   ·rw [if_pos c13] at H
    have c13b0 : decide (a1 < 0) = true := decide_eq_true c13
    clear c13
    by_cases c14 : (wrap64 (-t165)) = 0
    ·rw [if_pos c14] at H
     exact absurd H (by simp)
    rw [if_neg c14] at H
    have c14b0 : ((wrap64 (-t165)) == 0) = false := sqe0 c14
    have c14b1 : ((wrap64 (-t165)) != 0) = true := sqn1 c14
    obtain ⟨rfl, rfl, rfl⟩ := sqO3 H
    try go_wp2_with (first | ((with_reducible refine sqc 121 rfl ?_); refine sqC (some 26) func121 #[.int .i64 a0, .int .i64 a1] ?_; (with_reducible refine (spec_l1Common.calls kj2 a0 a1 t165 _ A12.1).mono ?_); refine sqV fun w15 hb => ?_; replace B0 := sqT B0 hb; replace HB := sqS (sqB1 HB E0) hb; (try clear hb)))
    replace B0 := sqa (blk_drew B0.1)
    replace HB := sqa (below_drew1 HB.1)
    refine start_ (n := 9) (S := fun w' => True) (ds := []) #[false, false, false, false, false, false, false, false, false] (by kernel_rfl) rfl rfl trivial (fun hHeld => ?_); refine with_tabW spec_LowestOf.tab6 spec_LowestOf.bits6 (fun HT_ HW_ => ?_)
    generalize w15.drew = w16 at B0 HB hHeld ⊢
    refine sqP 0 (some 39) (h := ?_)
    refine sqP 1 (some 40) (h := ?_)
    refine sqP 2 (some 41) (h := ?_)
    refine sqP 3 (some 42) (h := ?_)
    refine sqP 4 (some 43) (h := ?_)
    refine sqP 5 (some 44) (h := ?_)
    refine sqP 6 (some 45) (h := ?_)
    refine one_ (i := 7) (N := none) #[true, true, true, true, true, true, true, true, false] rfl rfl (one_of HT_.out (by kernel_rfl)) (by decide) (fun K hK => ?_)
    have hs17 : w16.cell? ⟨g0, 0, none⟩ = some (.int .i64 0) := (blk_cell B0.1 0).trans rfl
    have hfs17 := blk_frozen B0.1 0
    have hs18 : w16.cell? ⟨g0, 1, none⟩ = some (.int .i64 0) := (blk_cell B0.1 1).trans rfl
    have hfs18 := blk_frozen B0.1 1
    refine skip_ (w1 := ?_) (by rfl) rfl ?_ ?_
    rotate_left
    ·go_simp
     rfl
    refine hK.out _ _ trivial (fun hHeld => ?_)
    clear hK K
    refine sqP 8 (some 5) (h := ?_)
    refine done_ (done_of HT_.out (by kernel_rfl)) ?_
    try go_wp2
    refine sqE g0 31 #[.int .i64 (wrap64 (Int.tdiv a0 (wrap64 (-t165)))), .int .i64 (wrap64 (Int.tdiv a1 (wrap64 (-t165))))] (Z69 B0) underlying31 ?_
    exact ⟨Z16, sqB1 HB E0⟩
   rw [if_neg c13] at H
   have c13b0 : decide (a1 < 0) = false := decide_eq_false c13
   clear c13
   by_cases c19 : a1 = 0
   ·rw [if_pos c19] at H
    have c19b0 : (a1 == 0) = true := sqe1 c19
    have c19b1 : (a1 != 0) = false := sqn0 c19
    clear c19
    by_cases c20 : a0 < 0
    ·rw [if_pos c20] at H
     have c20b0 : decide (a0 < 0) = true := decide_eq_true c20
     clear c20
     by_cases c21 : (wrap64 (-t165)) = 0
     ·rw [if_pos c21] at H
      exact absurd H (by simp)
     rw [if_neg c21] at H
     have c21b0 : ((wrap64 (-t165)) == 0) = false := sqe0 c21
     have c21b1 : ((wrap64 (-t165)) != 0) = true := sqn1 c21
     obtain ⟨rfl, rfl, rfl⟩ := sqO3 H
     try go_wp2_with (first | ((with_reducible refine sqc 121 rfl ?_); refine sqC (some 26) func121 #[.int .i64 a0, .int .i64 a1] ?_; (with_reducible refine (spec_l1Common.calls kj2 a0 a1 t165 _ A12.1).mono ?_); refine sqV fun w22 hb => ?_; replace B0 := sqT B0 hb; replace HB := sqS (sqB1 HB E0) hb; (try clear hb)))
     replace B0 := sqa (blk_drew B0.1)
     replace HB := sqa (below_drew1 HB.1)
     refine start_ (n := 9) (S := fun w' => True) (ds := []) #[false, false, false, false, false, false, false, false, false] (by kernel_rfl) rfl rfl trivial (fun hHeld => ?_); refine with_tabW spec_LowestOf.tab6 spec_LowestOf.bits6 (fun HT_ HW_ => ?_)
     generalize w22.drew = w23 at B0 HB hHeld ⊢
     refine sqP 0 (some 39) (h := ?_)
     refine sqP 1 (some 40) (h := ?_)
     refine sqP 2 (some 41) (h := ?_)
     refine sqP 3 (some 42) (h := ?_)
     refine sqP 4 (some 43) (h := ?_)
     refine sqP 5 (some 44) (h := ?_)
     refine sqP 6 (some 45) (h := ?_)
     refine one_ (i := 7) (N := none) #[true, true, true, true, true, true, true, true, false] rfl rfl (one_of HT_.out (by kernel_rfl)) (by decide) (fun K hK => ?_)
     have hs24 : w23.cell? ⟨g0, 0, none⟩ = some (.int .i64 0) := (blk_cell B0.1 0).trans rfl
     have hfs24 := blk_frozen B0.1 0
     have hs25 : w23.cell? ⟨g0, 1, none⟩ = some (.int .i64 0) := (blk_cell B0.1 1).trans rfl
     have hfs25 := blk_frozen B0.1 1
     refine skip_ (w1 := ?_) (by rfl) rfl ?_ ?_
     rotate_left
     ·go_simp
      rfl
     refine hK.out _ _ trivial (fun hHeld => ?_)
     clear hK K
     refine sqP 8 (some 5) (h := ?_)
     refine done_ (done_of HT_.out (by kernel_rfl)) ?_
     try go_wp2
     refine sqE g0 31 #[.int .i64 (wrap64 (Int.tdiv a0 (wrap64 (-t165)))), .int .i64 (wrap64 (Int.tdiv a1 (wrap64 (-t165))))] (Z69 B0) underlying31 ?_
     exact ⟨Z16, sqB1 HB E0⟩
    rw [if_neg c20] at H
    have c20b0 : decide (a0 < 0) = false := decide_eq_false c20
    clear c20
    by_cases c26 : t165 = 0
    ·rw [if_pos c26] at H
     exact absurd H (by simp)
    rw [if_neg c26] at H
    have c26b0 : (t165 == 0) = false := sqe0 c26
    have c26b1 : (t165 != 0) = true := sqn1 c26
    obtain ⟨rfl, rfl, rfl⟩ := sqO3 H
    try go_wp2_with (first | ((with_reducible refine sqc 121 rfl ?_); refine sqC (some 26) func121 #[.int .i64 a0, .int .i64 a1] ?_; (with_reducible refine (spec_l1Common.calls kj2 a0 a1 t165 _ A12.1).mono ?_); refine sqV fun w27 hb => ?_; replace B0 := sqT B0 hb; replace HB := sqS (sqB1 HB E0) hb; (try clear hb)))
    replace B0 := sqa (blk_drew B0.1)
    replace HB := sqa (below_drew1 HB.1)
    refine start_ (n := 9) (S := fun w' => True) (ds := []) #[false, false, false, false, false, false, false, false, false] (by kernel_rfl) rfl rfl trivial (fun hHeld => ?_); refine with_tabW spec_LowestOf.tab6 spec_LowestOf.bits6 (fun HT_ HW_ => ?_)
    generalize w27.drew = w28 at B0 HB hHeld ⊢
    refine sqP 0 (some 39) (h := ?_)
    refine sqP 1 (some 40) (h := ?_)
    refine sqP 2 (some 41) (h := ?_)
    refine sqP 3 (some 42) (h := ?_)
    refine sqP 4 (some 43) (h := ?_)
    refine sqP 5 (some 44) (h := ?_)
    refine sqP 6 (some 45) (h := ?_)
    refine one_ (i := 7) (N := none) #[true, true, true, true, true, true, true, true, false] rfl rfl (one_of HT_.out (by kernel_rfl)) (by decide) (fun K hK => ?_)
    have hs29 : w28.cell? ⟨g0, 0, none⟩ = some (.int .i64 0) := (blk_cell B0.1 0).trans rfl
    have hfs29 := blk_frozen B0.1 0
    have hs30 : w28.cell? ⟨g0, 1, none⟩ = some (.int .i64 0) := (blk_cell B0.1 1).trans rfl
    have hfs30 := blk_frozen B0.1 1
    refine skip_ (w1 := ?_) (by rfl) rfl ?_ ?_
    rotate_left
    ·go_simp
     rfl
    refine hK.out _ _ trivial (fun hHeld => ?_)
    clear hK K
    refine sqP 8 (some 5) (h := ?_)
    refine done_ (done_of HT_.out (by kernel_rfl)) ?_
    try go_wp2
    refine sqE g0 31 #[.int .i64 (wrap64 (Int.tdiv a0 t165)), .int .i64 (wrap64 (Int.tdiv a1 t165))] (Z70 B0) underlying31 ?_
    exact ⟨Z16, sqB1 HB E0⟩
   rw [if_neg c19] at H
   have c19b0 : (a1 == 0) = false := sqe0 c19
   have c19b1 : (a1 != 0) = true := sqn1 c19
   by_cases c31 : t165 = 0
   ·rw [if_pos c31] at H
    exact absurd H (by simp)
   rw [if_neg c31] at H
   have c31b0 : (t165 == 0) = false := sqe0 c31
   have c31b1 : (t165 != 0) = true := sqn1 c31
   obtain ⟨rfl, rfl, rfl⟩ := sqO3 H
   try go_wp2_with (first | ((with_reducible refine sqc 121 rfl ?_); refine sqC (some 26) func121 #[.int .i64 a0, .int .i64 a1] ?_; (with_reducible refine (spec_l1Common.calls kj2 a0 a1 t165 _ A12.1).mono ?_); refine sqV fun w32 hb => ?_; replace B0 := sqT B0 hb; replace HB := sqS (sqB1 HB E0) hb; (try clear hb)))
   replace B0 := sqa (blk_drew B0.1)
   replace HB := sqa (below_drew1 HB.1)
   refine start_ (n := 9) (S := fun w' => True) (ds := []) #[false, false, false, false, false, false, false, false, false] (by kernel_rfl) rfl rfl trivial (fun hHeld => ?_); refine with_tabW spec_LowestOf.tab6 spec_LowestOf.bits6 (fun HT_ HW_ => ?_)
   generalize w32.drew = w33 at B0 HB hHeld ⊢
   refine sqP 0 (some 39) (h := ?_)
   refine sqP 1 (some 40) (h := ?_)
   refine sqP 2 (some 41) (h := ?_)
   refine sqP 3 (some 42) (h := ?_)
   refine sqP 4 (some 43) (h := ?_)
   refine sqP 5 (some 44) (h := ?_)
   refine sqP 6 (some 45) (h := ?_)
   refine one_ (i := 7) (N := none) #[true, true, true, true, true, true, true, true, false] rfl rfl (one_of HT_.out (by kernel_rfl)) (by decide) (fun K hK => ?_)
   have hs34 : w33.cell? ⟨g0, 0, none⟩ = some (.int .i64 0) := (blk_cell B0.1 0).trans rfl
   have hfs34 := blk_frozen B0.1 0
   have hs35 : w33.cell? ⟨g0, 1, none⟩ = some (.int .i64 0) := (blk_cell B0.1 1).trans rfl
   have hfs35 := blk_frozen B0.1 1
   refine skip_ (w1 := ?_) (by rfl) rfl ?_ ?_
   rotate_left
   ·go_simp
    rfl
   refine hK.out _ _ trivial (fun hHeld => ?_)
   clear hK K
   refine sqP 8 (some 5) (h := ?_)
   refine done_ (done_of HT_.out (by kernel_rfl)) ?_
   try go_wp2
   refine sqE g0 31 #[.int .i64 (wrap64 (Int.tdiv a0 t165)), .int .i64 (wrap64 (Int.tdiv a1 t165))] (Z70 B0) underlying31 ?_
   exact ⟨Z16, sqB1 HB E0⟩

end Go.Proofs.YtofmlbgfcohhoaaGreatDoor.PFnExactDeskSay
