/- Lean functions of the Go functions that the law FnDeskOk reaches, each with its contract: made by a program of this session. -/
import Derived.Test.YtcfnihniaakbeaaPFnDeskOkx0
import Derived.Test.YtcfnihniaakbeaaPFnDeskOkx3
import Derived.Test.YtcfnihniaakbeaaPFnDeskOkx4
import Derived.Test.YtcfnihniaakbeaaPFnDeskOkx10
import Derived.Test.YtcfnihniaakbeaaPFnDeskOkx12
namespace Go.Proofs.Ytcfnihniaakbeaa.PFnDeskOk
open Go.RowKit Go.Proofs.YtcfnihniaakbeaaW.PrintWords Go.Proofs.YtcfnihniaakbeaaW.PrintLast Go.Proofs.YtcfnihniaakbeaaW.PrintMore
attribute [local go_sem] max2_int min2_int max_two min_two max_three min_three max_four min_four   -- for this text's walks alone
set_option linter.unusedVariables false
set_option linter.unusedSimpArgs false

/-! ### spec_l20Desk: function 8 -/
def spec_l20Desk.l0 : Nat → Int → Int → List Int → Int → Int → Int → List (S24) → Option (Int × Int × (List (S24)) × Int)
 | 0, _, _, _, _, _, _, _ => none
 | k + 1, x1, x7, x1000, x1001, x341000, x341001, x341002 => if x7 > 0 then ((spec_l20Deed.f k x1000 x1001).bind fun bt343 => ((spec_DeskDo.f k x341000 x341001 x341002 bt343.1 bt343.2.1).bind fun bt346 => (if bt346.2.2.2 = true then (spec_l20Desk.l0 k x1 (wrap64 (x7 - 1)) x1000 bt343.2.2 bt346.1 bt346.2.1 bt346.2.2.1) else (spec_l20Desk.l0 k x1 (wrap64 (x7 - 1)) x1000 bt343.2.2 x341000 x341001 x341002)))) else ((spec_l20Rd_odd.f k x1000 x1001 x1).bind fun bt353 => (if bt353.1 = true then ((spec_l20Rd_pick.f k x1000 bt353.2 3).bind fun bt355 => (if bt355.1 = 0 then (some (2, 2, x341002, bt355.2)) else (if bt355.1 = 1 then (if x341002.length < 8796093022208 then (some (x341000, x341001, (x341002 ++ [(⟨0, 0⟩ : S24)]), bt355.2)) else (none)) else (some (0, 0, ([] : List (S24)), bt355.2))))) else (some (x341000, x341001, x341002, bt353.2))))
def spec_l20Desk.f (k : Nat) (s0_0 : List Int) (s0_1 : Int) (a1 : Int) : Option (Int × Int × (List (S24)) × Int) := (spec_l20Fraction.f k s0_0 s0_1 0).bind fun bt331 => ((spec_DeskNew.f k bt331.1 bt331.2.1).bind fun bt334 => ((spec_l20Rd_pick.f k s0_0 bt331.2.2 6).bind fun bt341 => (spec_l20Desk.l0 k a1 bt341.1 s0_0 bt341.2 bt334.1 bt334.2.1 bt334.2.2.1)))
theorem spec_l20Desk.mono_l : ∀ k, (∀ y0 y1 y2 y3 y4 y5 y6, LeO (spec_l20Desk.l0 k y0 y1 y2 y3 y4 y5 y6) (spec_l20Desk.l0 (k + 1) y0 y1 y2 y3 y4 y5 y6))
 | 0 => fun _ _ _ _ _ _ _ r h => by simp [spec_l20Desk.l0] at h
 | k + 1 => by
  have ih0 := spec_l20Desk.mono_l k
  ·intro y0 y1 y2 y3 y4 y5 y6
   unfold spec_l20Desk.l0
   repeat' first
   | (with_reducible exact ih0 _ _ _ _ _ _ _)
   | (with_reducible exact spec_DeskDo.mono _ _ _ _ _ _)
   | (with_reducible exact spec_DeskNew.mono _ _ _)
   | (with_reducible exact spec_l20Deed.mono _ _ _)
   | (with_reducible exact spec_l20Fraction.mono _ _ _ _)
   | (with_reducible exact spec_l20Rd_odd.mono _ _ _ _)
   | (with_reducible exact spec_l20Rd_pick.mono _ _ _ _)
   | (with_reducible exact LeO.refl _)
   | (with_reducible exact LeO.none _)
   | (with_reducible refine LeO.ite ?_ ?_)
   | (with_reducible refine LeO.bind ?_ (fun _ => ?_))
theorem spec_l20Desk.mono : ∀ a0 a1 a2 k, LeO (spec_l20Desk.f k a0 a1 a2) (spec_l20Desk.f (k + 1) a0 a1 a2) := by
 intro a0 a1 a2 k
 have ih0 := spec_l20Desk.mono_l k
 unfold spec_l20Desk.f
 repeat' first
   | (with_reducible exact ih0 _ _ _ _ _ _ _)
   | (with_reducible exact spec_DeskDo.mono _ _ _ _ _ _)
   | (with_reducible exact spec_DeskNew.mono _ _ _)
   | (with_reducible exact spec_l20Deed.mono _ _ _)
   | (with_reducible exact spec_l20Fraction.mono _ _ _ _)
   | (with_reducible exact spec_l20Rd_odd.mono _ _ _ _)
   | (with_reducible exact spec_l20Rd_pick.mono _ _ _ _)
   | (with_reducible exact LeO.refl _)
   | (with_reducible exact LeO.none _)
   | (with_reducible refine LeO.ite ?_ ?_)
   | (with_reducible refine LeO.bind ?_ (fun _ => ?_))
def spec_l20Desk.T5 : Bool × List (List Nat × List Nat) := (true, [([], []), ([], []), ([1], [1]), ([0, 2, 2], [0, 2]), ([3], [3]), ([4], [4]), ([4], [4]), ([], []), ([7, 5, 3, 0, 1, 2, 3, 4, 5, 7], [5, 7]), ([6, 8, 0, 1, 2, 3, 4, 5, 6, 7, 8], [6])])
def spec_l20Desk.B5 : List Nat := [0, 0, 2, 7, 15, 31, 31, 0, 191, 511]
theorem spec_l20Desk.tab5 : rtab .any (opsOf Try.f8 5) = spec_l20Desk.T5 := by kernel_rfl
theorem spec_l20Desk.bits5 : waitsOk spec_l20Desk.T5.2 spec_l20Desk.B5 = true := by kernel_rfl
set_option maxHeartbeats 8000000 in
set_option maxRecDepth 100000 in
theorem spec_l20Desk.calls (k : Nat) (g : Nat) (s0_0 : List Int) (s0_1 : Int) (a1 : Int) (r1 : Int) (r2 : Int) (r3 : List (S24)) (r4 : Int) (w0 w : World) (hI : IsS46 w0 w g s0_0 s0_1) (hB : Below w0.heap.size w0 w) (h : spec_l20Desk.f k s0_0 s0_1 a1 = some (r1, r2, r3, r4)) :
  Calls Try.prog 8 #[.pointer (some ⟨g, 0, none⟩), .int .i64 a1] w fun e w' => ∃ v2_ : Value, e = .returned (.agg #[.int .i64 r1, .int .i64 r2, v2_]) ∧ Kd.Q k24 24 w' w.heap.size (fun _ => True) v2_ r3 ∧ IsS46 w0 w' g s0_0 r4 ∧ Below w0.heap.size w0 w' ∧ KeepBut w w' g none := by
 have hu27 := Try.underlying27
 have hu24 := Try.underlying24
 have HI0 := Aside0.mk hI
 have HK := Aside0.mk (KeepBut.refl w g none)
 have HL := Aside0.mk hB.size
 clear hI
 have HW0 := Aside0.mk hB.size
 have HB := Aside0.mk hB
 clear hB
 have H : ((spec_l20Fraction.f k s0_0 s0_1 0).bind fun bt331 => ((spec_DeskNew.f k bt331.1 bt331.2.1).bind fun bt334 => ((spec_l20Rd_pick.f k s0_0 bt331.2.2 6).bind fun bt341 => (spec_l20Desk.l0 k a1 bt341.1 s0_0 bt341.2 bt334.1 bt334.2.1 bt334.2.2.1)))) = some (r1, r2, r3, r4) := h
 clear h
 replace H := Option.bind_eq_some_iff.mp H
 obtain ⟨⟨t331, t332, t333⟩, A30, H⟩ := H
 replace H : ((spec_DeskNew.f k t331 t332).bind fun bt334 => ((spec_l20Rd_pick.f k s0_0 t333 6).bind fun bt341 => (spec_l20Desk.l0 k a1 bt341.1 s0_0 bt341.2 bt334.1 bt334.2.1 bt334.2.2.1))) = some (r1, r2, r3, r4) := H
 have A3 := Aside0.mk A30
 clear A30
 replace H := Option.bind_eq_some_iff.mp H
 obtain ⟨⟨t334, t335, t336, t339⟩, A40, H⟩ := H
 replace H : ((spec_l20Rd_pick.f k s0_0 t333 6).bind fun bt341 => (spec_l20Desk.l0 k a1 bt341.1 s0_0 bt341.2 t334 t335 t336)) = some (r1, r2, r3, r4) := H
 have A4 := Aside0.mk A40
 clear A40
 replace H := Option.bind_eq_some_iff.mp H
 obtain ⟨⟨t341, t342⟩, A50, H⟩ := H
 replace H : (spec_l20Desk.l0 k a1 t341 s0_0 t342 t334 t335 t336) = some (r1, r2, r3, r4) := H
 have A5 := Aside0.mk A50
 clear A50
 have H' := Aside0.mk H
 clear H
 go_enter Try.func8, Try.ntmps8
 go_wp2_with (first | ((with_reducible refine gate_dst (N := 4) rfl ?_); refine sqBox (N := 4) (cs := #[.int .i64 0, .int .i64 0, .slice none 0 0]) (t := 27) ?_; intro gb330 hg w6 BK330 hb; replace HB := Aside0.mk (below_step (Z20 HI0) hb); have GW330 := Aside0.mk ((Z77 : w.heap.size ≤ gb330)); have GE330 := Aside0.mk ((Nat.le_trans HW0.out (Z77 : w.heap.size ≤ gb330) : w0.heap.size ≤ gb330)); replace HK := Aside0.mk (KeepBut.trans Z21 (KeepBut.of_below hb g none) (.inl rfl)); have NB0_330 := Aside0.mk ((Z35 HI0 : g ≠ gb330)); have NB330_0 := Aside0.mk ((Z36 HI0 : gb330 ≠ g)); replace HI0 := Aside0.mk (IsS46.below (Z19 HI0) hb); clear hb hg) | ((with_reducible refine gate_callee (f := 14) rfl ?_); refine goesL_ (some 12) rfl rfl Try.func14 (by kernel_rfl) rfl #[.pointer (some ⟨g, 0, none⟩), .int .i64 0] rfl sqA ?_; (with_reducible refine (spec_l20Fraction.calls k g s0_0 s0_1 0 t331 t332 t333 w0 _ ?side1 ?side2 A3.out).mono ?_); (case side1 => exact Z27 HI0 NB0_330); (case side2 => exact Z28 HI0 GE330); rintro e w7 ⟨rfl, hi, hb, hk⟩; refine ⟨_, rfl, ?_⟩; replace BK330 := Aside0.mk (KeepBut.blk hk (g' := gb330) (o := .cells #[.int .i64 0, .int .i64 0, .slice none 0 0] 27 (0, 0)) (sqK BK330) NB330_0.out (by simp)); replace HK := Aside0.mk (KeepBut.trans (Z37 GW330) hk (.inl rfl)); replace HB := Aside0.mk (hb); replace HI0 := Aside0.mk (hi); (try clear hb)) | ((with_reducible refine gate_callee (f := 13) rfl ?_); refine goesL_ (some 13) rfl rfl Try.func13 (by kernel_rfl) rfl #[.agg #[.int .i64 t331, .int .i64 t332]] rfl sqA ?_; (with_reducible refine (spec_DeskNew.calls k t331 t332 t334 t335 t336 t339 _ A4.out).mono ?_); rintro e w8 ⟨v337, rfl, ho0, hb⟩; refine ⟨_, rfl, ?_⟩; have HO338 := Aside0.mk (Kd.R_lower ho0 (keep_size (w := w) (g := g) (row := none) (Z37 GW330))); replace BK330 := sqT BK330 hb; replace HK := Aside0.mk (KeepBut.trans (Z37 GW330) (KeepBut.of_below hb g none) (.inl rfl)); replace HB := Aside0.mk (below_step (Z28 HI0 GE330) hb); replace HI0 := Aside0.mk (IsS46.below (Z27 HI0 NB0_330) hb); (try clear hb); (try clear ho0)) | ((with_reducible refine gate_dst (N := 5) rfl ?_); refine sqBox (N := 5) (cs := #[.int .i64 0, .int .i64 0, .slice none 0 0]) (t := 27) ?_; intro gb340 hg w9 BK340 hb; replace HO338 := sqU HO338 hb; replace HB := Aside0.mk (below_step (Z28 HI0 GE330) hb); have GW340 := Aside0.mk ((Z78 GW330 : w.heap.size ≤ gb340)); have GE340 := Aside0.mk ((Nat.le_trans HW0.out (Z78 GW330 : w.heap.size ≤ gb340) : w0.heap.size ≤ gb340)); replace HK := Aside0.mk (KeepBut.trans (Z37 GW330) (KeepBut.of_below hb g none) (.inl rfl)); obtain ⟨NB330_340, NB340_330⟩ := sqM hg BK330; replace BK330 := sqT BK330 hb; have NB0_340 := Aside0.mk ((by rw [hg]; exact Nat.ne_of_lt (IsS46.lt (show IsS46 w0 _ g s0_0 t333 from by repeat (first | (with_reducible first | exact HI0.out | apply IsS46.alloc | apply IsS46.drewN | apply IsS46.drew | apply IsS46.set_1 | refine IsS46.far ?_ NB0_330.out _) | exact HI0.out))) : g ≠ gb340)); have NB340_0 := Aside0.mk ((by rw [hg]; exact Nat.ne_of_gt (IsS46.lt (show IsS46 w0 _ g s0_0 t333 from by repeat (first | (with_reducible first | exact HI0.out | apply IsS46.alloc | apply IsS46.drewN | apply IsS46.drew | apply IsS46.set_1 | refine IsS46.far ?_ NB0_330.out _) | exact HI0.out))) : gb340 ≠ g)); replace HI0 := Aside0.mk (IsS46.below (Z27 HI0 NB0_330) hb); clear hb hg; have hnb10 := NB340_330.out; have hnc10 := NB330_340.out; have hnb11 := NB340_0.out; have hnc11 := NB0_340.out; obtain ⟨hcz12_0, hcz12_1, hcz12_2, hfz12_0, hfz12_1, hfz12_2⟩ := sqY3 BK340; obtain ⟨Ao13, co13, eo13⟩ := Kd.R_slice HO338.out; subst eo13) | ((with_reducible refine gate_callee (f := 15) rfl ?_); refine goesL_ (some 17) rfl rfl Try.func15 (by kernel_rfl) rfl #[.pointer (some ⟨g, 0, none⟩), .int .i64 6] rfl sqA ?_; (with_reducible refine (spec_l20Rd_pick.calls k g s0_0 t333 6 t341 t342 w0 _ ?side1 ?side2 A5.out).mono ?_); (case side1 => exact Z38 HI0 NB0_330 NB0_340); (case side2 => exact Z39 HI0 GE330 GE340); rintro e w14 ⟨rfl, hi, hb, hk⟩; refine ⟨_, rfl, ?_⟩; replace BK330 := Aside0.mk (KeepBut.blk hk (g' := gb330) (o := .cells #[.int .i64 0, .int .i64 0, .slice none 0 0] 27 (0, 0)) (Z5 NB330_340 BK330) NB330_0.out (by simp)); replace HO338 := Aside0.mk (Kd.R_mono (Kd.R_keep (IsS46.apart (show IsS46 w0 _ g s0_0 t333 from by repeat (first | (with_reducible first | exact HI0.out | apply IsS46.alloc | apply IsS46.drewN | apply IsS46.drew | apply IsS46.set_1 | refine IsS46.far ?_ NB0_330.out _ | refine IsS46.far ?_ NB0_340.out _) | exact HI0.out)) (by (with_reducible repeat (first | apply Kd.R_alloc | apply Kd.R_drewN | apply Kd.R_drew)); exact (Kd.R_mono (Kd.R_far (p := ⟨gb340, 2, none⟩) (Kd.R_far (p := ⟨gb340, 1, none⟩) (Kd.R_far (p := ⟨gb340, 0, none⟩) (Kd.R_types HO338.out BK340.out (by decide)) (fun _ hk => hk.2) (.int .i64 t334)) (fun _ hk => hk.2) (.int .i64 t335)) (fun _ hk => hk.2) (.slice Ao13 t336.length co13)) (fun _ h_ => h_.1))) (by decide)) hk (fun _ h => h.2)) (fun _ h => h.1)); replace BK340 := Aside0.mk (KeepBut.blk hk (g' := gb340) (o := .cells #[.int .i64 t334, .int .i64 t335, .slice Ao13 t336.length co13] 27 (0, 0)) (by refine sqPut (cs := #[.int .i64 t334, .int .i64 t335, .slice none 0 0]) ?_ 2; refine sqPut (cs := #[.int .i64 t334, .int .i64 0, .slice none 0 0]) ?_ 1; refine sqPut (cs := #[.int .i64 0, .int .i64 0, .slice none 0 0]) ?_ 0; exact sqK BK340) NB340_0.out (by simp)); replace HK := Aside0.mk (KeepBut.trans (Z40 GW330 GW340) hk (.inl rfl)); replace HB := Aside0.mk (hb); replace HI0 := Aside0.mk (hi); (try clear hb)))
 go_loopg [7] k (fun kq v7 w' => ∃ (x7_1 : Int) (x1001_1 : Int) (x341000_1 : Int) (x341001_1 : Int) (x341002_1 : List (S24)) (u341002 : Value), v7 = .int .i64 x7_1 ∧ Aside0 (spec_l20Desk.l0 kq a1 x7_1 s0_0 x1001_1 x341000_1 x341001_1 x341002_1 = some (r1, r2, r3, r4)) ∧ Aside0 (kq ≤ k) ∧ Aside0 (Kd.Q k24 24 w' w.heap.size (fun _ => True) u341002 x341002_1) ∧ Aside0 (w'.heap[gb330]? = some (.cells #[.int .i64 0, .int .i64 0, (.slice none 0 0)] 27 (0, 0))) ∧ Aside0 (w'.heap[gb340]? = some (.cells #[.int .i64 x341000_1, .int .i64 x341001_1, u341002] 27 (0, 0))) ∧ Aside0 (IsS46 w0 w' g s0_0 x1001_1) ∧ Aside0 (KeepBut w w' g none) ∧ Aside0 (Below w0.heap.size w0 w'))
 case atStart => exact ⟨(t341), (t342), (t334), (t335), (t336), (.slice Ao13 t336.length co13), Z2, H', ⟨Nat.le_refl _⟩, ⟨Kd.Q_of_R (sqR HO338)⟩, ⟨sqK BK330⟩, ⟨sqK BK340⟩, ⟨Z38 HI0 NB0_330 NB0_340⟩, ⟨Z40 GW330 GW340⟩, ⟨Z39 HI0 GE330 GE340⟩⟩
 case round =>
  clear H'
  try clear c1; try clear p2; try clear c8; try clear c10; try clear c11; try clear c13; try clear c14; try clear hcz12_0; try clear hcz12_1; try clear hcz12_2; try clear hfz12_0; try clear hfz12_1; try clear hfz12_2
  obtain ⟨x7_1, x1001_1, x341000_1, x341001_1, x341002_1, u341002, rfl, HA, HK1, HO_341002, BK330, BK340, HI0, HK, HB⟩ := hrel
  cases gk with
  | zero => exact absurd HA.out (by simp [spec_l20Desk.l0])
  | succ k1 =>
   have H := HA.out
   clear HA
   simp only [spec_l20Desk.l0] at H
   by_cases c15 : x7_1 > 0
   ·rw [if_pos c15] at H
    have c15b0 : decide (0 < x7_1) = true := decide_eq_true c15
    clear c15
    replace H := Option.bind_eq_some_iff.mp H
    obtain ⟨⟨t343, t344, t345⟩, A160, H⟩ := H
    replace H : ((spec_DeskDo.f k1 x341000_1 x341001_1 x341002_1 t343 t344).bind fun bt346 => (if bt346.2.2.2 = true then (spec_l20Desk.l0 k1 a1 (wrap64 (x7_1 - 1)) s0_0 t345 bt346.1 bt346.2.1 bt346.2.2.1) else (spec_l20Desk.l0 k1 a1 (wrap64 (x7_1 - 1)) s0_0 t345 x341000_1 x341001_1 x341002_1))) = some (r1, r2, r3, r4) := H
    have A16 := Aside0.mk A160
    clear A160
    replace H := Option.bind_eq_some_iff.mp H
    obtain ⟨⟨t346, t347, t348, t351⟩, A170, H⟩ := H
    replace H : (if t351 = true then (spec_l20Desk.l0 k1 a1 (wrap64 (x7_1 - 1)) s0_0 t345 t346 t347 t348) else (spec_l20Desk.l0 k1 a1 (wrap64 (x7_1 - 1)) s0_0 t345 x341000_1 x341001_1 x341002_1)) = some (r1, r2, r3, r4) := H
    have A17 := Aside0.mk A170
    clear A170
    by_cases c18 : t351 = true
    ·subst c18
     have H1 : (spec_l20Desk.l0 k1 a1 (wrap64 (x7_1 - 1)) s0_0 t345 t346 t347 t348) = some (r1, r2, r3, r4) := by rw [if_pos rfl] at H; exact H
     clear H
     have H := H1
     clear H1
     have H' := Aside0.mk H
     clear H
     obtain ⟨Ao19, co19, eo19, _⟩ := Kd.Q_slice HO_341002.out
     subst eo19
     try go_wp2
     replace HO_341002 := Aside0.mk (Kd.Q_drew HO_341002.out)
     replace BK330 := Aside0.mk (blk_drew BK330.out)
     replace BK340 := Aside0.mk (blk_drew BK340.out)
     replace HI0 := Aside0.mk (IsS46.drew HI0.out)
     replace HK := Aside0.mk (keep_drew HK.out)
     replace HB := Aside0.mk (below_drew1 HB.out)
     refine start_ (n := 10) (S := fun w' => w'.cell? ⟨gb340, 0, none⟩ = some (.int .i64 x341000_1) ∧ w'.cell? ⟨gb340, 1, none⟩ = some (.int .i64 x341001_1) ∧ w'.cell? ⟨gb340, 2, none⟩ = some (.slice Ao19 x341002_1.length co19)) (ds := []) #[false, false, false, false, false, false, false, false, false, false] (by kernel_rfl) rfl rfl ⟨(blk_cell BK340.out 0).trans rfl, (blk_cell BK340.out 1).trans rfl, (blk_cell BK340.out 2).trans rfl⟩ (fun hHeld => ?_); refine with_tabW spec_l20Desk.tab5 spec_l20Desk.bits5 (fun HT_ HW_ => ?_)
     generalize wr.drew = w20 at HO_341002 BK330 BK340 HI0 HK HB hHeld ⊢
     refine sqP (i := 1) (N := some 24) (h := ?_)
     refine take_ (i := 0) (N := some 23) (v := ?_) (a' := ?_) #[true, true, false, false, false, false, false, false, false, false] rfl rfl (take_ofW HT_.out HW_.out (by kernel_rfl)) (fun _ _ _ h => h) (Or.inl ⟨by rfl, ?_⟩) hHeld ?_ ?_
     rotate_left
     ·rintro w' ⟨s0, s1, s2⟩
      go_simp
      with_reducible rfl
     rotate_left
     ·simp only [Act.put, List.setIfInBounds_toArray, List.set_cons_zero, List.set_cons_succ, i64_w, i32_w]
      rfl
     refine join_ (σ := Value × Nat) 2 #[true, true, true, true, true, true, true, true, false, false] (fun s_ => [(25, .agg #[.int .i64 t343, .string t344]), (26, .tuple #[.agg #[.int .i64 t346, .int .i64 t347, s_.1], .bool true]), (8, .pointer (some ⟨s_.2, 0, none⟩)), (22, .tuple #[.agg #[.int .i64 t346, .int .i64 t347, s_.1], .bool true]), (27, .agg #[.int .i64 t346, .int .i64 t347, s_.1]), (28, .bool true)]) (fun s_ w' => (w'.cell? ⟨gb340, 0, none⟩ = some (.int .i64 x341000_1) ∧ w'.cell? ⟨gb340, 1, none⟩ = some (.int .i64 x341001_1) ∧ w'.cell? ⟨gb340, 2, none⟩ = some (.slice Ao19 x341002_1.length co19)) ∧ (Kd.Q k24 24 w' w.heap.size (fun k_ => some k_ ≠ (.slice Ao19 x341002_1.length co19 : Value).ownBlock) s_.1 t348) ∧ (Kd.Q k24 24 w' w.heap.size (fun k_ => some k_ ≠ (s_.1 : Value).ownBlock) (.slice Ao19 x341002_1.length co19) x341002_1) ∧ (w'.heap[gb330]? = some (.cells #[.int .i64 0, .int .i64 0, .slice none 0 0] 27 (0, 0))) ∧ (w'.heap[gb340]? = some (.cells #[.int .i64 x341000_1, .int .i64 x341001_1, .slice Ao19 x341002_1.length co19] 27 (0, 0))) ∧ (w'.heap[s_.2]? = some (.cells #[.int .i64 0, .int .i64 0, .slice none 0 0] 27 (0, 0))) ∧ (w.heap.size ≤ s_.2) ∧ (w0.heap.size ≤ s_.2) ∧ (g ≠ s_.2) ∧ (s_.2 ≠ g) ∧ (gb330 ≠ s_.2) ∧ (s_.2 ≠ gb330) ∧ (gb340 ≠ s_.2) ∧ (s_.2 ≠ gb340) ∧ (IsS46 w0 w' g s0_0 t345) ∧ (KeepBut w w' g none) ∧ (Below w0.heap.size w0 w')) ?_ ?_
     rotate_left
     ·intro hCont
      refine two_ (i := 2) (j := 7) (Ni := some 25) (Nj := some 8) #[true, true, true, false, false, false, false, false, false, false] #[true, true, false, false, false, false, false, true, false, false] rfl rfl rfl rfl (two_of HT_.out (by kernel_rfl)) (by decide) (by decide) (fun K hK => ?_) (fun K hK => ?_)
      ·skip
       refine goes_ Try.func17 (by kernel_rfl) rfl #[.pointer (some ⟨g, 0, none⟩)] (by rfl) rfl rfl sqA ?_
       with_reducible refine (spec_l20Deed.calls k1 g s0_0 x1001_1 t343 t344 t345 w0 _ ?side1 ?side2 A16.out).mono ?_
       (case side1 => exact Z38 HI0 NB0_330 NB0_340)
       (case side2 => exact Z39 HI0 GE330 GE340)
       rintro e w21 ⟨rfl, hi, hb, hk⟩
       refine ⟨_, rfl, ?_⟩
       replace HO_341002 := Aside0.mk (Kd.Q_mono (Kd.Q_keep (IsS46.apartQ (show IsS46 w0 _ g s0_0 x1001_1 from by repeat (first | (with_reducible first | exact HI0.out | apply IsS46.alloc | apply IsS46.drewN | apply IsS46.drew | apply IsS46.set_1 | refine IsS46.far ?_ NB0_330.out _ | refine IsS46.far ?_ NB0_340.out _) | exact HI0.out)) (Z10 HO_341002) (by decide)) hk (fun _ h => h.2)) (fun _ h => h.1))
       replace BK330 := Aside0.mk (KeepBut.blk hk (g' := gb330) (o := .cells #[.int .i64 0, .int .i64 0, .slice none 0 0] 27 (0, 0)) (sqK BK330) NB330_0.out (by simp))
       replace BK340 := Aside0.mk (KeepBut.blk hk (g' := gb340) (o := .cells #[.int .i64 x341000_1, .int .i64 x341001_1, .slice Ao19 x341002_1.length co19] 27 (0, 0)) (sqK BK340) NB340_0.out (by simp))
       replace HK := Aside0.mk (KeepBut.trans (Z40 GW330 GW340) hk (.inl rfl))
       replace HB := Aside0.mk (hb)
       replace HI0 := Aside0.mk (hi)
       (try clear hb)
       (try clear hb2)
       (try clear hk)
       (try clear hi)
       refine hK.out _ _ ⟨(blk_cell BK340.out 0).trans rfl, (blk_cell BK340.out 1).trans rfl, (blk_cell BK340.out 2).trans rfl⟩ (fun hHeld => ?_)
       clear hK K
       refine sqN (some 25) ?_
       refine two_ (i := 3) (j := 7) (Ni := some 26) (Nj := some 8) #[true, true, true, true, false, false, false, false, false, false] #[true, true, true, false, false, false, false, true, false, false] rfl rfl rfl rfl (two_of HT_.out (by kernel_rfl)) (by decide) (by decide) (fun K hK => ?_) (fun K hK => ?_)
       ·skip
        refine goes_ Try.func16 (by kernel_rfl) rfl #[.agg #[.int .i64 x341000_1, .int .i64 x341001_1, .slice Ao19 x341002_1.length co19], .agg #[.int .i64 t343, .string t344]] (by rfl) rfl rfl sqA ?_
        with_reducible refine (spec_DeskDo.calls k1 x341000_1 x341001_1 _ _ x341002_1 t343 t344 t346 t347 t348 true _ ?side1 ?side2 A17.out).mono ?_
        (case side1 => exact Z33 HO_341002)
        (case side2 => exact Z31 HO_341002)
        rintro e w22 ⟨v349, rfl, ho0, hb⟩
        refine ⟨_, rfl, ?_⟩
        have HO350 := Aside0.mk (Kd.Q_lower (Kd.Q_new' ho0 (Kd.Q_lt (Z10 HO_341002))) (keep_size (w := w) (g := g) (row := none) (Z40 GW330 GW340)))
        replace HO_341002 := Aside0.mk (Kd.Q_elder' (Z10 HO_341002) (Kd.Q_base ho0) hb)
        replace BK330 := sqT BK330 hb
        replace BK340 := sqT BK340 hb
        replace HK := Aside0.mk (KeepBut.trans (Z40 GW330 GW340) (KeepBut.of_below hb g none) (.inl rfl))
        replace HB := Aside0.mk (below_step (Z39 HI0 GE330 GE340) hb)
        replace HI0 := Aside0.mk (IsS46.below (Z38 HI0 NB0_330 NB0_340) hb)
        (try clear hb)
        (try clear hb2)
        (try clear hk)
        (try clear hi)
        (try clear ho0)
        refine hK.out _ _ ⟨(blk_cell BK340.out 0).trans rfl, (blk_cell BK340.out 1).trans rfl, (blk_cell BK340.out 2).trans rfl⟩ (fun hHeld => ?_)
        clear hK K
        refine sqN (some 26) ?_
        refine sqP (i := 4) (N := some 22) (h := ?_)
        refine sqP (i := 5) (N := some 27) (h := ?_)
        refine sqP (i := 6) (N := some 28) (h := ?_)
        refine one_ (i := 7) (N := some 8) #[true, true, true, true, true, true, true, true, false, false] rfl rfl (one_of HT_.out (by kernel_rfl)) (by decide) (fun K hK => ?_)
        refine box_step ?hg (N := 8) ?hd (cs := #[.int .i64 0, .int .i64 0, .slice none 0 0]) (t := 27) ?hr ?_; (case hd => rfl); (case hg => rfl); (case hr => exact Z8)
        intro gb352 hg w23 hbox hb
        replace HO_341002 := Aside0.mk (Kd.Q_below (Z10 HO_341002) hb)
        replace HO350 := Aside0.mk (Kd.Q_below (Z10 HO350) hb)
        replace HB := Aside0.mk (below_step (Z39 HI0 GE330 GE340) hb)
        have BK352 := Aside0.mk (hbox)
        have GW352 := Aside0.mk ((Z79 GW330 GW340 : w.heap.size ≤ gb352))
        have GE352 := Aside0.mk ((Nat.le_trans HW0.out (Z79 GW330 GW340 : w.heap.size ≤ gb352) : w0.heap.size ≤ gb352))
        replace HK := Aside0.mk (KeepBut.trans (Z40 GW330 GW340) (KeepBut.of_below hb g none) (.inl rfl))
        have NB330_352 := Aside0.mk ((Z41 BK330 : gb330 ≠ gb352))
        have NB352_330 := Aside0.mk ((Z42 BK330 : gb352 ≠ gb330))
        replace BK330 := sqT BK330 hb
        have NB340_352 := Aside0.mk ((Z41 BK340 : gb340 ≠ gb352))
        have NB352_340 := Aside0.mk ((Z42 BK340 : gb352 ≠ gb340))
        replace BK340 := sqT BK340 hb
        have NB0_352 := Aside0.mk ((Z43 HI0 NB0_330 NB0_340 : g ≠ gb352))
        have NB352_0 := Aside0.mk ((Z44 HI0 NB0_330 NB0_340 : gb352 ≠ g))
        replace HI0 := Aside0.mk (IsS46.below (Z38 HI0 NB0_330 NB0_340) hb)
        clear hb hbox hg
        refine hK.out _ _ ⟨(blk_cell BK340.out 0).trans rfl, (blk_cell BK340.out 1).trans rfl, (blk_cell BK340.out 2).trans rfl⟩ (fun hHeld => ?_)
        clear hK K
        refine sqN (some 8) ?_
        exact norm_ Z45 (hCont (v349, gb352) _ ⟨hHeld, (Z46 HO350), (Z46 HO_341002), (sqK BK330), (sqK BK340), (sqK BK352), GW352.out, GE352.out, NB0_352.out, NB352_0.out, NB330_352.out, NB352_330.out, NB340_352.out, NB352_340.out, (Z47 HI0 NB0_330 NB0_340 NB0_352), (Z48 GW330 GW340 GW352), (Z49 HI0 GE330 GE340 GE352)⟩)
       ·skip
        refine box_step ?hg (N := 8) ?hd (cs := #[.int .i64 0, .int .i64 0, .slice none 0 0]) (t := 27) ?hr ?_; (case hd => rfl); (case hg => rfl); (case hr => exact Z8)
        intro gb352 hg w22 hbox hb
        replace HO_341002 := Aside0.mk (Kd.Q_below (Z10 HO_341002) hb)
        replace HB := Aside0.mk (below_step (Z39 HI0 GE330 GE340) hb)
        have BK352 := Aside0.mk (hbox)
        have GW352 := Aside0.mk ((Z79 GW330 GW340 : w.heap.size ≤ gb352))
        have GE352 := Aside0.mk ((Nat.le_trans HW0.out (Z79 GW330 GW340 : w.heap.size ≤ gb352) : w0.heap.size ≤ gb352))
        replace HK := Aside0.mk (KeepBut.trans (Z40 GW330 GW340) (KeepBut.of_below hb g none) (.inl rfl))
        have NB330_352 := Aside0.mk ((Z41 BK330 : gb330 ≠ gb352))
        have NB352_330 := Aside0.mk ((Z42 BK330 : gb352 ≠ gb330))
        replace BK330 := sqT BK330 hb
        have NB340_352 := Aside0.mk ((Z41 BK340 : gb340 ≠ gb352))
        have NB352_340 := Aside0.mk ((Z42 BK340 : gb352 ≠ gb340))
        replace BK340 := sqT BK340 hb
        have NB0_352 := Aside0.mk ((Z43 HI0 NB0_330 NB0_340 : g ≠ gb352))
        have NB352_0 := Aside0.mk ((Z44 HI0 NB0_330 NB0_340 : gb352 ≠ g))
        replace HI0 := Aside0.mk (IsS46.below (Z38 HI0 NB0_330 NB0_340) hb)
        clear hb hbox hg
        refine hK.out _ _ ⟨(blk_cell BK340.out 0).trans rfl, (blk_cell BK340.out 1).trans rfl, (blk_cell BK340.out 2).trans rfl⟩ (fun hHeld => ?_)
        clear hK K
        refine sqN (some 8) ?_
        refine one_ (i := 3) (N := some 26) #[true, true, true, true, false, false, false, true, false, false] rfl rfl (one_of HT_.out (by kernel_rfl)) (by decide) (fun K hK => ?_)
        refine goes_ Try.func16 (by kernel_rfl) rfl #[.agg #[.int .i64 x341000_1, .int .i64 x341001_1, .slice Ao19 x341002_1.length co19], .agg #[.int .i64 t343, .string t344]] (by rfl) rfl rfl sqA ?_
        with_reducible refine (spec_DeskDo.calls k1 x341000_1 x341001_1 _ _ x341002_1 t343 t344 t346 t347 t348 true _ ?side1 ?side2 A17.out).mono ?_
        (case side1 => exact Z33 HO_341002)
        (case side2 => exact Z31 HO_341002)
        rintro e w23 ⟨v349, rfl, ho0, hb⟩
        refine ⟨_, rfl, ?_⟩
        have HO350 := Aside0.mk (Kd.Q_lower (Kd.Q_new' ho0 (Kd.Q_lt (Z10 HO_341002))) (keep_size (w := w) (g := g) (row := none) (Z48 GW330 GW340 GW352)))
        replace HO_341002 := Aside0.mk (Kd.Q_elder' (Z10 HO_341002) (Kd.Q_base ho0) hb)
        replace BK330 := sqT BK330 hb
        replace BK340 := sqT BK340 hb
        replace BK352 := sqT BK352 hb
        replace HK := Aside0.mk (KeepBut.trans (Z48 GW330 GW340 GW352) (KeepBut.of_below hb g none) (.inl rfl))
        replace HB := Aside0.mk (below_step (Z49 HI0 GE330 GE340 GE352) hb)
        replace HI0 := Aside0.mk (IsS46.below (Z47 HI0 NB0_330 NB0_340 NB0_352) hb)
        (try clear hb)
        (try clear hb2)
        (try clear hk)
        (try clear hi)
        (try clear ho0)
        refine hK.out _ _ ⟨(blk_cell BK340.out 0).trans rfl, (blk_cell BK340.out 1).trans rfl, (blk_cell BK340.out 2).trans rfl⟩ (fun hHeld => ?_)
        clear hK K
        refine sqN (some 26) ?_
        refine sqP (i := 4) (N := some 22) (h := ?_)
        refine sqP (i := 5) (N := some 27) (h := ?_)
        refine sqP (i := 6) (N := some 28) (h := ?_)
        exact norm_ Z45 (hCont (v349, gb352) _ ⟨hHeld, (Z46 HO350), (Z46 HO_341002), (sqK BK330), (sqK BK340), (sqK BK352), GW352.out, GE352.out, NB0_352.out, NB352_0.out, NB330_352.out, NB352_330.out, NB340_352.out, NB352_340.out, (Z47 HI0 NB0_330 NB0_340 NB0_352), (Z48 GW330 GW340 GW352), (Z49 HI0 GE330 GE340 GE352)⟩)
      ·skip
       refine box_step ?hg (N := 8) ?hd (cs := #[.int .i64 0, .int .i64 0, .slice none 0 0]) (t := 27) ?hr ?_; (case hd => rfl); (case hg => rfl); (case hr => exact Z8)
       intro gb352 hg w21 hbox hb
       replace HO_341002 := Aside0.mk (Kd.Q_below (Z10 HO_341002) hb)
       replace HB := Aside0.mk (below_step (Z39 HI0 GE330 GE340) hb)
       have BK352 := Aside0.mk (hbox)
       have GW352 := Aside0.mk ((Z79 GW330 GW340 : w.heap.size ≤ gb352))
       have GE352 := Aside0.mk ((Nat.le_trans HW0.out (Z79 GW330 GW340 : w.heap.size ≤ gb352) : w0.heap.size ≤ gb352))
       replace HK := Aside0.mk (KeepBut.trans (Z40 GW330 GW340) (KeepBut.of_below hb g none) (.inl rfl))
       have NB330_352 := Aside0.mk ((Z41 BK330 : gb330 ≠ gb352))
       have NB352_330 := Aside0.mk ((Z42 BK330 : gb352 ≠ gb330))
       replace BK330 := sqT BK330 hb
       have NB340_352 := Aside0.mk ((Z41 BK340 : gb340 ≠ gb352))
       have NB352_340 := Aside0.mk ((Z42 BK340 : gb352 ≠ gb340))
       replace BK340 := sqT BK340 hb
       have NB0_352 := Aside0.mk ((Z50 HI0 NB0_330 NB0_340 : g ≠ gb352))
       have NB352_0 := Aside0.mk ((Z51 HI0 NB0_330 NB0_340 : gb352 ≠ g))
       replace HI0 := Aside0.mk (IsS46.below (Z38 HI0 NB0_330 NB0_340) hb)
       clear hb hbox hg
       refine hK.out _ _ ⟨(blk_cell BK340.out 0).trans rfl, (blk_cell BK340.out 1).trans rfl, (blk_cell BK340.out 2).trans rfl⟩ (fun hHeld => ?_)
       clear hK K
       refine sqN (some 8) ?_
       refine one_ (i := 2) (N := some 25) #[true, true, true, false, false, false, false, true, false, false] rfl rfl (one_of HT_.out (by kernel_rfl)) (by decide) (fun K hK => ?_)
       refine goes_ Try.func17 (by kernel_rfl) rfl #[.pointer (some ⟨g, 0, none⟩)] (by rfl) rfl rfl sqA ?_
       with_reducible refine (spec_l20Deed.calls k1 g s0_0 x1001_1 t343 t344 t345 w0 _ ?side1 ?side2 A16.out).mono ?_
       (case side1 => exact Z47 HI0 NB0_330 NB0_340 NB0_352)
       (case side2 => exact Z49 HI0 GE330 GE340 GE352)
       rintro e w22 ⟨rfl, hi, hb, hk⟩
       refine ⟨_, rfl, ?_⟩
       replace HO_341002 := Aside0.mk (Kd.Q_mono (Kd.Q_keep (IsS46.apartQ (show IsS46 w0 _ g s0_0 x1001_1 from by repeat (first | (with_reducible first | exact HI0.out | apply IsS46.alloc | apply IsS46.drewN | apply IsS46.drew | apply IsS46.set_1 | refine IsS46.far ?_ NB0_330.out _ | refine IsS46.far ?_ NB0_340.out _ | refine IsS46.far ?_ NB0_352.out _) | exact HI0.out)) (Z10 HO_341002) (by decide)) hk (fun _ h => h.2)) (fun _ h => h.1))
       replace BK330 := Aside0.mk (KeepBut.blk hk (g' := gb330) (o := .cells #[.int .i64 0, .int .i64 0, .slice none 0 0] 27 (0, 0)) (sqK BK330) NB330_0.out (by simp))
       replace BK340 := Aside0.mk (KeepBut.blk hk (g' := gb340) (o := .cells #[.int .i64 x341000_1, .int .i64 x341001_1, .slice Ao19 x341002_1.length co19] 27 (0, 0)) (sqK BK340) NB340_0.out (by simp))
       replace BK352 := Aside0.mk (KeepBut.blk hk (g' := gb352) (o := .cells #[.int .i64 0, .int .i64 0, .slice none 0 0] 27 (0, 0)) (sqK BK352) NB352_0.out (by simp))
       replace HK := Aside0.mk (KeepBut.trans (Z48 GW330 GW340 GW352) hk (.inl rfl))
       replace HB := Aside0.mk (hb)
       replace HI0 := Aside0.mk (hi)
       (try clear hb)
       (try clear hb2)
       (try clear hk)
       (try clear hi)
       refine hK.out _ _ ⟨(blk_cell BK340.out 0).trans rfl, (blk_cell BK340.out 1).trans rfl, (blk_cell BK340.out 2).trans rfl⟩ (fun hHeld => ?_)
       clear hK K
       refine sqN (some 25) ?_
       refine one_ (i := 3) (N := some 26) #[true, true, true, true, false, false, false, true, false, false] rfl rfl (one_of HT_.out (by kernel_rfl)) (by decide) (fun K hK => ?_)
       refine goes_ Try.func16 (by kernel_rfl) rfl #[.agg #[.int .i64 x341000_1, .int .i64 x341001_1, .slice Ao19 x341002_1.length co19], .agg #[.int .i64 t343, .string t344]] (by rfl) rfl rfl sqA ?_
       with_reducible refine (spec_DeskDo.calls k1 x341000_1 x341001_1 _ _ x341002_1 t343 t344 t346 t347 t348 true _ ?side1 ?side2 A17.out).mono ?_
       (case side1 => exact Z33 HO_341002)
       (case side2 => exact Z31 HO_341002)
       rintro e w23 ⟨v349, rfl, ho0, hb⟩
       refine ⟨_, rfl, ?_⟩
       have HO350 := Aside0.mk (Kd.Q_lower (Kd.Q_new' ho0 (Kd.Q_lt (Z10 HO_341002))) (keep_size (w := w) (g := g) (row := none) (Z48 GW330 GW340 GW352)))
       replace HO_341002 := Aside0.mk (Kd.Q_elder' (Z10 HO_341002) (Kd.Q_base ho0) hb)
       replace BK330 := sqT BK330 hb
       replace BK340 := sqT BK340 hb
       replace BK352 := sqT BK352 hb
       replace HK := Aside0.mk (KeepBut.trans (Z48 GW330 GW340 GW352) (KeepBut.of_below hb g none) (.inl rfl))
       replace HB := Aside0.mk (below_step (Z49 HI0 GE330 GE340 GE352) hb)
       replace HI0 := Aside0.mk (IsS46.below (Z47 HI0 NB0_330 NB0_340 NB0_352) hb)
       (try clear hb)
       (try clear hb2)
       (try clear hk)
       (try clear hi)
       (try clear ho0)
       refine hK.out _ _ ⟨(blk_cell BK340.out 0).trans rfl, (blk_cell BK340.out 1).trans rfl, (blk_cell BK340.out 2).trans rfl⟩ (fun hHeld => ?_)
       clear hK K
       refine sqN (some 26) ?_
       refine sqP (i := 4) (N := some 22) (h := ?_)
       refine sqP (i := 5) (N := some 27) (h := ?_)
       refine sqP (i := 6) (N := some 28) (h := ?_)
       exact norm_ Z45 (hCont (v349, gb352) _ ⟨hHeld, (Z46 HO350), (Z46 HO_341002), (sqK BK330), (sqK BK340), (sqK BK352), GW352.out, GE352.out, NB0_352.out, NB352_0.out, NB330_352.out, NB352_330.out, NB340_352.out, NB352_340.out, (Z47 HI0 NB0_330 NB0_340 NB0_352), (Z48 GW330 GW340 GW352), (Z49 HI0 GE330 GE340 GE352)⟩)
     rintro ⟨v349, gb352⟩ w24 ⟨hS_, h0_, h1_, h2_, h3_, h4_, h5_, h6_, h7_, h8_, h9_, h10_, h11_, h12_, h13_, h14_, h15_⟩
     have n0_ : Aside0 (Kd.Q k24 24 w24 w.heap.size (fun k_ => some k_ ≠ (.slice Ao19 x341002_1.length co19 : Value).ownBlock) v349 t348) := ⟨h0_⟩
     have n1_ : Aside0 (Kd.Q k24 24 w24 w.heap.size (fun k_ => some k_ ≠ (v349 : Value).ownBlock) (.slice Ao19 x341002_1.length co19) x341002_1) := ⟨h1_⟩
     have n2_ : Aside0 (w24.heap[gb330]? = some (.cells #[.int .i64 0, .int .i64 0, .slice none 0 0] 27 (0, 0))) := ⟨h2_⟩
     have n3_ : Aside0 (w24.heap[gb340]? = some (.cells #[.int .i64 x341000_1, .int .i64 x341001_1, .slice Ao19 x341002_1.length co19] 27 (0, 0))) := ⟨h3_⟩
     have n4_ : Aside0 (w24.heap[gb352]? = some (.cells #[.int .i64 0, .int .i64 0, .slice none 0 0] 27 (0, 0))) := ⟨h4_⟩
     have n5_ : Aside0 (w.heap.size ≤ gb352) := ⟨h5_⟩
     have n6_ : Aside0 (w0.heap.size ≤ gb352) := ⟨h6_⟩
     have n7_ : Aside0 (g ≠ gb352) := ⟨h7_⟩
     have n8_ : Aside0 (gb352 ≠ g) := ⟨h8_⟩
     have n9_ : Aside0 (gb330 ≠ gb352) := ⟨h9_⟩
     have n10_ : Aside0 (gb352 ≠ gb330) := ⟨h10_⟩
     have n11_ : Aside0 (gb340 ≠ gb352) := ⟨h11_⟩
     have n12_ : Aside0 (gb352 ≠ gb340) := ⟨h12_⟩
     have n13_ : Aside0 (IsS46 w0 w24 g s0_0 t345) := ⟨h13_⟩
     have n14_ : Aside0 (KeepBut w w24 g none) := ⟨h14_⟩
     have n15_ : Aside0 (Below w0.heap.size w0 w24) := ⟨h15_⟩
     clear HO_341002
     clear BK330
     clear BK340
     clear HI0
     clear HK
     clear HB
     clear h0_ h1_ h2_ h3_ h4_ h5_ h6_ h7_ h8_ h9_ h10_ h11_ h12_ h13_ h14_ h15_
     have HO350 := n0_
     have HO_341002 := n1_
     have BK330 := n2_
     have BK340 := n3_
     have BK352 := n4_
     have GW352 := n5_
     have GE352 := n6_
     have NB0_352 := n7_
     have NB352_0 := n8_
     have NB330_352 := n9_
     have NB352_330 := n10_
     have NB340_352 := n11_
     have NB352_340 := n12_
     have HI0 := n13_
     have HK := n14_
     have HB := n15_
     clear n0_ n1_ n2_ n3_ n4_ n5_ n6_ n7_ n8_ n9_ n10_ n11_ n12_ n13_ n14_ n15_
     have hHeld : w24.cell? ⟨gb340, 0, none⟩ = some (.int .i64 x341000_1) ∧ w24.cell? ⟨gb340, 1, none⟩ = some (.int .i64 x341001_1) ∧ w24.cell? ⟨gb340, 2, none⟩ = some (.slice Ao19 x341002_1.length co19) := hS_
     obtain ⟨Ao27, co27, eo27, _⟩ := Kd.Q_slice HO350.out
     (first | subst eo27 | (injection eo27 with f1_ f2_ f3_; have f4_ := f1_.symm; have f5_ := f3_.symm; clear f1_ f2_ f3_; subst f4_; subst f5_))
     refine norm_ (a' := ?_) ?_ ?_
     rotate_left
     ·simp only [putAll, Act.put, List.setIfInBounds_toArray, List.set_cons_zero, List.set_cons_succ]
      rfl
     refine one_ (i := 8) (N := none) #[true, true, true, true, true, true, true, true, true, false] rfl rfl (one_of HT_.out (by kernel_rfl)) (by decide) (fun K hK => ?_)
     have hs25 : w24.cell? ⟨gb352, 0, none⟩ = some (.int .i64 0) := (blk_cell BK352.out 0).trans rfl
     have hfs25 := blk_frozen BK352.out 0
     have hns25_0 := NB330_352.out
     have hns25_1 := NB340_352.out
     have hms25_0 := NB352_330.out
     have hms25_1 := NB352_340.out
     have hs26 : w24.cell? ⟨gb352, 1, none⟩ = some (.int .i64 0) := (blk_cell BK352.out 1).trans rfl
     have hfs26 := blk_frozen BK352.out 1
     have hns26_0 := NB330_352.out
     have hns26_1 := NB340_352.out
     have hms26_0 := NB352_330.out
     have hms26_1 := NB352_340.out
     have hs28 : w24.cell? ⟨gb352, 2, none⟩ = some (.slice none 0 0) := (blk_cell BK352.out 2).trans rfl
     have hfs28 := blk_frozen BK352.out 2
     have hns28_0 := NB330_352.out
     have hns28_1 := NB340_352.out
     have hms28_0 := NB352_330.out
     have hms28_1 := NB352_340.out
     refine skip_ (w1 := ?_) (by rfl) rfl ?_ ?_
     rotate_left
     ·go_simp
      rfl
     refine hK.out _ _ ⟨((cell_far (p := ⟨gb352, _, none⟩) NB340_352.out _).trans (((cell_far (p := ⟨gb352, _, none⟩) NB340_352.out _).trans (((cell_far (p := ⟨gb352, _, none⟩) NB340_352.out _).trans (hHeld.1)))))), ((cell_far (p := ⟨gb352, _, none⟩) NB340_352.out _).trans (((cell_far (p := ⟨gb352, _, none⟩) NB340_352.out _).trans (((cell_far (p := ⟨gb352, _, none⟩) NB340_352.out _).trans (hHeld.2.1)))))), ((cell_far (p := ⟨gb352, _, none⟩) NB340_352.out _).trans (((cell_far (p := ⟨gb352, _, none⟩) NB340_352.out _).trans (((cell_far (p := ⟨gb352, _, none⟩) NB340_352.out _).trans (hHeld.2.2))))))⟩ (fun hHeld => ?_)
     clear hK K
     refine sqP (i := 9) (N := some 9) (h := ?_)
     refine done_ (done_of HT_.out (by kernel_rfl)) ?_
     have hnb29 := NB352_330.out
     have hnc29 := NB330_352.out
     have hnb30 := NB352_340.out
     have hnc30 := NB340_352.out
     have hnb31 := NB352_0.out
     have hnc31 := NB0_352.out
     obtain ⟨hcz32_0, hcz32_1, hcz32_2, hfz32_0, hfz32_1, hfz32_2⟩ := sqY3 BK352
     have hnb33 := NB340_330.out
     have hnc33 := NB330_340.out
     have hnb34 := NB340_0.out
     have hnc34 := NB0_340.out
     obtain ⟨hcz35_0, hcz35_1, hcz35_2, hfz35_0, hfz35_1, hfz35_2⟩ := sqY3 BK340
     try go_wp2
     go_roundg k1
     case measure => have := HK1.out; omega
     case rel => exact ⟨(wrap64 (x7_1 - 1)), (t345), (t346), (t347), (t348), (.slice Ao27 t348.length co27), Z2, H', ⟨Z15 HK1⟩, ⟨by (with_reducible repeat (first | apply Kd.Q_alloc | apply Kd.Q_drewN | apply Kd.Q_drew)); exact Kd.Q_mono (Kd.Q_far (p := ⟨gb340, 2, none⟩) (Kd.Q_far (p := ⟨gb340, 1, none⟩) (Kd.Q_far (p := ⟨gb340, 0, none⟩) (Kd.Q_far (p := ⟨gb352, 2, none⟩) (Kd.Q_far (p := ⟨gb352, 1, none⟩) (Kd.Q_far (p := ⟨gb352, 0, none⟩) (Kd.Q_types (Kd.Q_types HO350.out BK352.out (by decide)) BK340.out (by decide)) (fun _ hk => hk.1.2) (.int .i64 t346)) (fun _ hk => hk.1.2) (.int .i64 t347)) (fun _ hk => hk.1.2) (.slice Ao27 t348.length co27)) (fun _ hk => hk.2) (.int .i64 t346)) (fun _ hk => hk.2) (.int .i64 t347)) (fun _ hk => hk.2) (.slice Ao27 t348.length co27)) (fun _ hk => trivial)⟩, ⟨by refine sqFar ?_ NB330_340; refine sqFar ?_ NB330_340; refine sqFar ?_ NB330_340; refine sqFar ?_ NB330_352; refine sqFar ?_ NB330_352; refine sqFar ?_ NB330_352; exact sqK BK330⟩, ⟨by refine sqPut (cs := #[.int .i64 t346, .int .i64 t347, .slice Ao19 x341002_1.length co19]) ?_ 2; refine sqPut (cs := #[.int .i64 t346, .int .i64 x341001_1, .slice Ao19 x341002_1.length co19]) ?_ 1; refine sqPut (cs := #[.int .i64 x341000_1, .int .i64 x341001_1, .slice Ao19 x341002_1.length co19]) ?_ 0; refine sqFar ?_ NB340_352; refine sqFar ?_ NB340_352; refine sqFar ?_ NB340_352; exact sqK BK340⟩, ⟨Z47 HI0 NB0_330 NB0_340 NB0_352⟩, ⟨Z48 GW330 GW340 GW352⟩, ⟨Z49 HI0 GE330 GE340 GE352⟩⟩
    ·replace c18 := Bool.eq_false_iff.mpr c18
     subst c18
     have H1 : (spec_l20Desk.l0 k1 a1 (wrap64 (x7_1 - 1)) s0_0 t345 x341000_1 x341001_1 x341002_1) = some (r1, r2, r3, r4) := by rw [if_neg (show ¬ (false = true) by decide)] at H; exact H
     clear H
     have H := H1
     clear H1
     have H' := Aside0.mk H
     clear H
     obtain ⟨Ao36, co36, eo36, _⟩ := Kd.Q_slice HO_341002.out
     subst eo36
     try go_wp2
     replace HO_341002 := Aside0.mk (Kd.Q_drew HO_341002.out)
     replace BK330 := Aside0.mk (blk_drew BK330.out)
     replace BK340 := Aside0.mk (blk_drew BK340.out)
     replace HI0 := Aside0.mk (IsS46.drew HI0.out)
     replace HK := Aside0.mk (keep_drew HK.out)
     replace HB := Aside0.mk (below_drew1 HB.out)
     refine start_ (n := 10) (S := fun w' => w'.cell? ⟨gb340, 0, none⟩ = some (.int .i64 x341000_1) ∧ w'.cell? ⟨gb340, 1, none⟩ = some (.int .i64 x341001_1) ∧ w'.cell? ⟨gb340, 2, none⟩ = some (.slice Ao36 x341002_1.length co36)) (ds := []) #[false, false, false, false, false, false, false, false, false, false] (by kernel_rfl) rfl rfl ⟨(blk_cell BK340.out 0).trans rfl, (blk_cell BK340.out 1).trans rfl, (blk_cell BK340.out 2).trans rfl⟩ (fun hHeld => ?_); refine with_tabW spec_l20Desk.tab5 spec_l20Desk.bits5 (fun HT_ HW_ => ?_)
     generalize wr.drew = w37 at HO_341002 BK330 BK340 HI0 HK HB hHeld ⊢
     refine sqP (i := 1) (N := some 24) (h := ?_)
     refine take_ (i := 0) (N := some 23) (v := ?_) (a' := ?_) #[true, true, false, false, false, false, false, false, false, false] rfl rfl (take_ofW HT_.out HW_.out (by kernel_rfl)) (fun _ _ _ h => h) (Or.inl ⟨by rfl, ?_⟩) hHeld ?_ ?_
     rotate_left
     ·rintro w' ⟨s0, s1, s2⟩
      go_simp
      with_reducible rfl
     rotate_left
     ·simp only [Act.put, List.setIfInBounds_toArray, List.set_cons_zero, List.set_cons_succ, i64_w, i32_w]
      rfl
     refine join_ (σ := Value × Nat) 2 #[true, true, true, true, true, true, true, true, false, false] (fun s_ => [(25, .agg #[.int .i64 t343, .string t344]), (26, .tuple #[.agg #[.int .i64 t346, .int .i64 t347, s_.1], .bool false]), (8, .pointer (some ⟨s_.2, 0, none⟩)), (22, .tuple #[.agg #[.int .i64 t346, .int .i64 t347, s_.1], .bool false]), (27, .agg #[.int .i64 t346, .int .i64 t347, s_.1]), (28, .bool false)]) (fun s_ w' => (w'.cell? ⟨gb340, 0, none⟩ = some (.int .i64 x341000_1) ∧ w'.cell? ⟨gb340, 1, none⟩ = some (.int .i64 x341001_1) ∧ w'.cell? ⟨gb340, 2, none⟩ = some (.slice Ao36 x341002_1.length co36)) ∧ (Kd.Q k24 24 w' w.heap.size (fun k_ => some k_ ≠ (.slice Ao36 x341002_1.length co36 : Value).ownBlock) s_.1 t348) ∧ (Kd.Q k24 24 w' w.heap.size (fun k_ => some k_ ≠ (s_.1 : Value).ownBlock) (.slice Ao36 x341002_1.length co36) x341002_1) ∧ (w'.heap[gb330]? = some (.cells #[.int .i64 0, .int .i64 0, .slice none 0 0] 27 (0, 0))) ∧ (w'.heap[gb340]? = some (.cells #[.int .i64 x341000_1, .int .i64 x341001_1, .slice Ao36 x341002_1.length co36] 27 (0, 0))) ∧ (w'.heap[s_.2]? = some (.cells #[.int .i64 0, .int .i64 0, .slice none 0 0] 27 (0, 0))) ∧ (w.heap.size ≤ s_.2) ∧ (w0.heap.size ≤ s_.2) ∧ (g ≠ s_.2) ∧ (s_.2 ≠ g) ∧ (gb330 ≠ s_.2) ∧ (s_.2 ≠ gb330) ∧ (gb340 ≠ s_.2) ∧ (s_.2 ≠ gb340) ∧ (IsS46 w0 w' g s0_0 t345) ∧ (KeepBut w w' g none) ∧ (Below w0.heap.size w0 w')) ?_ ?_
     rotate_left
     ·intro hCont
      refine two_ (i := 2) (j := 7) (Ni := some 25) (Nj := some 8) #[true, true, true, false, false, false, false, false, false, false] #[true, true, false, false, false, false, false, true, false, false] rfl rfl rfl rfl (two_of HT_.out (by kernel_rfl)) (by decide) (by decide) (fun K hK => ?_) (fun K hK => ?_)
      ·skip
       refine goes_ Try.func17 (by kernel_rfl) rfl #[.pointer (some ⟨g, 0, none⟩)] (by rfl) rfl rfl sqA ?_
       with_reducible refine (spec_l20Deed.calls k1 g s0_0 x1001_1 t343 t344 t345 w0 _ ?side1 ?side2 A16.out).mono ?_
       (case side1 => exact Z38 HI0 NB0_330 NB0_340)
       (case side2 => exact Z39 HI0 GE330 GE340)
       rintro e w38 ⟨rfl, hi, hb, hk⟩
       refine ⟨_, rfl, ?_⟩
       replace HO_341002 := Aside0.mk (Kd.Q_mono (Kd.Q_keep (IsS46.apartQ (show IsS46 w0 _ g s0_0 x1001_1 from by repeat (first | (with_reducible first | exact HI0.out | apply IsS46.alloc | apply IsS46.drewN | apply IsS46.drew | apply IsS46.set_1 | refine IsS46.far ?_ NB0_330.out _ | refine IsS46.far ?_ NB0_340.out _) | exact HI0.out)) (Z10 HO_341002) (by decide)) hk (fun _ h => h.2)) (fun _ h => h.1))
       replace BK330 := Aside0.mk (KeepBut.blk hk (g' := gb330) (o := .cells #[.int .i64 0, .int .i64 0, .slice none 0 0] 27 (0, 0)) (sqK BK330) NB330_0.out (by simp))
       replace BK340 := Aside0.mk (KeepBut.blk hk (g' := gb340) (o := .cells #[.int .i64 x341000_1, .int .i64 x341001_1, .slice Ao36 x341002_1.length co36] 27 (0, 0)) (sqK BK340) NB340_0.out (by simp))
       replace HK := Aside0.mk (KeepBut.trans (Z40 GW330 GW340) hk (.inl rfl))
       replace HB := Aside0.mk (hb)
       replace HI0 := Aside0.mk (hi)
       (try clear hb)
       (try clear hb2)
       (try clear hk)
       (try clear hi)
       refine hK.out _ _ ⟨(blk_cell BK340.out 0).trans rfl, (blk_cell BK340.out 1).trans rfl, (blk_cell BK340.out 2).trans rfl⟩ (fun hHeld => ?_)
       clear hK K
       refine sqN (some 25) ?_
       refine two_ (i := 3) (j := 7) (Ni := some 26) (Nj := some 8) #[true, true, true, true, false, false, false, false, false, false] #[true, true, true, false, false, false, false, true, false, false] rfl rfl rfl rfl (two_of HT_.out (by kernel_rfl)) (by decide) (by decide) (fun K hK => ?_) (fun K hK => ?_)
       ·skip
        refine goes_ Try.func16 (by kernel_rfl) rfl #[.agg #[.int .i64 x341000_1, .int .i64 x341001_1, .slice Ao36 x341002_1.length co36], .agg #[.int .i64 t343, .string t344]] (by rfl) rfl rfl sqA ?_
        with_reducible refine (spec_DeskDo.calls k1 x341000_1 x341001_1 _ _ x341002_1 t343 t344 t346 t347 t348 false _ ?side1 ?side2 A17.out).mono ?_
        (case side1 => exact Z33 HO_341002)
        (case side2 => exact Z31 HO_341002)
        rintro e w39 ⟨v349, rfl, ho0, hb⟩
        refine ⟨_, rfl, ?_⟩
        have HO350 := Aside0.mk (Kd.Q_lower (Kd.Q_new' ho0 (Kd.Q_lt (Z10 HO_341002))) (keep_size (w := w) (g := g) (row := none) (Z40 GW330 GW340)))
        replace HO_341002 := Aside0.mk (Kd.Q_elder' (Z10 HO_341002) (Kd.Q_base ho0) hb)
        replace BK330 := sqT BK330 hb
        replace BK340 := sqT BK340 hb
        replace HK := Aside0.mk (KeepBut.trans (Z40 GW330 GW340) (KeepBut.of_below hb g none) (.inl rfl))
        replace HB := Aside0.mk (below_step (Z39 HI0 GE330 GE340) hb)
        replace HI0 := Aside0.mk (IsS46.below (Z38 HI0 NB0_330 NB0_340) hb)
        (try clear hb)
        (try clear hb2)
        (try clear hk)
        (try clear hi)
        (try clear ho0)
        refine hK.out _ _ ⟨(blk_cell BK340.out 0).trans rfl, (blk_cell BK340.out 1).trans rfl, (blk_cell BK340.out 2).trans rfl⟩ (fun hHeld => ?_)
        clear hK K
        refine sqN (some 26) ?_
        refine sqP (i := 4) (N := some 22) (h := ?_)
        refine sqP (i := 5) (N := some 27) (h := ?_)
        refine sqP (i := 6) (N := some 28) (h := ?_)
        refine one_ (i := 7) (N := some 8) #[true, true, true, true, true, true, true, true, false, false] rfl rfl (one_of HT_.out (by kernel_rfl)) (by decide) (fun K hK => ?_)
        refine box_step ?hg (N := 8) ?hd (cs := #[.int .i64 0, .int .i64 0, .slice none 0 0]) (t := 27) ?hr ?_; (case hd => rfl); (case hg => rfl); (case hr => exact Z8)
        intro gb352 hg w40 hbox hb
        replace HO_341002 := Aside0.mk (Kd.Q_below (Z10 HO_341002) hb)
        replace HO350 := Aside0.mk (Kd.Q_below (Z10 HO350) hb)
        replace HB := Aside0.mk (below_step (Z39 HI0 GE330 GE340) hb)
        have BK352 := Aside0.mk (hbox)
        have GW352 := Aside0.mk ((Z79 GW330 GW340 : w.heap.size ≤ gb352))
        have GE352 := Aside0.mk ((Nat.le_trans HW0.out (Z79 GW330 GW340 : w.heap.size ≤ gb352) : w0.heap.size ≤ gb352))
        replace HK := Aside0.mk (KeepBut.trans (Z40 GW330 GW340) (KeepBut.of_below hb g none) (.inl rfl))
        have NB330_352 := Aside0.mk ((Z41 BK330 : gb330 ≠ gb352))
        have NB352_330 := Aside0.mk ((Z42 BK330 : gb352 ≠ gb330))
        replace BK330 := sqT BK330 hb
        have NB340_352 := Aside0.mk ((Z41 BK340 : gb340 ≠ gb352))
        have NB352_340 := Aside0.mk ((Z42 BK340 : gb352 ≠ gb340))
        replace BK340 := sqT BK340 hb
        have NB0_352 := Aside0.mk ((Z43 HI0 NB0_330 NB0_340 : g ≠ gb352))
        have NB352_0 := Aside0.mk ((Z44 HI0 NB0_330 NB0_340 : gb352 ≠ g))
        replace HI0 := Aside0.mk (IsS46.below (Z38 HI0 NB0_330 NB0_340) hb)
        clear hb hbox hg
        refine hK.out _ _ ⟨(blk_cell BK340.out 0).trans rfl, (blk_cell BK340.out 1).trans rfl, (blk_cell BK340.out 2).trans rfl⟩ (fun hHeld => ?_)
        clear hK K
        refine sqN (some 8) ?_
        exact norm_ Z45 (hCont (v349, gb352) _ ⟨hHeld, (Z46 HO350), (Z46 HO_341002), (sqK BK330), (sqK BK340), (sqK BK352), GW352.out, GE352.out, NB0_352.out, NB352_0.out, NB330_352.out, NB352_330.out, NB340_352.out, NB352_340.out, (Z47 HI0 NB0_330 NB0_340 NB0_352), (Z48 GW330 GW340 GW352), (Z49 HI0 GE330 GE340 GE352)⟩)
       ·skip
        refine box_step ?hg (N := 8) ?hd (cs := #[.int .i64 0, .int .i64 0, .slice none 0 0]) (t := 27) ?hr ?_; (case hd => rfl); (case hg => rfl); (case hr => exact Z8)
        intro gb352 hg w39 hbox hb
        replace HO_341002 := Aside0.mk (Kd.Q_below (Z10 HO_341002) hb)
        replace HB := Aside0.mk (below_step (Z39 HI0 GE330 GE340) hb)
        have BK352 := Aside0.mk (hbox)
        have GW352 := Aside0.mk ((Z79 GW330 GW340 : w.heap.size ≤ gb352))
        have GE352 := Aside0.mk ((Nat.le_trans HW0.out (Z79 GW330 GW340 : w.heap.size ≤ gb352) : w0.heap.size ≤ gb352))
        replace HK := Aside0.mk (KeepBut.trans (Z40 GW330 GW340) (KeepBut.of_below hb g none) (.inl rfl))
        have NB330_352 := Aside0.mk ((Z41 BK330 : gb330 ≠ gb352))
        have NB352_330 := Aside0.mk ((Z42 BK330 : gb352 ≠ gb330))
        replace BK330 := sqT BK330 hb
        have NB340_352 := Aside0.mk ((Z41 BK340 : gb340 ≠ gb352))
        have NB352_340 := Aside0.mk ((Z42 BK340 : gb352 ≠ gb340))
        replace BK340 := sqT BK340 hb
        have NB0_352 := Aside0.mk ((Z43 HI0 NB0_330 NB0_340 : g ≠ gb352))
        have NB352_0 := Aside0.mk ((Z44 HI0 NB0_330 NB0_340 : gb352 ≠ g))
        replace HI0 := Aside0.mk (IsS46.below (Z38 HI0 NB0_330 NB0_340) hb)
        clear hb hbox hg
        refine hK.out _ _ ⟨(blk_cell BK340.out 0).trans rfl, (blk_cell BK340.out 1).trans rfl, (blk_cell BK340.out 2).trans rfl⟩ (fun hHeld => ?_)
        clear hK K
        refine sqN (some 8) ?_
        refine one_ (i := 3) (N := some 26) #[true, true, true, true, false, false, false, true, false, false] rfl rfl (one_of HT_.out (by kernel_rfl)) (by decide) (fun K hK => ?_)
        refine goes_ Try.func16 (by kernel_rfl) rfl #[.agg #[.int .i64 x341000_1, .int .i64 x341001_1, .slice Ao36 x341002_1.length co36], .agg #[.int .i64 t343, .string t344]] (by rfl) rfl rfl sqA ?_
        with_reducible refine (spec_DeskDo.calls k1 x341000_1 x341001_1 _ _ x341002_1 t343 t344 t346 t347 t348 false _ ?side1 ?side2 A17.out).mono ?_
        (case side1 => exact Z33 HO_341002)
        (case side2 => exact Z31 HO_341002)
        rintro e w40 ⟨v349, rfl, ho0, hb⟩
        refine ⟨_, rfl, ?_⟩
        have HO350 := Aside0.mk (Kd.Q_lower (Kd.Q_new' ho0 (Kd.Q_lt (Z10 HO_341002))) (keep_size (w := w) (g := g) (row := none) (Z48 GW330 GW340 GW352)))
        replace HO_341002 := Aside0.mk (Kd.Q_elder' (Z10 HO_341002) (Kd.Q_base ho0) hb)
        replace BK330 := sqT BK330 hb
        replace BK340 := sqT BK340 hb
        replace BK352 := sqT BK352 hb
        replace HK := Aside0.mk (KeepBut.trans (Z48 GW330 GW340 GW352) (KeepBut.of_below hb g none) (.inl rfl))
        replace HB := Aside0.mk (below_step (Z49 HI0 GE330 GE340 GE352) hb)
        replace HI0 := Aside0.mk (IsS46.below (Z47 HI0 NB0_330 NB0_340 NB0_352) hb)
        (try clear hb)
        (try clear hb2)
        (try clear hk)
        (try clear hi)
        (try clear ho0)
        refine hK.out _ _ ⟨(blk_cell BK340.out 0).trans rfl, (blk_cell BK340.out 1).trans rfl, (blk_cell BK340.out 2).trans rfl⟩ (fun hHeld => ?_)
        clear hK K
        refine sqN (some 26) ?_
        refine sqP (i := 4) (N := some 22) (h := ?_)
        refine sqP (i := 5) (N := some 27) (h := ?_)
        refine sqP (i := 6) (N := some 28) (h := ?_)
        exact norm_ Z45 (hCont (v349, gb352) _ ⟨hHeld, (Z46 HO350), (Z46 HO_341002), (sqK BK330), (sqK BK340), (sqK BK352), GW352.out, GE352.out, NB0_352.out, NB352_0.out, NB330_352.out, NB352_330.out, NB340_352.out, NB352_340.out, (Z47 HI0 NB0_330 NB0_340 NB0_352), (Z48 GW330 GW340 GW352), (Z49 HI0 GE330 GE340 GE352)⟩)
      ·skip
       refine box_step ?hg (N := 8) ?hd (cs := #[.int .i64 0, .int .i64 0, .slice none 0 0]) (t := 27) ?hr ?_; (case hd => rfl); (case hg => rfl); (case hr => exact Z8)
       intro gb352 hg w38 hbox hb
       replace HO_341002 := Aside0.mk (Kd.Q_below (Z10 HO_341002) hb)
       replace HB := Aside0.mk (below_step (Z39 HI0 GE330 GE340) hb)
       have BK352 := Aside0.mk (hbox)
       have GW352 := Aside0.mk ((Z79 GW330 GW340 : w.heap.size ≤ gb352))
       have GE352 := Aside0.mk ((Nat.le_trans HW0.out (Z79 GW330 GW340 : w.heap.size ≤ gb352) : w0.heap.size ≤ gb352))
       replace HK := Aside0.mk (KeepBut.trans (Z40 GW330 GW340) (KeepBut.of_below hb g none) (.inl rfl))
       have NB330_352 := Aside0.mk ((Z41 BK330 : gb330 ≠ gb352))
       have NB352_330 := Aside0.mk ((Z42 BK330 : gb352 ≠ gb330))
       replace BK330 := sqT BK330 hb
       have NB340_352 := Aside0.mk ((Z41 BK340 : gb340 ≠ gb352))
       have NB352_340 := Aside0.mk ((Z42 BK340 : gb352 ≠ gb340))
       replace BK340 := sqT BK340 hb
       have NB0_352 := Aside0.mk ((Z50 HI0 NB0_330 NB0_340 : g ≠ gb352))
       have NB352_0 := Aside0.mk ((Z51 HI0 NB0_330 NB0_340 : gb352 ≠ g))
       replace HI0 := Aside0.mk (IsS46.below (Z38 HI0 NB0_330 NB0_340) hb)
       clear hb hbox hg
       refine hK.out _ _ ⟨(blk_cell BK340.out 0).trans rfl, (blk_cell BK340.out 1).trans rfl, (blk_cell BK340.out 2).trans rfl⟩ (fun hHeld => ?_)
       clear hK K
       refine sqN (some 8) ?_
       refine one_ (i := 2) (N := some 25) #[true, true, true, false, false, false, false, true, false, false] rfl rfl (one_of HT_.out (by kernel_rfl)) (by decide) (fun K hK => ?_)
       refine goes_ Try.func17 (by kernel_rfl) rfl #[.pointer (some ⟨g, 0, none⟩)] (by rfl) rfl rfl sqA ?_
       with_reducible refine (spec_l20Deed.calls k1 g s0_0 x1001_1 t343 t344 t345 w0 _ ?side1 ?side2 A16.out).mono ?_
       (case side1 => exact Z47 HI0 NB0_330 NB0_340 NB0_352)
       (case side2 => exact Z49 HI0 GE330 GE340 GE352)
       rintro e w39 ⟨rfl, hi, hb, hk⟩
       refine ⟨_, rfl, ?_⟩
       replace HO_341002 := Aside0.mk (Kd.Q_mono (Kd.Q_keep (IsS46.apartQ (show IsS46 w0 _ g s0_0 x1001_1 from by repeat (first | (with_reducible first | exact HI0.out | apply IsS46.alloc | apply IsS46.drewN | apply IsS46.drew | apply IsS46.set_1 | refine IsS46.far ?_ NB0_330.out _ | refine IsS46.far ?_ NB0_340.out _ | refine IsS46.far ?_ NB0_352.out _) | exact HI0.out)) (Z10 HO_341002) (by decide)) hk (fun _ h => h.2)) (fun _ h => h.1))
       replace BK330 := Aside0.mk (KeepBut.blk hk (g' := gb330) (o := .cells #[.int .i64 0, .int .i64 0, .slice none 0 0] 27 (0, 0)) (sqK BK330) NB330_0.out (by simp))
       replace BK340 := Aside0.mk (KeepBut.blk hk (g' := gb340) (o := .cells #[.int .i64 x341000_1, .int .i64 x341001_1, .slice Ao36 x341002_1.length co36] 27 (0, 0)) (sqK BK340) NB340_0.out (by simp))
       replace BK352 := Aside0.mk (KeepBut.blk hk (g' := gb352) (o := .cells #[.int .i64 0, .int .i64 0, .slice none 0 0] 27 (0, 0)) (sqK BK352) NB352_0.out (by simp))
       replace HK := Aside0.mk (KeepBut.trans (Z48 GW330 GW340 GW352) hk (.inl rfl))
       replace HB := Aside0.mk (hb)
       replace HI0 := Aside0.mk (hi)
       (try clear hb)
       (try clear hb2)
       (try clear hk)
       (try clear hi)
       refine hK.out _ _ ⟨(blk_cell BK340.out 0).trans rfl, (blk_cell BK340.out 1).trans rfl, (blk_cell BK340.out 2).trans rfl⟩ (fun hHeld => ?_)
       clear hK K
       refine sqN (some 25) ?_
       refine one_ (i := 3) (N := some 26) #[true, true, true, true, false, false, false, true, false, false] rfl rfl (one_of HT_.out (by kernel_rfl)) (by decide) (fun K hK => ?_)
       refine goes_ Try.func16 (by kernel_rfl) rfl #[.agg #[.int .i64 x341000_1, .int .i64 x341001_1, .slice Ao36 x341002_1.length co36], .agg #[.int .i64 t343, .string t344]] (by rfl) rfl rfl sqA ?_
       with_reducible refine (spec_DeskDo.calls k1 x341000_1 x341001_1 _ _ x341002_1 t343 t344 t346 t347 t348 false _ ?side1 ?side2 A17.out).mono ?_
       (case side1 => exact Z33 HO_341002)
       (case side2 => exact Z31 HO_341002)
       rintro e w40 ⟨v349, rfl, ho0, hb⟩
       refine ⟨_, rfl, ?_⟩
       have HO350 := Aside0.mk (Kd.Q_lower (Kd.Q_new' ho0 (Kd.Q_lt (Z10 HO_341002))) (keep_size (w := w) (g := g) (row := none) (Z48 GW330 GW340 GW352)))
       replace HO_341002 := Aside0.mk (Kd.Q_elder' (Z10 HO_341002) (Kd.Q_base ho0) hb)
       replace BK330 := sqT BK330 hb
       replace BK340 := sqT BK340 hb
       replace BK352 := sqT BK352 hb
       replace HK := Aside0.mk (KeepBut.trans (Z48 GW330 GW340 GW352) (KeepBut.of_below hb g none) (.inl rfl))
       replace HB := Aside0.mk (below_step (Z49 HI0 GE330 GE340 GE352) hb)
       replace HI0 := Aside0.mk (IsS46.below (Z47 HI0 NB0_330 NB0_340 NB0_352) hb)
       (try clear hb)
       (try clear hb2)
       (try clear hk)
       (try clear hi)
       (try clear ho0)
       refine hK.out _ _ ⟨(blk_cell BK340.out 0).trans rfl, (blk_cell BK340.out 1).trans rfl, (blk_cell BK340.out 2).trans rfl⟩ (fun hHeld => ?_)
       clear hK K
       refine sqN (some 26) ?_
       refine sqP (i := 4) (N := some 22) (h := ?_)
       refine sqP (i := 5) (N := some 27) (h := ?_)
       refine sqP (i := 6) (N := some 28) (h := ?_)
       exact norm_ Z45 (hCont (v349, gb352) _ ⟨hHeld, (Z46 HO350), (Z46 HO_341002), (sqK BK330), (sqK BK340), (sqK BK352), GW352.out, GE352.out, NB0_352.out, NB352_0.out, NB330_352.out, NB352_330.out, NB340_352.out, NB352_340.out, (Z47 HI0 NB0_330 NB0_340 NB0_352), (Z48 GW330 GW340 GW352), (Z49 HI0 GE330 GE340 GE352)⟩)
     rintro ⟨v349, gb352⟩ w41 ⟨hS_, h0_, h1_, h2_, h3_, h4_, h5_, h6_, h7_, h8_, h9_, h10_, h11_, h12_, h13_, h14_, h15_⟩
     have n0_ : Aside0 (Kd.Q k24 24 w41 w.heap.size (fun k_ => some k_ ≠ (.slice Ao36 x341002_1.length co36 : Value).ownBlock) v349 t348) := ⟨h0_⟩
     have n1_ : Aside0 (Kd.Q k24 24 w41 w.heap.size (fun k_ => some k_ ≠ (v349 : Value).ownBlock) (.slice Ao36 x341002_1.length co36) x341002_1) := ⟨h1_⟩
     have n2_ : Aside0 (w41.heap[gb330]? = some (.cells #[.int .i64 0, .int .i64 0, .slice none 0 0] 27 (0, 0))) := ⟨h2_⟩
     have n3_ : Aside0 (w41.heap[gb340]? = some (.cells #[.int .i64 x341000_1, .int .i64 x341001_1, .slice Ao36 x341002_1.length co36] 27 (0, 0))) := ⟨h3_⟩
     have n4_ : Aside0 (w41.heap[gb352]? = some (.cells #[.int .i64 0, .int .i64 0, .slice none 0 0] 27 (0, 0))) := ⟨h4_⟩
     have n5_ : Aside0 (w.heap.size ≤ gb352) := ⟨h5_⟩
     have n6_ : Aside0 (w0.heap.size ≤ gb352) := ⟨h6_⟩
     have n7_ : Aside0 (g ≠ gb352) := ⟨h7_⟩
     have n8_ : Aside0 (gb352 ≠ g) := ⟨h8_⟩
     have n9_ : Aside0 (gb330 ≠ gb352) := ⟨h9_⟩
     have n10_ : Aside0 (gb352 ≠ gb330) := ⟨h10_⟩
     have n11_ : Aside0 (gb340 ≠ gb352) := ⟨h11_⟩
     have n12_ : Aside0 (gb352 ≠ gb340) := ⟨h12_⟩
     have n13_ : Aside0 (IsS46 w0 w41 g s0_0 t345) := ⟨h13_⟩
     have n14_ : Aside0 (KeepBut w w41 g none) := ⟨h14_⟩
     have n15_ : Aside0 (Below w0.heap.size w0 w41) := ⟨h15_⟩
     clear HO_341002
     clear BK330
     clear BK340
     clear HI0
     clear HK
     clear HB
     clear h0_ h1_ h2_ h3_ h4_ h5_ h6_ h7_ h8_ h9_ h10_ h11_ h12_ h13_ h14_ h15_
     have HO350 := n0_
     have HO_341002 := n1_
     have BK330 := n2_
     have BK340 := n3_
     have BK352 := n4_
     have GW352 := n5_
     have GE352 := n6_
     have NB0_352 := n7_
     have NB352_0 := n8_
     have NB330_352 := n9_
     have NB352_330 := n10_
     have NB340_352 := n11_
     have NB352_340 := n12_
     have HI0 := n13_
     have HK := n14_
     have HB := n15_
     clear n0_ n1_ n2_ n3_ n4_ n5_ n6_ n7_ n8_ n9_ n10_ n11_ n12_ n13_ n14_ n15_
     have hHeld : w41.cell? ⟨gb340, 0, none⟩ = some (.int .i64 x341000_1) ∧ w41.cell? ⟨gb340, 1, none⟩ = some (.int .i64 x341001_1) ∧ w41.cell? ⟨gb340, 2, none⟩ = some (.slice Ao36 x341002_1.length co36) := hS_
     obtain ⟨Ao44, co44, eo44, _⟩ := Kd.Q_slice HO350.out
     (first | subst eo44 | (injection eo44 with f1_ f2_ f3_; have f4_ := f1_.symm; have f5_ := f3_.symm; clear f1_ f2_ f3_; subst f4_; subst f5_))
     refine norm_ (a' := ?_) ?_ ?_
     rotate_left
     ·simp only [putAll, Act.put, List.setIfInBounds_toArray, List.set_cons_zero, List.set_cons_succ]
      rfl
     refine one_ (i := 8) (N := none) #[true, true, true, true, true, true, true, true, true, false] rfl rfl (one_of HT_.out (by kernel_rfl)) (by decide) (fun K hK => ?_)
     have hs42 : w41.cell? ⟨gb352, 0, none⟩ = some (.int .i64 0) := (blk_cell BK352.out 0).trans rfl
     have hfs42 := blk_frozen BK352.out 0
     have hns42_0 := NB330_352.out
     have hns42_1 := NB340_352.out
     have hms42_0 := NB352_330.out
     have hms42_1 := NB352_340.out
     have hs43 : w41.cell? ⟨gb352, 1, none⟩ = some (.int .i64 0) := (blk_cell BK352.out 1).trans rfl
     have hfs43 := blk_frozen BK352.out 1
     have hns43_0 := NB330_352.out
     have hns43_1 := NB340_352.out
     have hms43_0 := NB352_330.out
     have hms43_1 := NB352_340.out
     have hs45 : w41.cell? ⟨gb352, 2, none⟩ = some (.slice none 0 0) := (blk_cell BK352.out 2).trans rfl
     have hfs45 := blk_frozen BK352.out 2
     have hns45_0 := NB330_352.out
     have hns45_1 := NB340_352.out
     have hms45_0 := NB352_330.out
     have hms45_1 := NB352_340.out
     refine skip_ (w1 := ?_) (by rfl) rfl ?_ ?_
     rotate_left
     ·go_simp
      rfl
     refine hK.out _ _ ⟨((cell_far (p := ⟨gb352, _, none⟩) NB340_352.out _).trans (((cell_far (p := ⟨gb352, _, none⟩) NB340_352.out _).trans (((cell_far (p := ⟨gb352, _, none⟩) NB340_352.out _).trans (hHeld.1)))))), ((cell_far (p := ⟨gb352, _, none⟩) NB340_352.out _).trans (((cell_far (p := ⟨gb352, _, none⟩) NB340_352.out _).trans (((cell_far (p := ⟨gb352, _, none⟩) NB340_352.out _).trans (hHeld.2.1)))))), ((cell_far (p := ⟨gb352, _, none⟩) NB340_352.out _).trans (((cell_far (p := ⟨gb352, _, none⟩) NB340_352.out _).trans (((cell_far (p := ⟨gb352, _, none⟩) NB340_352.out _).trans (hHeld.2.2))))))⟩ (fun hHeld => ?_)
     clear hK K
     refine sqP (i := 9) (N := some 9) (h := ?_)
     refine done_ (done_of HT_.out (by kernel_rfl)) ?_
     try go_wp2
     go_roundg k1
     case measure => have := HK1.out; omega
     case rel => exact ⟨(wrap64 (x7_1 - 1)), (t345), (x341000_1), (x341001_1), (x341002_1), (.slice Ao36 x341002_1.length co36), Z2, H', ⟨Z15 HK1⟩, ⟨by (with_reducible repeat (first | apply Kd.Q_alloc | apply Kd.Q_drewN | apply Kd.Q_drew)); exact Kd.Q_mono (Kd.Q_far (p := ⟨gb352, 2, none⟩) (Kd.Q_far (p := ⟨gb352, 1, none⟩) (Kd.Q_far (p := ⟨gb352, 0, none⟩) (Kd.Q_types HO_341002.out BK352.out (by decide)) (fun _ hk => hk.2) (.int .i64 t346)) (fun _ hk => hk.2) (.int .i64 t347)) (fun _ hk => hk.2) (.slice Ao44 t348.length co44)) (fun _ hk => trivial)⟩, ⟨Z5 NB330_352 BK330⟩, ⟨Z5 NB340_352 BK340⟩, ⟨Z47 HI0 NB0_330 NB0_340 NB0_352⟩, ⟨Z48 GW330 GW340 GW352⟩, ⟨Z49 HI0 GE330 GE340 GE352⟩⟩
   ·rw [if_neg c15] at H
    have c15b0 : decide (0 < x7_1) = false := decide_eq_false c15
    clear c15
    replace H := Option.bind_eq_some_iff.mp H
    obtain ⟨⟨t353, t354⟩, A460, H⟩ := H
    replace H : (if t353 = true then ((spec_l20Rd_pick.f k1 s0_0 t354 3).bind fun bt355 => (if bt355.1 = 0 then (some (2, 2, x341002_1, bt355.2)) else (if bt355.1 = 1 then (if x341002_1.length < 8796093022208 then (some (x341000_1, x341001_1, (x341002_1 ++ [(⟨0, 0⟩ : S24)]), bt355.2)) else (none)) else (some (0, 0, ([] : List (S24)), bt355.2))))) else (some (x341000_1, x341001_1, x341002_1, t354))) = some (r1, r2, r3, r4) := H
    have A46 := Aside0.mk A460
    clear A460
    by_cases c47 : t353 = true
    ·subst c47
     have H1 : ((spec_l20Rd_pick.f k1 s0_0 t354 3).bind fun bt355 => (if bt355.1 = 0 then (some (2, 2, x341002_1, bt355.2)) else (if bt355.1 = 1 then (if x341002_1.length < 8796093022208 then (some (x341000_1, x341001_1, (x341002_1 ++ [(⟨0, 0⟩ : S24)]), bt355.2)) else (none)) else (some (0, 0, ([] : List (S24)), bt355.2))))) = some (r1, r2, r3, r4) := by rw [if_pos rfl] at H; exact H
     clear H
     have H := H1
     clear H1
     replace H := Option.bind_eq_some_iff.mp H
     obtain ⟨⟨t355, t356⟩, A480, H⟩ := H
     replace H : (if t355 = 0 then (some (2, 2, x341002_1, t356)) else (if t355 = 1 then (if x341002_1.length < 8796093022208 then (some (x341000_1, x341001_1, (x341002_1 ++ [(⟨0, 0⟩ : S24)]), t356)) else (none)) else (some (0, 0, ([] : List (S24)), t356)))) = some (r1, r2, r3, r4) := H
     have A48 := Aside0.mk A480
     clear A480
     by_cases c49 : t355 = 0
     ·rw [if_pos c49] at H
      have c49b0 : (t355 == 0) = true := beq_iff_eq.mpr c49
      have c49b1 : (t355 != 0) = false := bne_eq_false_iff_eq.mpr c49
      clear c49
      simp only [Option.some.injEq, Prod.mk.injEq] at H
      obtain ⟨rfl, rfl, rfl, rfl⟩ := H
      go_wp2_with (first | ((with_reducible refine gate_callee (f := 18) rfl ?_); refine goesL_ (some 33) rfl rfl Try.func18 (by kernel_rfl) rfl #[.pointer (some ⟨g, 0, none⟩), .int .i64 a1] rfl sqA ?_; (with_reducible refine (spec_l20Rd_odd.calls k1 g s0_0 x1001_1 a1 true t354 w0 _ ?side1 ?side2 A46.out).mono ?_); (case side1 => exact Z38 HI0 NB0_330 NB0_340); (case side2 => exact Z39 HI0 GE330 GE340); rintro e w50 ⟨rfl, hi, hb, hk⟩; refine ⟨_, rfl, ?_⟩; replace HO_341002 := Aside0.mk (Kd.Q_mono (Kd.Q_keep (IsS46.apartQ (show IsS46 w0 _ g s0_0 x1001_1 from by repeat (first | (with_reducible first | exact HI0.out | apply IsS46.alloc | apply IsS46.drewN | apply IsS46.drew | apply IsS46.set_1 | refine IsS46.far ?_ NB0_330.out _ | refine IsS46.far ?_ NB0_340.out _) | exact HI0.out)) (Z10 HO_341002) (by decide)) hk (fun _ h => h.2)) (fun _ h => h.1)); replace BK330 := Aside0.mk (KeepBut.blk hk (g' := gb330) (o := .cells #[.int .i64 0, .int .i64 0, .slice none 0 0] 27 (0, 0)) (sqK BK330) NB330_0.out (by simp)); replace BK340 := Aside0.mk (KeepBut.blk hk (g' := gb340) (o := .cells #[.int .i64 x341000_1, .int .i64 x341001_1, u341002] 27 (0, 0)) (sqK BK340) NB340_0.out (by simp)); replace HK := Aside0.mk (KeepBut.trans (Z40 GW330 GW340) hk (.inl rfl)); replace HB := Aside0.mk (hb); replace HI0 := Aside0.mk (hi); (try clear hb)) | ((with_reducible refine gate_callee (f := 15) rfl ?_); refine goesL_ (some 35) rfl rfl Try.func15 (by kernel_rfl) rfl #[.pointer (some ⟨g, 0, none⟩), .int .i64 3] rfl sqA ?_; (with_reducible refine (spec_l20Rd_pick.calls k1 g s0_0 t354 3 t355 t356 w0 _ ?side1 ?side2 A48.out).mono ?_); (case side1 => exact Z38 HI0 NB0_330 NB0_340); (case side2 => exact Z39 HI0 GE330 GE340); rintro e w51 ⟨rfl, hi, hb, hk⟩; refine ⟨_, rfl, ?_⟩; replace HO_341002 := Aside0.mk (Kd.Q_mono (Kd.Q_keep (IsS46.apartQ (show IsS46 w0 _ g s0_0 t354 from by repeat (first | (with_reducible first | exact HI0.out | apply IsS46.alloc | apply IsS46.drewN | apply IsS46.drew | apply IsS46.set_1 | refine IsS46.far ?_ NB0_330.out _ | refine IsS46.far ?_ NB0_340.out _) | exact HI0.out)) (Z10 HO_341002) (by decide)) hk (fun _ h => h.2)) (fun _ h => h.1)); replace BK330 := Aside0.mk (KeepBut.blk hk (g' := gb330) (o := .cells #[.int .i64 0, .int .i64 0, .slice none 0 0] 27 (0, 0)) (sqK BK330) NB330_0.out (by simp)); replace BK340 := Aside0.mk (KeepBut.blk hk (g' := gb340) (o := .cells #[.int .i64 x341000_1, .int .i64 x341001_1, u341002] 27 (0, 0)) (sqK BK340) NB340_0.out (by simp)); replace HK := Aside0.mk (KeepBut.trans (Z40 GW330 GW340) hk (.inl rfl)); replace HB := Aside0.mk (hb); replace HI0 := Aside0.mk (hi); (try clear hb); have hnb52 := NB340_330.out; have hnc52 := NB330_340.out; have hnb53 := NB340_0.out; have hnc53 := NB0_340.out; obtain ⟨hcz54_0, hcz54_1, hcz54_2, hfz54_0, hfz54_1, hfz54_2⟩ := sqY3 BK340; have hnb55 := NB330_0.out; have hnc55 := NB0_330.out; obtain ⟨hcz56_0, hcz56_1, hcz56_2, hfz56_0, hfz56_1, hfz56_2⟩ := sqY3 BK330; obtain ⟨Ao57, co57, eo57, _⟩ := Kd.Q_slice HO_341002.out; subst eo57))
      refine bodyPost_ret (results_cell_row rfl _ _ gb330 27 #[.int .i64 2, .int .i64 2, .slice Ao57 x341002_1.length co57] (0, 0) _ rfl (by refine sqPut (cs := #[.int .i64 2, .int .i64 2, .slice none 0 0]) ?_ 2; refine sqPut (cs := #[.int .i64 2, .int .i64 0, .slice none 0 0]) ?_ 1; refine sqPut (cs := #[.int .i64 0, .int .i64 0, .slice none 0 0]) ?_ 0; refine sqFar ?_ NB330_340; refine sqFar ?_ NB330_340; exact sqK BK330) Try.underlying27 rfl (by kernel_rfl)) rfl ?_
      exact ⟨_, Z14, by (with_reducible repeat (first | apply Kd.Q_alloc | apply Kd.Q_drewN | apply Kd.Q_drew)); exact Kd.Q_mono (Kd.Q_far (p := ⟨gb330, 2, none⟩) (Kd.Q_far (p := ⟨gb330, 1, none⟩) (Kd.Q_far (p := ⟨gb330, 0, none⟩) (Kd.Q_far (p := ⟨gb340, 1, none⟩) (Kd.Q_far (p := ⟨gb340, 0, none⟩) (Kd.Q_types (Kd.Q_types HO_341002.out BK340.out (by decide)) BK330.out (by decide)) (fun _ hk => hk.1.2) (.int .i64 2)) (fun _ hk => hk.1.2) (.int .i64 2)) (fun _ hk => hk.2) (.int .i64 2)) (fun _ hk => hk.2) (.int .i64 2)) (fun _ hk => hk.2) (.slice Ao57 x341002_1.length co57)) (fun _ hk => trivial), Z38 HI0 NB0_330 NB0_340, Z39 HI0 GE330 GE340, Z40 GW330 GW340⟩
     ·rw [if_neg c49] at H
      have c49b0 : (t355 == 0) = false := beq_eq_false_iff_ne.mpr c49
      have c49b1 : (t355 != 0) = true := bne_iff_ne.mpr c49
      by_cases c58 : t355 = 1
      ·rw [if_pos c58] at H
       have c58b0 : (t355 == 1) = true := beq_iff_eq.mpr c58
       have c58b1 : (t355 != 1) = false := bne_eq_false_iff_eq.mpr c58
       clear c58
       by_cases c59 : x341002_1.length < 8796093022208
       ·rw [if_pos c59] at H
        have LMc59 := Aside0.mk c59
        clear c59
        obtain ⟨y357, hy357⟩ : ∃ y_ : List (S24), y_ = (x341002_1 ++ [(⟨0, 0⟩ : S24)]) := ⟨_, rfl⟩
        replace H : (some (x341000_1, x341001_1, y357, t356)) = some (r1, r2, r3, r4) := by first | (rw [hy357]; with_reducible exact H) | (have H2_ := (Option.bind_some _ _).symm.trans H; rw [hy357]; with_reducible exact H2_) | (have H2_ := (Option.bind_some _ _).symm.trans H; with_reducible exact H2_) | with_reducible exact H | (rw [hy357]; exact H) | exact H
        have Ny357 := Aside0.mk hy357
        clear hy357
        simp only [Option.some.injEq, Prod.mk.injEq] at H
        obtain ⟨rfl, rfl, rfl, rfl⟩ := H
        go_wp2_with (first | ((with_reducible refine gate_callee (f := 18) rfl ?_); refine goesL_ (some 33) rfl rfl Try.func18 (by kernel_rfl) rfl #[.pointer (some ⟨g, 0, none⟩), .int .i64 a1] rfl sqA ?_; (with_reducible refine (spec_l20Rd_odd.calls k1 g s0_0 x1001_1 a1 true t354 w0 _ ?side1 ?side2 A46.out).mono ?_); (case side1 => exact Z38 HI0 NB0_330 NB0_340); (case side2 => exact Z39 HI0 GE330 GE340); rintro e w60 ⟨rfl, hi, hb, hk⟩; refine ⟨_, rfl, ?_⟩; replace HO_341002 := Aside0.mk (Kd.Q_mono (Kd.Q_keep (IsS46.apartQ (show IsS46 w0 _ g s0_0 x1001_1 from by repeat (first | (with_reducible first | exact HI0.out | apply IsS46.alloc | apply IsS46.drewN | apply IsS46.drew | apply IsS46.set_1 | refine IsS46.far ?_ NB0_330.out _ | refine IsS46.far ?_ NB0_340.out _) | exact HI0.out)) (Z10 HO_341002) (by decide)) hk (fun _ h => h.2)) (fun _ h => h.1)); replace BK330 := Aside0.mk (KeepBut.blk hk (g' := gb330) (o := .cells #[.int .i64 0, .int .i64 0, .slice none 0 0] 27 (0, 0)) (sqK BK330) NB330_0.out (by simp)); replace BK340 := Aside0.mk (KeepBut.blk hk (g' := gb340) (o := .cells #[.int .i64 x341000_1, .int .i64 x341001_1, u341002] 27 (0, 0)) (sqK BK340) NB340_0.out (by simp)); replace HK := Aside0.mk (KeepBut.trans (Z40 GW330 GW340) hk (.inl rfl)); replace HB := Aside0.mk (hb); replace HI0 := Aside0.mk (hi); (try clear hb)) | ((with_reducible refine gate_callee (f := 15) rfl ?_); refine goesL_ (some 35) rfl rfl Try.func15 (by kernel_rfl) rfl #[.pointer (some ⟨g, 0, none⟩), .int .i64 3] rfl sqA ?_; (with_reducible refine (spec_l20Rd_pick.calls k1 g s0_0 t354 3 t355 t356 w0 _ ?side1 ?side2 A48.out).mono ?_); (case side1 => exact Z38 HI0 NB0_330 NB0_340); (case side2 => exact Z39 HI0 GE330 GE340); rintro e w61 ⟨rfl, hi, hb, hk⟩; refine ⟨_, rfl, ?_⟩; replace HO_341002 := Aside0.mk (Kd.Q_mono (Kd.Q_keep (IsS46.apartQ (show IsS46 w0 _ g s0_0 t354 from by repeat (first | (with_reducible first | exact HI0.out | apply IsS46.alloc | apply IsS46.drewN | apply IsS46.drew | apply IsS46.set_1 | refine IsS46.far ?_ NB0_330.out _ | refine IsS46.far ?_ NB0_340.out _) | exact HI0.out)) (Z10 HO_341002) (by decide)) hk (fun _ h => h.2)) (fun _ h => h.1)); replace BK330 := Aside0.mk (KeepBut.blk hk (g' := gb330) (o := .cells #[.int .i64 0, .int .i64 0, .slice none 0 0] 27 (0, 0)) (sqK BK330) NB330_0.out (by simp)); replace BK340 := Aside0.mk (KeepBut.blk hk (g' := gb340) (o := .cells #[.int .i64 x341000_1, .int .i64 x341001_1, u341002] 27 (0, 0)) (sqK BK340) NB340_0.out (by simp)); replace HK := Aside0.mk (KeepBut.trans (Z40 GW330 GW340) hk (.inl rfl)); replace HB := Aside0.mk (hb); replace HI0 := Aside0.mk (hi); (try clear hb); have hnb62 := NB340_330.out; have hnc62 := NB330_340.out; have hnb63 := NB340_0.out; have hnc63 := NB0_340.out; obtain ⟨hcz64_0, hcz64_1, hcz64_2, hfz64_0, hfz64_1, hfz64_2⟩ := sqY3 BK340) | ((with_reducible refine gate_builtin (b := .append) (xs := #[.tmp 44, .tmp 46]) rfl ?_); at_builtin; refine Kd.Q_append k24 w.heap.size rfl (.tmp 44) (.tmp 46) 25 24 (.agg #[(.int .i64 0), (.int .i64 0)]) 16 rfl Try.underlying25 info24 rfl (by decide) (by omega) u341002 x341002_1 (⟨0, 0⟩ : S24) [.int .i64 0, .int .i64 0] (fun _ => True) (fun _ => False) rfl rfl ?aP (fun _ hk => hk.elim) ?aF ?aO (Below.refl _ _) ?aS ?aL ?_; (case aP => exact k24_mkM _ _ _ (⟨0, 0⟩ : S24)); (case aF => exact (fun _ _ => trivial)); (case aO => exact (Z10 HO_341002)); (case aS => exact (keep_size (w := w) (g := g) (row := none) (Z40 GW330 GW340))); (case aL => exact Z15 LMc59); intro v358 w65 ho hb hg hat; rw [← Ny357.out] at ho; replace BK330 := Aside0.mk (blk_grown (sqK BK330) hg (Kd.Q_ne HO_341002.out BK330.out (by decide))); replace BK340 := Aside0.mk (blk_grown (sqK BK340) hg (Kd.Q_ne HO_341002.out BK340.out (by decide))); replace HB := Aside0.mk (below_weaken (Z39 HI0 GE330 GE340) HL.out hb); replace HI0 := Aside0.mk (IsS46.grown (Z38 HI0 NB0_330 NB0_340) hg (IsS46.own_neQ HI0.out HO_341002.out (by decide))); replace HK := Aside0.mk (KeepBut.trans (Z40 GW330 GW340) (KeepBut.of_grown hg g) (Kd.Q_base2 HO_341002.out)); have HO359 := Aside0.mk (ho); clear HO_341002; clear ho hb hg hat; obtain ⟨Ao66, co66, eo66, _⟩ := Kd.Q_slice HO359.out; subst eo66; obtain ⟨hcz67_0, hcz67_1, hcz67_2, hfz67_0, hfz67_1, hfz67_2⟩ := sqY3 BK340; have hnb68 := NB330_0.out; have hnc68 := NB0_330.out; obtain ⟨hcz69_0, hcz69_1, hcz69_2, hfz69_0, hfz69_1, hfz69_2⟩ := sqY3 BK330))
        refine bodyPost_ret (results_cell_row rfl _ _ gb330 27 #[.int .i64 x341000_1, .int .i64 x341001_1, .slice Ao66 y357.length co66] (0, 0) _ rfl (by refine sqPut (cs := #[.int .i64 x341000_1, .int .i64 x341001_1, .slice none 0 0]) ?_ 2; refine sqPut (cs := #[.int .i64 x341000_1, .int .i64 0, .slice none 0 0]) ?_ 1; refine sqPut (cs := #[.int .i64 0, .int .i64 0, .slice none 0 0]) ?_ 0; refine sqFar ?_ NB330_340; exact sqK BK330) Try.underlying27 rfl (by kernel_rfl)) rfl ?_
        exact ⟨_, Z14, by (with_reducible repeat (first | apply Kd.Q_alloc | apply Kd.Q_drewN | apply Kd.Q_drew)); exact Kd.Q_mono (Kd.Q_far (p := ⟨gb330, 2, none⟩) (Kd.Q_far (p := ⟨gb330, 1, none⟩) (Kd.Q_far (p := ⟨gb330, 0, none⟩) (Kd.Q_far (p := ⟨gb340, 2, none⟩) (Kd.Q_types (Kd.Q_types HO359.out BK340.out (by decide)) BK330.out (by decide)) (fun _ hk => hk.1.2) (.slice Ao66 y357.length co66)) (fun _ hk => hk.2) (.int .i64 x341000_1)) (fun _ hk => hk.2) (.int .i64 x341001_1)) (fun _ hk => hk.2) (.slice Ao66 y357.length co66)) (fun _ hk => trivial), Z38 HI0 NB0_330 NB0_340, Z39 HI0 GE330 GE340, Z40 GW330 GW340⟩
       ·rw [if_neg c59] at H
        exact absurd H (by simp)
      ·rw [if_neg c58] at H
       have c58b0 : (t355 == 1) = false := beq_eq_false_iff_ne.mpr c58
       have c58b1 : (t355 != 1) = true := bne_iff_ne.mpr c58
       simp only [Option.some.injEq, Prod.mk.injEq] at H
       obtain ⟨rfl, rfl, rfl, rfl⟩ := H
       go_wp2_with (first | ((with_reducible refine gate_callee (f := 18) rfl ?_); refine goesL_ (some 33) rfl rfl Try.func18 (by kernel_rfl) rfl #[.pointer (some ⟨g, 0, none⟩), .int .i64 a1] rfl sqA ?_; (with_reducible refine (spec_l20Rd_odd.calls k1 g s0_0 x1001_1 a1 true t354 w0 _ ?side1 ?side2 A46.out).mono ?_); (case side1 => exact Z38 HI0 NB0_330 NB0_340); (case side2 => exact Z39 HI0 GE330 GE340); rintro e w70 ⟨rfl, hi, hb, hk⟩; refine ⟨_, rfl, ?_⟩; replace HO_341002 := Aside0.mk (Kd.Q_mono (Kd.Q_keep (IsS46.apartQ (show IsS46 w0 _ g s0_0 x1001_1 from by repeat (first | (with_reducible first | exact HI0.out | apply IsS46.alloc | apply IsS46.drewN | apply IsS46.drew | apply IsS46.set_1 | refine IsS46.far ?_ NB0_330.out _ | refine IsS46.far ?_ NB0_340.out _) | exact HI0.out)) (Z10 HO_341002) (by decide)) hk (fun _ h => h.2)) (fun _ h => h.1)); replace BK330 := Aside0.mk (KeepBut.blk hk (g' := gb330) (o := .cells #[.int .i64 0, .int .i64 0, .slice none 0 0] 27 (0, 0)) (sqK BK330) NB330_0.out (by simp)); replace BK340 := Aside0.mk (KeepBut.blk hk (g' := gb340) (o := .cells #[.int .i64 x341000_1, .int .i64 x341001_1, u341002] 27 (0, 0)) (sqK BK340) NB340_0.out (by simp)); replace HK := Aside0.mk (KeepBut.trans (Z40 GW330 GW340) hk (.inl rfl)); replace HB := Aside0.mk (hb); replace HI0 := Aside0.mk (hi); (try clear hb)) | ((with_reducible refine gate_callee (f := 15) rfl ?_); refine goesL_ (some 35) rfl rfl Try.func15 (by kernel_rfl) rfl #[.pointer (some ⟨g, 0, none⟩), .int .i64 3] rfl sqA ?_; (with_reducible refine (spec_l20Rd_pick.calls k1 g s0_0 t354 3 t355 t356 w0 _ ?side1 ?side2 A48.out).mono ?_); (case side1 => exact Z38 HI0 NB0_330 NB0_340); (case side2 => exact Z39 HI0 GE330 GE340); rintro e w71 ⟨rfl, hi, hb, hk⟩; refine ⟨_, rfl, ?_⟩; replace HO_341002 := Aside0.mk (Kd.Q_mono (Kd.Q_keep (IsS46.apartQ (show IsS46 w0 _ g s0_0 t354 from by repeat (first | (with_reducible first | exact HI0.out | apply IsS46.alloc | apply IsS46.drewN | apply IsS46.drew | apply IsS46.set_1 | refine IsS46.far ?_ NB0_330.out _ | refine IsS46.far ?_ NB0_340.out _) | exact HI0.out)) (Z10 HO_341002) (by decide)) hk (fun _ h => h.2)) (fun _ h => h.1)); replace BK330 := Aside0.mk (KeepBut.blk hk (g' := gb330) (o := .cells #[.int .i64 0, .int .i64 0, .slice none 0 0] 27 (0, 0)) (sqK BK330) NB330_0.out (by simp)); replace BK340 := Aside0.mk (KeepBut.blk hk (g' := gb340) (o := .cells #[.int .i64 x341000_1, .int .i64 x341001_1, u341002] 27 (0, 0)) (sqK BK340) NB340_0.out (by simp)); replace HK := Aside0.mk (KeepBut.trans (Z40 GW330 GW340) hk (.inl rfl)); replace HB := Aside0.mk (hb); replace HI0 := Aside0.mk (hi); (try clear hb); have hnb72 := NB330_340.out; have hnc72 := NB340_330.out; have hnb73 := NB330_0.out; have hnc73 := NB0_330.out; obtain ⟨hcz74_0, hcz74_1, hcz74_2, hfz74_0, hfz74_1, hfz74_2⟩ := sqY3 BK330))
       refine bodyPost_ret (results_cell_row rfl _ _ gb330 27 #[.int .i64 0, .int .i64 0, .slice none 0 0] (0, 0) _ rfl (Z17 BK330) Try.underlying27 rfl (by kernel_rfl)) rfl ?_
       exact ⟨_, Z14, Kd.Q_of_R Z18, Z38 HI0 NB0_330 NB0_340, Z39 HI0 GE330 GE340, Z40 GW330 GW340⟩
    ·replace c47 := Bool.eq_false_iff.mpr c47
     subst c47
     have H1 : (some (x341000_1, x341001_1, x341002_1, t354)) = some (r1, r2, r3, r4) := by rw [if_neg (show ¬ (false = true) by decide)] at H; exact H
     clear H
     have H := H1
     clear H1
     simp only [Option.some.injEq, Prod.mk.injEq] at H
     obtain ⟨rfl, rfl, rfl, rfl⟩ := H
     go_wp2_with (first | ((with_reducible refine gate_callee (f := 18) rfl ?_); refine goesL_ (some 33) rfl rfl Try.func18 (by kernel_rfl) rfl #[.pointer (some ⟨g, 0, none⟩), .int .i64 a1] rfl sqA ?_; (with_reducible refine (spec_l20Rd_odd.calls k1 g s0_0 x1001_1 a1 false t354 w0 _ ?side1 ?side2 A46.out).mono ?_); (case side1 => exact Z38 HI0 NB0_330 NB0_340); (case side2 => exact Z39 HI0 GE330 GE340); rintro e w75 ⟨rfl, hi, hb, hk⟩; refine ⟨_, rfl, ?_⟩; replace HO_341002 := Aside0.mk (Kd.Q_mono (Kd.Q_keep (IsS46.apartQ (show IsS46 w0 _ g s0_0 x1001_1 from by repeat (first | (with_reducible first | exact HI0.out | apply IsS46.alloc | apply IsS46.drewN | apply IsS46.drew | apply IsS46.set_1 | refine IsS46.far ?_ NB0_330.out _ | refine IsS46.far ?_ NB0_340.out _) | exact HI0.out)) (Z10 HO_341002) (by decide)) hk (fun _ h => h.2)) (fun _ h => h.1)); replace BK330 := Aside0.mk (KeepBut.blk hk (g' := gb330) (o := .cells #[.int .i64 0, .int .i64 0, .slice none 0 0] 27 (0, 0)) (sqK BK330) NB330_0.out (by simp)); replace BK340 := Aside0.mk (KeepBut.blk hk (g' := gb340) (o := .cells #[.int .i64 x341000_1, .int .i64 x341001_1, u341002] 27 (0, 0)) (sqK BK340) NB340_0.out (by simp)); replace HK := Aside0.mk (KeepBut.trans (Z40 GW330 GW340) hk (.inl rfl)); replace HB := Aside0.mk (hb); replace HI0 := Aside0.mk (hi); (try clear hb); have hnb76 := NB340_330.out; have hnc76 := NB330_340.out; have hnb77 := NB340_0.out; have hnc77 := NB0_340.out; obtain ⟨hcz78_0, hcz78_1, hcz78_2, hfz78_0, hfz78_1, hfz78_2⟩ := sqY3 BK340; have hnb79 := NB330_0.out; have hnc79 := NB0_330.out; obtain ⟨hcz80_0, hcz80_1, hcz80_2, hfz80_0, hfz80_1, hfz80_2⟩ := sqY3 BK330; obtain ⟨Ao81, co81, eo81, _⟩ := Kd.Q_slice HO_341002.out; subst eo81))
     refine bodyPost_ret (results_cell_row rfl _ _ gb330 27 #[.int .i64 x341000_1, .int .i64 x341001_1, .slice Ao81 x341002_1.length co81] (0, 0) _ rfl (by refine sqPut (cs := #[.int .i64 x341000_1, .int .i64 x341001_1, .slice none 0 0]) ?_ 2; refine sqPut (cs := #[.int .i64 x341000_1, .int .i64 0, .slice none 0 0]) ?_ 1; refine sqPut (cs := #[.int .i64 0, .int .i64 0, .slice none 0 0]) ?_ 0; exact sqK BK330) Try.underlying27 rfl (by kernel_rfl)) rfl ?_
     exact ⟨_, Z14, by (with_reducible repeat (first | apply Kd.Q_alloc | apply Kd.Q_drewN | apply Kd.Q_drew)); exact Kd.Q_mono (Kd.Q_far (p := ⟨gb330, 2, none⟩) (Kd.Q_far (p := ⟨gb330, 1, none⟩) (Kd.Q_far (p := ⟨gb330, 0, none⟩) (Kd.Q_types HO_341002.out BK330.out (by decide)) (fun _ hk => hk.2) (.int .i64 x341000_1)) (fun _ hk => hk.2) (.int .i64 x341001_1)) (fun _ hk => hk.2) (.slice Ao81 x341002_1.length co81)) (fun _ hk => trivial), Z38 HI0 NB0_330 NB0_340, Z39 HI0 GE330 GE340, Z40 GW330 GW340⟩

end Go.Proofs.Ytcfnihniaakbeaa.PFnDeskOk
