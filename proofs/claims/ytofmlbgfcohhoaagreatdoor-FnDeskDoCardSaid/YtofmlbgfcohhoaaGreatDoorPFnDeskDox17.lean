/- Lean functions of the Go functions that the law FnDeskDo reaches, each with its contract: made by a program of this session. -/
import Derived.Test.YtofmlbgfcohhoaaGreatDoorPFnDeskDox15
import Derived.Test.YtofmlbgfcohhoaaGreatDoorPFnDeskDox16
namespace Go.Proofs.YtofmlbgfcohhoaaGreatDoor.PFnDeskDo
open Go.RowKit Go.Proofs.YtofmlbgfcohhoaaGreatDoorW.PrintWords Go.Proofs.YtofmlbgfcohhoaaGreatDoorW.PrintLast Go.Proofs.YtofmlbgfcohhoaaGreatDoorW.PrintMore Go.Proofs.YtofmlbgfcohhoaaGreatDoor.Lib
attribute [local go_sem] max2_int min2_int max_two min_two max_three min_three max_four min_four   -- for this text's walks alone
set_option linter.unusedVariables false
set_option linter.unusedSimpArgs false

/-! ### spec_l20Desk: function 67 -/
def spec_l20Desk.l0 : Nat → Int → Int → List Int → Int → Int → Int → List (S31) → Option (Int × Int × (List (S31)) × Int)
 | 0, _, _, _, _, _, _, _ => none
 | k + 1, x1, x7, x1000, x1001, x470000, x470001, x470002 => if x7 > 0 then ((spec_l20Deed.f k x1000 x1001).bind fun bt472 => ((spec_DeskDo.f k x470000 x470001 x470002 bt472.1 bt472.2.1).bind fun bt475 => (if bt475.2.2.2 = true then (spec_l20Desk.l0 k x1 (wrap64 (x7 - 1)) x1000 bt472.2.2 bt475.1 bt475.2.1 bt475.2.2.1) else (spec_l20Desk.l0 k x1 (wrap64 (x7 - 1)) x1000 bt472.2.2 x470000 x470001 x470002)))) else ((spec_l20Rd_odd.f k x1000 x1001 x1).bind fun bt482 => (if bt482.1 = true then ((spec_l20Rd_pick.f k x1000 bt482.2 3).bind fun bt484 => (if bt484.1 = 0 then (some (2, 2, x470002, bt484.2)) else (if bt484.1 = 1 then (if x470002.length < 8796093022208 then (some (x470000, x470001, (x470002 ++ [(⟨0, 0⟩ : S31)]), bt484.2)) else (none)) else (some (0, 0, ([] : List (S31)), bt484.2))))) else (some (x470000, x470001, x470002, bt482.2))))
def spec_l20Desk.f (k : Nat) (s0_0 : List Int) (s0_1 : Int) (a1 : Int) : Option (Int × Int × (List (S31)) × Int) := (spec_l20Fraction.f k s0_0 s0_1 0).bind fun bt460 => ((spec_DeskNew.f k bt460.1 bt460.2.1).bind fun bt463 => ((spec_l20Rd_pick.f k s0_0 bt460.2.2 6).bind fun bt470 => (spec_l20Desk.l0 k a1 bt470.1 s0_0 bt470.2 bt463.1 bt463.2.1 bt463.2.2.1)))
theorem spec_l20Desk.mono_l : ∀ k, (∀ y0 y1 y2 y3 y4 y5 y6, LeO (spec_l20Desk.l0 k y0 y1 y2 y3 y4 y5 y6) (spec_l20Desk.l0 (k + 1) y0 y1 y2 y3 y4 y5 y6))
 | 0 => fun _ _ _ _ _ _ _ r h => by simp [spec_l20Desk.l0] at h
 | k + 1 => by
  have ih0 := spec_l20Desk.mono_l k
  ·intro y0 y1 y2 y3 y4 y5 y6
   unfold spec_l20Desk.l0
   repeat' first
   | (with_reducible exact ih0 _ _ _ _ _ _ _)
   | (with_reducible exact spec_DeskDo.mono _ _ _ _ _ _)
   | (with_reducible exact spec_DeskNew.mono _ _ _)
   | (with_reducible exact spec_l20Deed.mono _ _ _)
   | (with_reducible exact spec_l20Fraction.mono _ _ _ _)
   | (with_reducible exact spec_l20Rd_odd.mono _ _ _ _)
   | (with_reducible exact spec_l20Rd_pick.mono _ _ _ _)
   | (with_reducible exact LeO.refl _)
   | (with_reducible exact LeO.none _)
   | (with_reducible refine LeO.ite ?_ ?_)
   | (with_reducible refine LeO.bind ?_ (fun _ => ?_))
theorem spec_l20Desk.mono : ∀ a0 a1 a2 k, LeO (spec_l20Desk.f k a0 a1 a2) (spec_l20Desk.f (k + 1) a0 a1 a2) := by
 intro a0 a1 a2 k
 have ih0 := spec_l20Desk.mono_l k
 unfold spec_l20Desk.f
 repeat' first
   | (with_reducible exact ih0 _ _ _ _ _ _ _)
   | (with_reducible exact spec_DeskDo.mono _ _ _ _ _ _)
   | (with_reducible exact spec_DeskNew.mono _ _ _)
   | (with_reducible exact spec_l20Deed.mono _ _ _)
   | (with_reducible exact spec_l20Fraction.mono _ _ _ _)
   | (with_reducible exact spec_l20Rd_odd.mono _ _ _ _)
   | (with_reducible exact spec_l20Rd_pick.mono _ _ _ _)
   | (with_reducible exact LeO.refl _)
   | (with_reducible exact LeO.none _)
   | (with_reducible refine LeO.ite ?_ ?_)
   | (with_reducible refine LeO.bind ?_ (fun _ => ?_))
def spec_l20Desk.T5 : Bool × List (List Nat × List Nat) := (true, [([], []), ([], []), ([1], [1]), ([0, 2, 2], [0, 2]), ([3], [3]), ([4], [4]), ([4], [4]), ([], []), ([7, 5, 3, 0, 1, 2, 3, 4, 5, 7], [5, 7]), ([6, 8, 0, 1, 2, 3, 4, 5, 6, 7, 8], [6])])
def spec_l20Desk.B5 : List Nat := [0, 0, 2, 7, 15, 31, 31, 0, 191, 511]
theorem spec_l20Desk.tab5 : rtab .any (opsOf Tryz.f67 5) = spec_l20Desk.T5 := by kernel_rfl
theorem spec_l20Desk.bits5 : waitsOk spec_l20Desk.T5.2 spec_l20Desk.B5 = true := by kernel_rfl
set_option maxHeartbeats 8000000 in
set_option maxRecDepth 100000 in
theorem spec_l20Desk.calls (k : Nat) (g : Nat) (s0_0 : List Int) (s0_1 : Int) (a1 : Int) (r1 : Int) (r2 : Int) (r3 : List (S31)) (r4 : Int) (w0 w : World) (hI : IsS131 w0 w g s0_0 s0_1) (hB : Below w0.heap.size w0 w) (h : spec_l20Desk.f k s0_0 s0_1 a1 = some (r1, r2, r3, r4)) :
  Calls Tryz.prog 67 #[.pointer (some ⟨g, 0, none⟩), .int .i64 a1] w fun e w' => ∃ v2_ : Value, e = .returned (.agg #[.int .i64 r1, .int .i64 r2, v2_]) ∧ Kd.Q k31 31 w' w.heap.size (fun _ => True) v2_ r3 ∧ IsS131 w0 w' g s0_0 r4 ∧ Below w0.heap.size w0 w' ∧ KeepBut w w' g none := by
 have hu34 := Tryz.underlying34
 have hu31 := Tryz.underlying31
 have HI0 := Aside0.mk hI
 have HK := Aside0.mk (KeepBut.refl w g none)
 have HL := Aside0.mk hB.size
 clear hI
 have HW0 := Aside0.mk hB.size
 have HB := Aside0.mk hB
 clear hB
 have H : ((spec_l20Fraction.f k s0_0 s0_1 0).bind fun bt460 => ((spec_DeskNew.f k bt460.1 bt460.2.1).bind fun bt463 => ((spec_l20Rd_pick.f k s0_0 bt460.2.2 6).bind fun bt470 => (spec_l20Desk.l0 k a1 bt470.1 s0_0 bt470.2 bt463.1 bt463.2.1 bt463.2.2.1)))) = some (r1, r2, r3, r4) := h
 clear h
 obtain ⟨⟨t460, t461, t462⟩, A3, H⟩ := sqD H
 try dsimp only at H
 obtain ⟨⟨t463, t464, t465, t468⟩, A4, H⟩ := sqD H
 try dsimp only at H
 obtain ⟨⟨t470, t471⟩, A5, H⟩ := sqD H
 try dsimp only at H
 have H' := Aside0.mk H
 clear H
 go_enter Tryz.func67, Tryz.ntmps67
 go_wp2_with (first | ((with_reducible refine gate_dst (N := 4) rfl ?_); refine sqBox (N := 4) (cs := #[.int .i64 0, .int .i64 0, .slice none 0 0]) (t := 34) ?_; intro gb459 hg w6 BK459 hb; replace HB := Aside0.mk (below_step (Z36 HI0) hb); have GW459 := Aside0.mk ((Z110 : w.heap.size ≤ gb459)); have GE459 := Aside0.mk ((Nat.le_trans HW0.out (Z110 : w.heap.size ≤ gb459) : w0.heap.size ≤ gb459)); replace HK := Aside0.mk (KeepBut.trans Z35 (KeepBut.of_below hb g none) (.inl rfl)); have NB0_459 := Aside0.mk ((Z37 HI0 : g ≠ gb459)); have NB459_0 := Aside0.mk ((Z38 HI0 : gb459 ≠ g)); replace HI0 := Aside0.mk (IsS131.below (Z34 HI0) hb); clear hb hg) | ((with_reducible refine gate_callee (f := 113) rfl ?_); refine goesL_ (some 12) rfl rfl Tryz.func113 (by kernel_rfl) rfl #[.pointer (some ⟨g, 0, none⟩), .int .i64 0] rfl sqA ?_; (with_reducible refine (spec_l20Fraction.calls k g s0_0 s0_1 0 t460 t461 t462 w0 _ ?side1 ?side2 A3.out).mono ?_); (case side1 => exact Z41 HI0 NB0_459); (case side2 => exact Z40 HI0 GE459); rintro e w7 ⟨rfl, hi, hb, hk⟩; refine ⟨_, rfl, ?_⟩; replace BK459 := Aside0.mk (KeepBut.blk hk (g' := gb459) (o := .cells #[.int .i64 0, .int .i64 0, .slice none 0 0] 34 (0, 0)) (sqK BK459) NB459_0.out (by simp)); replace HK := Aside0.mk (KeepBut.trans (Z39 GW459) hk (.inl rfl)); replace HB := Aside0.mk (hb); replace HI0 := Aside0.mk (hi); (try clear hb)) | ((with_reducible refine gate_callee (f := 112) rfl ?_); refine goesL_ (some 13) rfl rfl Tryz.func112 (by kernel_rfl) rfl #[.agg #[.int .i64 t460, .int .i64 t461]] rfl sqA ?_; (with_reducible refine (spec_DeskNew.calls k t460 t461 t463 t464 t465 t468 _ A4.out).mono ?_); rintro e w8 ⟨v466, rfl, ho0, hb⟩; refine ⟨_, rfl, ?_⟩; have HO467 := Aside0.mk (Kd.R_lower ho0 (keep_size (w := w) (g := g) (row := none) (Z39 GW459))); replace BK459 := sqT BK459 hb; replace HK := Aside0.mk (KeepBut.trans (Z39 GW459) (KeepBut.of_below hb g none) (.inl rfl)); replace HB := Aside0.mk (below_step (Z40 HI0 GE459) hb); replace HI0 := Aside0.mk (IsS131.below (Z41 HI0 NB0_459) hb); (try clear hb); (try clear ho0)) | ((with_reducible refine gate_dst (N := 5) rfl ?_); refine sqBox (N := 5) (cs := #[.int .i64 0, .int .i64 0, .slice none 0 0]) (t := 34) ?_; intro gb469 hg w9 BK469 hb; replace HO467 := sqU HO467 hb; replace HB := Aside0.mk (below_step (Z40 HI0 GE459) hb); have GW469 := Aside0.mk ((Z111 GW459 : w.heap.size ≤ gb469)); have GE469 := Aside0.mk ((Nat.le_trans HW0.out (Z111 GW459 : w.heap.size ≤ gb469) : w0.heap.size ≤ gb469)); replace HK := Aside0.mk (KeepBut.trans (Z39 GW459) (KeepBut.of_below hb g none) (.inl rfl)); obtain ⟨NB459_469, NB469_459⟩ := sqM hg BK459; replace BK459 := sqT BK459 hb; have NB0_469 := Aside0.mk ((by rw [hg]; exact Nat.ne_of_lt (IsS131.lt (show IsS131 w0 _ g s0_0 t462 from by repeat (first | (with_reducible first | exact HI0.out | apply IsS131.alloc | apply IsS131.drewN | apply IsS131.drew | apply IsS131.set_1 | refine IsS131.far ?_ NB0_459.out _) | exact HI0.out))) : g ≠ gb469)); have NB469_0 := Aside0.mk ((by rw [hg]; exact Nat.ne_of_gt (IsS131.lt (show IsS131 w0 _ g s0_0 t462 from by repeat (first | (with_reducible first | exact HI0.out | apply IsS131.alloc | apply IsS131.drewN | apply IsS131.drew | apply IsS131.set_1 | refine IsS131.far ?_ NB0_459.out _) | exact HI0.out))) : gb469 ≠ g)); replace HI0 := Aside0.mk (IsS131.below (Z41 HI0 NB0_459) hb); clear hb hg; have hnb10 := NB469_459.out; have hnc10 := NB459_469.out; have hnb11 := NB469_0.out; have hnc11 := NB0_469.out; obtain ⟨hcz12_0, hcz12_1, hcz12_2, hfz12_0, hfz12_1, hfz12_2⟩ := sqY3 BK469; obtain ⟨Ao13, co13, eo13⟩ := Kd.R_slice HO467.out; subst eo13) | ((with_reducible refine gate_callee (f := 82) rfl ?_); refine goesL_ (some 17) rfl rfl Tryz.func82 (by kernel_rfl) rfl #[.pointer (some ⟨g, 0, none⟩), .int .i64 6] rfl sqA ?_; (with_reducible refine (spec_l20Rd_pick.calls k g s0_0 t462 6 t470 t471 w0 _ ?side1 ?side2 A5.out).mono ?_); (case side1 => exact Z42 HI0 NB0_459 NB0_469); (case side2 => exact Z44 HI0 GE459 GE469); rintro e w14 ⟨rfl, hi, hb, hk⟩; refine ⟨_, rfl, ?_⟩; replace BK459 := Aside0.mk (KeepBut.blk hk (g' := gb459) (o := .cells #[.int .i64 0, .int .i64 0, .slice none 0 0] 34 (0, 0)) (Z20 NB459_469 BK459) NB459_0.out (by simp)); replace HO467 := Aside0.mk (Kd.R_mono (Kd.R_keep (IsS131.apart (show IsS131 w0 _ g s0_0 t462 from by repeat (first | (with_reducible first | exact HI0.out | apply IsS131.alloc | apply IsS131.drewN | apply IsS131.drew | apply IsS131.set_1 | refine IsS131.far ?_ NB0_459.out _ | refine IsS131.far ?_ NB0_469.out _) | exact HI0.out)) (by (with_reducible repeat (first | apply Kd.R_alloc | apply Kd.R_drewN | apply Kd.R_drew)); exact (Kd.R_mono (Kd.R_far (p := ⟨gb469, 2, none⟩) (Kd.R_far (p := ⟨gb469, 1, none⟩) (Kd.R_far (p := ⟨gb469, 0, none⟩) (Kd.R_types HO467.out BK469.out (by decide)) (fun _ hk => hk.2) (.int .i64 t463)) (fun _ hk => hk.2) (.int .i64 t464)) (fun _ hk => hk.2) (.slice Ao13 t465.length co13)) (fun _ h_ => h_.1))) (by decide)) hk (fun _ h => h.2)) (fun _ h => h.1)); replace BK469 := Aside0.mk (KeepBut.blk hk (g' := gb469) (o := .cells #[.int .i64 t463, .int .i64 t464, .slice Ao13 t465.length co13] 34 (0, 0)) (by refine sqPut (cs := #[.int .i64 t463, .int .i64 t464, .slice none 0 0]) ?_ 2; refine sqPut (cs := #[.int .i64 t463, .int .i64 0, .slice none 0 0]) ?_ 1; refine sqPut (cs := #[.int .i64 0, .int .i64 0, .slice none 0 0]) ?_ 0; exact sqK BK469) NB469_0.out (by simp)); replace HK := Aside0.mk (KeepBut.trans (Z43 GW459 GW469) hk (.inl rfl)); replace HB := Aside0.mk (hb); replace HI0 := Aside0.mk (hi); (try clear hb)))
 go_loopg [7] k (fun kq v7 w' => ∃ (x7_1 : Int) (x1001_1 : Int) (x470000_1 : Int) (x470001_1 : Int) (x470002_1 : List (S31)) (u470002 : Value), v7 = .int .i64 x7_1 ∧ Aside0 (spec_l20Desk.l0 kq a1 x7_1 s0_0 x1001_1 x470000_1 x470001_1 x470002_1 = some (r1, r2, r3, r4)) ∧ Aside0 (kq ≤ k) ∧ Aside0 (Kd.Q k31 31 w' w.heap.size (fun _ => True) u470002 x470002_1) ∧ Aside0 (w'.heap[gb459]? = some (.cells #[.int .i64 0, .int .i64 0, (.slice none 0 0)] 34 (0, 0))) ∧ Aside0 (w'.heap[gb469]? = some (.cells #[.int .i64 x470000_1, .int .i64 x470001_1, u470002] 34 (0, 0))) ∧ Aside0 (IsS131 w0 w' g s0_0 x1001_1) ∧ Aside0 (KeepBut w w' g none) ∧ Aside0 (Below w0.heap.size w0 w'))
 case atStart => exact ⟨(t470), (t471), (t463), (t464), (t465), (.slice Ao13 t465.length co13), Z1, H', ⟨Nat.le_refl _⟩, ⟨Kd.Q_of_R (sqR HO467)⟩, ⟨sqK BK459⟩, ⟨sqK BK469⟩, ⟨Z42 HI0 NB0_459 NB0_469⟩, ⟨Z43 GW459 GW469⟩, ⟨Z44 HI0 GE459 GE469⟩⟩
 case round =>
  clear H'
  try clear c1; try clear p2; try clear c6; try clear c8; try clear c10; try clear c11; try clear hcz12_0; try clear hcz12_1; try clear hcz12_2; try clear hfz12_0; try clear hfz12_1; try clear hfz12_2
  obtain ⟨x7_1, x1001_1, x470000_1, x470001_1, x470002_1, u470002, rfl, HA, HK1, HO_470002, BK459, BK469, HI0, HK, HB⟩ := hrel
  cases gk with
  | zero => exact absurd HA.out (by simp [spec_l20Desk.l0])
  | succ k1 =>
   have H := HA.out
   clear HA
   simp only [spec_l20Desk.l0] at H
   by_cases c15 : x7_1 > 0
   ·rw [if_pos c15] at H
    have c15b0 : decide (0 < x7_1) = true := decide_eq_true c15
    clear c15
    obtain ⟨⟨t472, t473, t474⟩, A16, H⟩ := sqD H
    try dsimp only at H
    obtain ⟨⟨t475, t476, t477, t480⟩, A17, H⟩ := sqD H
    try dsimp only at H
    by_cases c18 : t480 = true
    ·subst c18
     rw [if_pos rfl] at H
     have H' := Aside0.mk H
     clear H
     obtain ⟨Ao19, co19, eo19, _⟩ := Kd.Q_slice HO_470002.out
     subst eo19
     try go_wp2
     replace HO_470002 := Aside0.mk (Kd.Q_drew HO_470002.out)
     replace BK459 := Aside0.mk (blk_drew BK459.out)
     replace BK469 := Aside0.mk (blk_drew BK469.out)
     replace HI0 := Aside0.mk (IsS131.drew HI0.out)
     replace HK := Aside0.mk (keep_drew HK.out)
     replace HB := Aside0.mk (below_drew1 HB.out)
     refine start_ (n := 10) (S := fun w' => w'.cell? ⟨gb469, 0, none⟩ = some (.int .i64 x470000_1) ∧ w'.cell? ⟨gb469, 1, none⟩ = some (.int .i64 x470001_1) ∧ w'.cell? ⟨gb469, 2, none⟩ = some (.slice Ao19 x470002_1.length co19)) (ds := []) #[false, false, false, false, false, false, false, false, false, false] (by kernel_rfl) rfl rfl ⟨(blk_cell BK469.out 0).trans rfl, (blk_cell BK469.out 1).trans rfl, (blk_cell BK469.out 2).trans rfl⟩ (fun hHeld => ?_); refine with_tabW spec_l20Desk.tab5 spec_l20Desk.bits5 (fun HT_ HW_ => ?_)
     generalize wr.drew = w20 at HO_470002 BK459 BK469 HI0 HK HB hHeld ⊢
     refine sqP (i := 1) (N := some 24) (h := ?_)
     refine sqQ (i := 0) (N := some 23) hHeld (h := ?_)
     refine join_ (σ := Value × Nat) 2 #[true, true, true, true, true, true, true, true, false, false] (fun s_ => [(25, .agg #[.int .i64 t472, .string t473]), (26, .tuple #[.agg #[.int .i64 t475, .int .i64 t476, s_.1], .bool true]), (8, .pointer (some ⟨s_.2, 0, none⟩)), (22, .tuple #[.agg #[.int .i64 t475, .int .i64 t476, s_.1], .bool true]), (27, .agg #[.int .i64 t475, .int .i64 t476, s_.1]), (28, .bool true)]) (fun s_ w' => (w'.cell? ⟨gb469, 0, none⟩ = some (.int .i64 x470000_1) ∧ w'.cell? ⟨gb469, 1, none⟩ = some (.int .i64 x470001_1) ∧ w'.cell? ⟨gb469, 2, none⟩ = some (.slice Ao19 x470002_1.length co19)) ∧ (Kd.Q k31 31 w' w.heap.size (fun k_ => some k_ ≠ (.slice Ao19 x470002_1.length co19 : Value).ownBlock) s_.1 t477) ∧ (Kd.Q k31 31 w' w.heap.size (fun k_ => some k_ ≠ (s_.1 : Value).ownBlock) (.slice Ao19 x470002_1.length co19) x470002_1) ∧ (w'.heap[gb459]? = some (.cells #[.int .i64 0, .int .i64 0, .slice none 0 0] 34 (0, 0))) ∧ (w'.heap[gb469]? = some (.cells #[.int .i64 x470000_1, .int .i64 x470001_1, .slice Ao19 x470002_1.length co19] 34 (0, 0))) ∧ (w'.heap[s_.2]? = some (.cells #[.int .i64 0, .int .i64 0, .slice none 0 0] 34 (0, 0))) ∧ (w.heap.size ≤ s_.2) ∧ (w0.heap.size ≤ s_.2) ∧ (g ≠ s_.2) ∧ (s_.2 ≠ g) ∧ (gb459 ≠ s_.2) ∧ (s_.2 ≠ gb459) ∧ (gb469 ≠ s_.2) ∧ (s_.2 ≠ gb469) ∧ (IsS131 w0 w' g s0_0 t474) ∧ (KeepBut w w' g none) ∧ (Below w0.heap.size w0 w')) ?_ ?_
     rotate_left
     ·intro hCont
      refine two_ (i := 2) (j := 7) (Ni := some 25) (Nj := some 8) #[true, true, true, false, false, false, false, false, false, false] #[true, true, false, false, false, false, false, true, false, false] rfl rfl rfl rfl (two_of HT_.out (by kernel_rfl)) (by decide) (by decide) (fun K hK => ?_) (fun K hK => ?_)
      ·skip
       refine goes_ Tryz.func68 (by kernel_rfl) rfl #[.pointer (some ⟨g, 0, none⟩)] (by rfl) rfl rfl sqA ?_
       with_reducible refine (spec_l20Deed.calls k1 g s0_0 x1001_1 t472 t473 t474 w0 _ ?side1 ?side2 A16.out).mono ?_
       (case side1 => exact Z42 HI0 NB0_459 NB0_469)
       (case side2 => exact Z44 HI0 GE459 GE469)
       rintro e w21 ⟨rfl, hi, hb, hk⟩
       refine ⟨_, rfl, ?_⟩
       replace HO_470002 := Aside0.mk (Kd.Q_mono (Kd.Q_keep (IsS131.apartQ (show IsS131 w0 _ g s0_0 x1001_1 from by repeat (first | (with_reducible first | exact HI0.out | apply IsS131.alloc | apply IsS131.drewN | apply IsS131.drew | apply IsS131.set_1 | refine IsS131.far ?_ NB0_459.out _ | refine IsS131.far ?_ NB0_469.out _) | exact HI0.out)) (Z29 HO_470002) (by decide)) hk (fun _ h => h.2)) (fun _ h => h.1))
       replace BK459 := Aside0.mk (KeepBut.blk hk (g' := gb459) (o := .cells #[.int .i64 0, .int .i64 0, .slice none 0 0] 34 (0, 0)) (sqK BK459) NB459_0.out (by simp))
       replace BK469 := Aside0.mk (KeepBut.blk hk (g' := gb469) (o := .cells #[.int .i64 x470000_1, .int .i64 x470001_1, .slice Ao19 x470002_1.length co19] 34 (0, 0)) (sqK BK469) NB469_0.out (by simp))
       replace HK := Aside0.mk (KeepBut.trans (Z43 GW459 GW469) hk (.inl rfl))
       replace HB := Aside0.mk (hb)
       replace HI0 := Aside0.mk (hi)
       (try clear hb)
       (try clear hb2)
       (try clear hk)
       (try clear hi)
       refine hK.out _ _ ⟨(blk_cell BK469.out 0).trans rfl, (blk_cell BK469.out 1).trans rfl, (blk_cell BK469.out 2).trans rfl⟩ (fun hHeld => ?_)
       clear hK K
       refine sqN (some 25) ?_
       refine two_ (i := 3) (j := 7) (Ni := some 26) (Nj := some 8) #[true, true, true, true, false, false, false, false, false, false] #[true, true, true, false, false, false, false, true, false, false] rfl rfl rfl rfl (two_of HT_.out (by kernel_rfl)) (by decide) (by decide) (fun K hK => ?_) (fun K hK => ?_)
       ·skip
        refine goes_ Tryz.func14 (by kernel_rfl) rfl #[.agg #[.int .i64 x470000_1, .int .i64 x470001_1, .slice Ao19 x470002_1.length co19], .agg #[.int .i64 t472, .string t473]] (by rfl) rfl rfl sqA ?_
        with_reducible refine (spec_DeskDo.calls k1 x470000_1 x470001_1 _ _ x470002_1 t472 t473 t475 t476 t477 true _ ?side1 ?side2 A17.out).mono ?_
        (case side1 => exact Z27 HO_470002)
        (case side2 => exact Z28 HO_470002)
        rintro e w22 ⟨v478, rfl, ho0, hb⟩
        refine ⟨_, rfl, ?_⟩
        have HO479 := Aside0.mk (Kd.Q_lower (Kd.Q_new' ho0 (Kd.Q_lt (Z29 HO_470002))) (keep_size (w := w) (g := g) (row := none) (Z43 GW459 GW469)))
        replace HO_470002 := Aside0.mk (Kd.Q_elder' (Z29 HO_470002) (Kd.Q_base ho0) hb)
        replace BK459 := sqT BK459 hb
        replace BK469 := sqT BK469 hb
        replace HK := Aside0.mk (KeepBut.trans (Z43 GW459 GW469) (KeepBut.of_below hb g none) (.inl rfl))
        replace HB := Aside0.mk (below_step (Z44 HI0 GE459 GE469) hb)
        replace HI0 := Aside0.mk (IsS131.below (Z42 HI0 NB0_459 NB0_469) hb)
        (try clear hb)
        (try clear hb2)
        (try clear hk)
        (try clear hi)
        (try clear ho0)
        refine hK.out _ _ ⟨(blk_cell BK469.out 0).trans rfl, (blk_cell BK469.out 1).trans rfl, (blk_cell BK469.out 2).trans rfl⟩ (fun hHeld => ?_)
        clear hK K
        refine sqN (some 26) ?_
        refine sqP (i := 4) (N := some 22) (h := ?_)
        refine sqP (i := 5) (N := some 27) (h := ?_)
        refine sqP (i := 6) (N := some 28) (h := ?_)
        refine one_ (i := 7) (N := some 8) #[true, true, true, true, true, true, true, true, false, false] rfl rfl (one_of HT_.out (by kernel_rfl)) (by decide) (fun K hK => ?_)
        refine box_step ?hg (N := 8) ?hd (cs := #[.int .i64 0, .int .i64 0, .slice none 0 0]) (t := 34) ?hr ?_; (case hd => rfl); (case hg => rfl); (case hr => exact Z7)
        intro gb481 hg w23 hbox hb
        replace HO_470002 := Aside0.mk (Kd.Q_below (Z29 HO_470002) hb)
        replace HO479 := Aside0.mk (Kd.Q_below (Z29 HO479) hb)
        replace HB := Aside0.mk (below_step (Z44 HI0 GE459 GE469) hb)
        have BK481 := Aside0.mk (hbox)
        have GW481 := Aside0.mk ((Z112 GW459 GW469 : w.heap.size ≤ gb481))
        have GE481 := Aside0.mk ((Nat.le_trans HW0.out (Z112 GW459 GW469 : w.heap.size ≤ gb481) : w0.heap.size ≤ gb481))
        replace HK := Aside0.mk (KeepBut.trans (Z43 GW459 GW469) (KeepBut.of_below hb g none) (.inl rfl))
        obtain ⟨NB459_481, NB481_459⟩ := sqM hg BK459
        replace BK459 := sqT BK459 hb
        obtain ⟨NB469_481, NB481_469⟩ := sqM hg BK469
        replace BK469 := sqT BK469 hb
        have NB0_481 := Aside0.mk ((Z49 HI0 NB0_459 NB0_469 : g ≠ gb481))
        have NB481_0 := Aside0.mk ((Z50 HI0 NB0_459 NB0_469 : gb481 ≠ g))
        replace HI0 := Aside0.mk (IsS131.below (Z42 HI0 NB0_459 NB0_469) hb)
        clear hb hbox hg
        refine hK.out _ _ ⟨(blk_cell BK469.out 0).trans rfl, (blk_cell BK469.out 1).trans rfl, (blk_cell BK469.out 2).trans rfl⟩ (fun hHeld => ?_)
        clear hK K
        refine sqN (some 8) ?_
        exact norm_ Z51 (hCont (v478, gb481) _ ⟨hHeld, (Z52 HO479), (Z52 HO_470002), (sqK BK459), (sqK BK469), (sqK BK481), GW481.out, GE481.out, NB0_481.out, NB481_0.out, NB459_481.out, NB481_459.out, NB469_481.out, NB481_469.out, (Z53 HI0 NB0_459 NB0_469 NB0_481), (Z54 GW459 GW469 GW481), (Z55 HI0 GE459 GE469 GE481)⟩)
       ·skip
        refine box_step ?hg (N := 8) ?hd (cs := #[.int .i64 0, .int .i64 0, .slice none 0 0]) (t := 34) ?hr ?_; (case hd => rfl); (case hg => rfl); (case hr => exact Z7)
        intro gb481 hg w22 hbox hb
        replace HO_470002 := Aside0.mk (Kd.Q_below (Z29 HO_470002) hb)
        replace HB := Aside0.mk (below_step (Z44 HI0 GE459 GE469) hb)
        have BK481 := Aside0.mk (hbox)
        have GW481 := Aside0.mk ((Z112 GW459 GW469 : w.heap.size ≤ gb481))
        have GE481 := Aside0.mk ((Nat.le_trans HW0.out (Z112 GW459 GW469 : w.heap.size ≤ gb481) : w0.heap.size ≤ gb481))
        replace HK := Aside0.mk (KeepBut.trans (Z43 GW459 GW469) (KeepBut.of_below hb g none) (.inl rfl))
        obtain ⟨NB459_481, NB481_459⟩ := sqM hg BK459
        replace BK459 := sqT BK459 hb
        obtain ⟨NB469_481, NB481_469⟩ := sqM hg BK469
        replace BK469 := sqT BK469 hb
        have NB0_481 := Aside0.mk ((Z49 HI0 NB0_459 NB0_469 : g ≠ gb481))
        have NB481_0 := Aside0.mk ((Z50 HI0 NB0_459 NB0_469 : gb481 ≠ g))
        replace HI0 := Aside0.mk (IsS131.below (Z42 HI0 NB0_459 NB0_469) hb)
        clear hb hbox hg
        refine hK.out _ _ ⟨(blk_cell BK469.out 0).trans rfl, (blk_cell BK469.out 1).trans rfl, (blk_cell BK469.out 2).trans rfl⟩ (fun hHeld => ?_)
        clear hK K
        refine sqN (some 8) ?_
        refine one_ (i := 3) (N := some 26) #[true, true, true, true, false, false, false, true, false, false] rfl rfl (one_of HT_.out (by kernel_rfl)) (by decide) (fun K hK => ?_)
        refine goes_ Tryz.func14 (by kernel_rfl) rfl #[.agg #[.int .i64 x470000_1, .int .i64 x470001_1, .slice Ao19 x470002_1.length co19], .agg #[.int .i64 t472, .string t473]] (by rfl) rfl rfl sqA ?_
        with_reducible refine (spec_DeskDo.calls k1 x470000_1 x470001_1 _ _ x470002_1 t472 t473 t475 t476 t477 true _ ?side1 ?side2 A17.out).mono ?_
        (case side1 => exact Z27 HO_470002)
        (case side2 => exact Z28 HO_470002)
        rintro e w23 ⟨v478, rfl, ho0, hb⟩
        refine ⟨_, rfl, ?_⟩
        have HO479 := Aside0.mk (Kd.Q_lower (Kd.Q_new' ho0 (Kd.Q_lt (Z29 HO_470002))) (keep_size (w := w) (g := g) (row := none) (Z54 GW459 GW469 GW481)))
        replace HO_470002 := Aside0.mk (Kd.Q_elder' (Z29 HO_470002) (Kd.Q_base ho0) hb)
        replace BK459 := sqT BK459 hb
        replace BK469 := sqT BK469 hb
        replace BK481 := sqT BK481 hb
        replace HK := Aside0.mk (KeepBut.trans (Z54 GW459 GW469 GW481) (KeepBut.of_below hb g none) (.inl rfl))
        replace HB := Aside0.mk (below_step (Z55 HI0 GE459 GE469 GE481) hb)
        replace HI0 := Aside0.mk (IsS131.below (Z53 HI0 NB0_459 NB0_469 NB0_481) hb)
        (try clear hb)
        (try clear hb2)
        (try clear hk)
        (try clear hi)
        (try clear ho0)
        refine hK.out _ _ ⟨(blk_cell BK469.out 0).trans rfl, (blk_cell BK469.out 1).trans rfl, (blk_cell BK469.out 2).trans rfl⟩ (fun hHeld => ?_)
        clear hK K
        refine sqN (some 26) ?_
        refine sqP (i := 4) (N := some 22) (h := ?_)
        refine sqP (i := 5) (N := some 27) (h := ?_)
        refine sqP (i := 6) (N := some 28) (h := ?_)
        exact norm_ Z51 (hCont (v478, gb481) _ ⟨hHeld, (Z52 HO479), (Z52 HO_470002), (sqK BK459), (sqK BK469), (sqK BK481), GW481.out, GE481.out, NB0_481.out, NB481_0.out, NB459_481.out, NB481_459.out, NB469_481.out, NB481_469.out, (Z53 HI0 NB0_459 NB0_469 NB0_481), (Z54 GW459 GW469 GW481), (Z55 HI0 GE459 GE469 GE481)⟩)
      ·skip
       refine box_step ?hg (N := 8) ?hd (cs := #[.int .i64 0, .int .i64 0, .slice none 0 0]) (t := 34) ?hr ?_; (case hd => rfl); (case hg => rfl); (case hr => exact Z7)
       intro gb481 hg w21 hbox hb
       replace HO_470002 := Aside0.mk (Kd.Q_below (Z29 HO_470002) hb)
       replace HB := Aside0.mk (below_step (Z44 HI0 GE459 GE469) hb)
       have BK481 := Aside0.mk (hbox)
       have GW481 := Aside0.mk ((Z112 GW459 GW469 : w.heap.size ≤ gb481))
       have GE481 := Aside0.mk ((Nat.le_trans HW0.out (Z112 GW459 GW469 : w.heap.size ≤ gb481) : w0.heap.size ≤ gb481))
       replace HK := Aside0.mk (KeepBut.trans (Z43 GW459 GW469) (KeepBut.of_below hb g none) (.inl rfl))
       obtain ⟨NB459_481, NB481_459⟩ := sqM hg BK459
       replace BK459 := sqT BK459 hb
       obtain ⟨NB469_481, NB481_469⟩ := sqM hg BK469
       replace BK469 := sqT BK469 hb
       have NB0_481 := Aside0.mk ((Z56 HI0 NB0_459 NB0_469 : g ≠ gb481))
       have NB481_0 := Aside0.mk ((Z57 HI0 NB0_459 NB0_469 : gb481 ≠ g))
       replace HI0 := Aside0.mk (IsS131.below (Z42 HI0 NB0_459 NB0_469) hb)
       clear hb hbox hg
       refine hK.out _ _ ⟨(blk_cell BK469.out 0).trans rfl, (blk_cell BK469.out 1).trans rfl, (blk_cell BK469.out 2).trans rfl⟩ (fun hHeld => ?_)
       clear hK K
       refine sqN (some 8) ?_
       refine one_ (i := 2) (N := some 25) #[true, true, true, false, false, false, false, true, false, false] rfl rfl (one_of HT_.out (by kernel_rfl)) (by decide) (fun K hK => ?_)
       refine goes_ Tryz.func68 (by kernel_rfl) rfl #[.pointer (some ⟨g, 0, none⟩)] (by rfl) rfl rfl sqA ?_
       with_reducible refine (spec_l20Deed.calls k1 g s0_0 x1001_1 t472 t473 t474 w0 _ ?side1 ?side2 A16.out).mono ?_
       (case side1 => exact Z53 HI0 NB0_459 NB0_469 NB0_481)
       (case side2 => exact Z55 HI0 GE459 GE469 GE481)
       rintro e w22 ⟨rfl, hi, hb, hk⟩
       refine ⟨_, rfl, ?_⟩
       replace HO_470002 := Aside0.mk (Kd.Q_mono (Kd.Q_keep (IsS131.apartQ (show IsS131 w0 _ g s0_0 x1001_1 from by repeat (first | (with_reducible first | exact HI0.out | apply IsS131.alloc | apply IsS131.drewN | apply IsS131.drew | apply IsS131.set_1 | refine IsS131.far ?_ NB0_459.out _ | refine IsS131.far ?_ NB0_469.out _ | refine IsS131.far ?_ NB0_481.out _) | exact HI0.out)) (Z29 HO_470002) (by decide)) hk (fun _ h => h.2)) (fun _ h => h.1))
       replace BK459 := Aside0.mk (KeepBut.blk hk (g' := gb459) (o := .cells #[.int .i64 0, .int .i64 0, .slice none 0 0] 34 (0, 0)) (sqK BK459) NB459_0.out (by simp))
       replace BK469 := Aside0.mk (KeepBut.blk hk (g' := gb469) (o := .cells #[.int .i64 x470000_1, .int .i64 x470001_1, .slice Ao19 x470002_1.length co19] 34 (0, 0)) (sqK BK469) NB469_0.out (by simp))
       replace BK481 := Aside0.mk (KeepBut.blk hk (g' := gb481) (o := .cells #[.int .i64 0, .int .i64 0, .slice none 0 0] 34 (0, 0)) (sqK BK481) NB481_0.out (by simp))
       replace HK := Aside0.mk (KeepBut.trans (Z54 GW459 GW469 GW481) hk (.inl rfl))
       replace HB := Aside0.mk (hb)
       replace HI0 := Aside0.mk (hi)
       (try clear hb)
       (try clear hb2)
       (try clear hk)
       (try clear hi)
       refine hK.out _ _ ⟨(blk_cell BK469.out 0).trans rfl, (blk_cell BK469.out 1).trans rfl, (blk_cell BK469.out 2).trans rfl⟩ (fun hHeld => ?_)
       clear hK K
       refine sqN (some 25) ?_
       refine one_ (i := 3) (N := some 26) #[true, true, true, true, false, false, false, true, false, false] rfl rfl (one_of HT_.out (by kernel_rfl)) (by decide) (fun K hK => ?_)
       refine goes_ Tryz.func14 (by kernel_rfl) rfl #[.agg #[.int .i64 x470000_1, .int .i64 x470001_1, .slice Ao19 x470002_1.length co19], .agg #[.int .i64 t472, .string t473]] (by rfl) rfl rfl sqA ?_
       with_reducible refine (spec_DeskDo.calls k1 x470000_1 x470001_1 _ _ x470002_1 t472 t473 t475 t476 t477 true _ ?side1 ?side2 A17.out).mono ?_
       (case side1 => exact Z27 HO_470002)
       (case side2 => exact Z28 HO_470002)
       rintro e w23 ⟨v478, rfl, ho0, hb⟩
       refine ⟨_, rfl, ?_⟩
       have HO479 := Aside0.mk (Kd.Q_lower (Kd.Q_new' ho0 (Kd.Q_lt (Z29 HO_470002))) (keep_size (w := w) (g := g) (row := none) (Z54 GW459 GW469 GW481)))
       replace HO_470002 := Aside0.mk (Kd.Q_elder' (Z29 HO_470002) (Kd.Q_base ho0) hb)
       replace BK459 := sqT BK459 hb
       replace BK469 := sqT BK469 hb
       replace BK481 := sqT BK481 hb
       replace HK := Aside0.mk (KeepBut.trans (Z54 GW459 GW469 GW481) (KeepBut.of_below hb g none) (.inl rfl))
       replace HB := Aside0.mk (below_step (Z55 HI0 GE459 GE469 GE481) hb)
       replace HI0 := Aside0.mk (IsS131.below (Z53 HI0 NB0_459 NB0_469 NB0_481) hb)
       (try clear hb)
       (try clear hb2)
       (try clear hk)
       (try clear hi)
       (try clear ho0)
       refine hK.out _ _ ⟨(blk_cell BK469.out 0).trans rfl, (blk_cell BK469.out 1).trans rfl, (blk_cell BK469.out 2).trans rfl⟩ (fun hHeld => ?_)
       clear hK K
       refine sqN (some 26) ?_
       refine sqP (i := 4) (N := some 22) (h := ?_)
       refine sqP (i := 5) (N := some 27) (h := ?_)
       refine sqP (i := 6) (N := some 28) (h := ?_)
       exact norm_ Z51 (hCont (v478, gb481) _ ⟨hHeld, (Z52 HO479), (Z52 HO_470002), (sqK BK459), (sqK BK469), (sqK BK481), GW481.out, GE481.out, NB0_481.out, NB481_0.out, NB459_481.out, NB481_459.out, NB469_481.out, NB481_469.out, (Z53 HI0 NB0_459 NB0_469 NB0_481), (Z54 GW459 GW469 GW481), (Z55 HI0 GE459 GE469 GE481)⟩)
     rintro ⟨v478, gb481⟩ w24 ⟨hS_, h0_, h1_, h2_, h3_, h4_, h5_, h6_, h7_, h8_, h9_, h10_, h11_, h12_, h13_, h14_, h15_⟩
     replace HO479 : Aside0 (Kd.Q k31 31 w24 w.heap.size (fun k_ => some k_ ≠ (.slice Ao19 x470002_1.length co19 : Value).ownBlock) v478 t477) := ⟨h0_⟩
     replace HO_470002 : Aside0 (Kd.Q k31 31 w24 w.heap.size (fun k_ => some k_ ≠ (v478 : Value).ownBlock) (.slice Ao19 x470002_1.length co19) x470002_1) := ⟨h1_⟩
     replace BK459 : Aside0 (w24.heap[gb459]? = some (.cells #[.int .i64 0, .int .i64 0, .slice none 0 0] 34 (0, 0))) := ⟨h2_⟩
     replace BK469 : Aside0 (w24.heap[gb469]? = some (.cells #[.int .i64 x470000_1, .int .i64 x470001_1, .slice Ao19 x470002_1.length co19] 34 (0, 0))) := ⟨h3_⟩
     replace BK481 : Aside0 (w24.heap[gb481]? = some (.cells #[.int .i64 0, .int .i64 0, .slice none 0 0] 34 (0, 0))) := ⟨h4_⟩
     replace GW481 : Aside0 (w.heap.size ≤ gb481) := ⟨h5_⟩
     replace GE481 : Aside0 (w0.heap.size ≤ gb481) := ⟨h6_⟩
     replace NB0_481 : Aside0 (g ≠ gb481) := ⟨h7_⟩
     replace NB481_0 : Aside0 (gb481 ≠ g) := ⟨h8_⟩
     replace NB459_481 : Aside0 (gb459 ≠ gb481) := ⟨h9_⟩
     replace NB481_459 : Aside0 (gb481 ≠ gb459) := ⟨h10_⟩
     replace NB469_481 : Aside0 (gb469 ≠ gb481) := ⟨h11_⟩
     replace NB481_469 : Aside0 (gb481 ≠ gb469) := ⟨h12_⟩
     replace HI0 : Aside0 (IsS131 w0 w24 g s0_0 t474) := ⟨h13_⟩
     replace HK : Aside0 (KeepBut w w24 g none) := ⟨h14_⟩
     replace HB : Aside0 (Below w0.heap.size w0 w24) := ⟨h15_⟩
     clear h0_ h1_ h2_ h3_ h4_ h5_ h6_ h7_ h8_ h9_ h10_ h11_ h12_ h13_ h14_ h15_
     have hHeld : w24.cell? ⟨gb469, 0, none⟩ = some (.int .i64 x470000_1) ∧ w24.cell? ⟨gb469, 1, none⟩ = some (.int .i64 x470001_1) ∧ w24.cell? ⟨gb469, 2, none⟩ = some (.slice Ao19 x470002_1.length co19) := hS_
     obtain ⟨Ao27, co27, eo27, _⟩ := Kd.Q_slice HO479.out
     (first | subst eo27 | (injection eo27 with f1_ f2_ f3_; have f4_ := f1_.symm; have f5_ := f3_.symm; clear f1_ f2_ f3_; subst f4_; subst f5_))
     refine norm_ (a' := ?_) ?_ ?_
     rotate_left
     ·simp only [putAll, Act.put, List.setIfInBounds_toArray, List.set_cons_zero, List.set_cons_succ]
      rfl
     refine one_ (i := 8) (N := none) #[true, true, true, true, true, true, true, true, true, false] rfl rfl (one_of HT_.out (by kernel_rfl)) (by decide) (fun K hK => ?_)
     have hs25 : w24.cell? ⟨gb481, 0, none⟩ = some (.int .i64 0) := (blk_cell BK481.out 0).trans rfl
     have hfs25 := blk_frozen BK481.out 0
     have hns25_0 := NB459_481.out
     have hns25_1 := NB469_481.out
     have hms25_0 := NB481_459.out
     have hms25_1 := NB481_469.out
     have hs26 : w24.cell? ⟨gb481, 1, none⟩ = some (.int .i64 0) := (blk_cell BK481.out 1).trans rfl
     have hfs26 := blk_frozen BK481.out 1
     have hns26_0 := NB459_481.out
     have hns26_1 := NB469_481.out
     have hms26_0 := NB481_459.out
     have hms26_1 := NB481_469.out
     have hs28 : w24.cell? ⟨gb481, 2, none⟩ = some (.slice none 0 0) := (blk_cell BK481.out 2).trans rfl
     have hfs28 := blk_frozen BK481.out 2
     have hns28_0 := NB459_481.out
     have hns28_1 := NB469_481.out
     have hms28_0 := NB481_459.out
     have hms28_1 := NB481_469.out
     refine skip_ (w1 := ?_) (by rfl) rfl ?_ ?_
     rotate_left
     ·go_simp
      rfl
     refine hK.out _ _ ⟨((cell_far (p := ⟨gb481, _, none⟩) NB469_481.out _).trans (((cell_far (p := ⟨gb481, _, none⟩) NB469_481.out _).trans (((cell_far (p := ⟨gb481, _, none⟩) NB469_481.out _).trans (hHeld.1)))))), ((cell_far (p := ⟨gb481, _, none⟩) NB469_481.out _).trans (((cell_far (p := ⟨gb481, _, none⟩) NB469_481.out _).trans (((cell_far (p := ⟨gb481, _, none⟩) NB469_481.out _).trans (hHeld.2.1)))))), ((cell_far (p := ⟨gb481, _, none⟩) NB469_481.out _).trans (((cell_far (p := ⟨gb481, _, none⟩) NB469_481.out _).trans (((cell_far (p := ⟨gb481, _, none⟩) NB469_481.out _).trans (hHeld.2.2))))))⟩ (fun hHeld => ?_)
     clear hK K
     refine sqP (i := 9) (N := some 9) (h := ?_)
     refine done_ (done_of HT_.out (by kernel_rfl)) ?_
     have hnb29 := NB481_459.out
     have hnc29 := NB459_481.out
     have hnb30 := NB481_469.out
     have hnc30 := NB469_481.out
     have hnb31 := NB481_0.out
     have hnc31 := NB0_481.out
     obtain ⟨hcz32_0, hcz32_1, hcz32_2, hfz32_0, hfz32_1, hfz32_2⟩ := sqY3 BK481
     have hnb33 := NB469_459.out
     have hnc33 := NB459_469.out
     have hnb34 := NB469_0.out
     have hnc34 := NB0_469.out
     obtain ⟨hcz35_0, hcz35_1, hcz35_2, hfz35_0, hfz35_1, hfz35_2⟩ := sqY3 BK469
     try go_wp2
     go_roundg k1
     case measure => have := HK1.out; omega
     case rel => exact ⟨(wrap64 (x7_1 - 1)), (t474), (t475), (t476), (t477), (.slice Ao27 t477.length co27), Z1, H', ⟨Z4 HK1⟩, ⟨by (with_reducible repeat (first | apply Kd.Q_alloc | apply Kd.Q_drewN | apply Kd.Q_drew)); exact Kd.Q_mono (Kd.Q_far (p := ⟨gb469, 2, none⟩) (Kd.Q_far (p := ⟨gb469, 1, none⟩) (Kd.Q_far (p := ⟨gb469, 0, none⟩) (Kd.Q_far (p := ⟨gb481, 2, none⟩) (Kd.Q_far (p := ⟨gb481, 1, none⟩) (Kd.Q_far (p := ⟨gb481, 0, none⟩) (Kd.Q_types (Kd.Q_types HO479.out BK481.out (by decide)) BK469.out (by decide)) (fun _ hk => hk.1.2) (.int .i64 t475)) (fun _ hk => hk.1.2) (.int .i64 t476)) (fun _ hk => hk.1.2) (.slice Ao27 t477.length co27)) (fun _ hk => hk.2) (.int .i64 t475)) (fun _ hk => hk.2) (.int .i64 t476)) (fun _ hk => hk.2) (.slice Ao27 t477.length co27)) (fun _ hk => trivial)⟩, ⟨by refine sqFar ?_ NB459_469; refine sqFar ?_ NB459_469; refine sqFar ?_ NB459_469; refine sqFar ?_ NB459_481; refine sqFar ?_ NB459_481; refine sqFar ?_ NB459_481; exact sqK BK459⟩, ⟨by refine sqPut (cs := #[.int .i64 t475, .int .i64 t476, .slice Ao19 x470002_1.length co19]) ?_ 2; refine sqPut (cs := #[.int .i64 t475, .int .i64 x470001_1, .slice Ao19 x470002_1.length co19]) ?_ 1; refine sqPut (cs := #[.int .i64 x470000_1, .int .i64 x470001_1, .slice Ao19 x470002_1.length co19]) ?_ 0; refine sqFar ?_ NB469_481; refine sqFar ?_ NB469_481; refine sqFar ?_ NB469_481; exact sqK BK469⟩, ⟨Z53 HI0 NB0_459 NB0_469 NB0_481⟩, ⟨Z54 GW459 GW469 GW481⟩, ⟨Z55 HI0 GE459 GE469 GE481⟩⟩
    ·replace c18 := Bool.eq_false_iff.mpr c18
     subst c18
     rw [if_neg sqF] at H
     have H' := Aside0.mk H
     clear H
     obtain ⟨Ao36, co36, eo36, _⟩ := Kd.Q_slice HO_470002.out
     subst eo36
     try go_wp2
     replace HO_470002 := Aside0.mk (Kd.Q_drew HO_470002.out)
     replace BK459 := Aside0.mk (blk_drew BK459.out)
     replace BK469 := Aside0.mk (blk_drew BK469.out)
     replace HI0 := Aside0.mk (IsS131.drew HI0.out)
     replace HK := Aside0.mk (keep_drew HK.out)
     replace HB := Aside0.mk (below_drew1 HB.out)
     refine start_ (n := 10) (S := fun w' => w'.cell? ⟨gb469, 0, none⟩ = some (.int .i64 x470000_1) ∧ w'.cell? ⟨gb469, 1, none⟩ = some (.int .i64 x470001_1) ∧ w'.cell? ⟨gb469, 2, none⟩ = some (.slice Ao36 x470002_1.length co36)) (ds := []) #[false, false, false, false, false, false, false, false, false, false] (by kernel_rfl) rfl rfl ⟨(blk_cell BK469.out 0).trans rfl, (blk_cell BK469.out 1).trans rfl, (blk_cell BK469.out 2).trans rfl⟩ (fun hHeld => ?_); refine with_tabW spec_l20Desk.tab5 spec_l20Desk.bits5 (fun HT_ HW_ => ?_)
     generalize wr.drew = w37 at HO_470002 BK459 BK469 HI0 HK HB hHeld ⊢
     refine sqP (i := 1) (N := some 24) (h := ?_)
     refine sqQ (i := 0) (N := some 23) hHeld (h := ?_)
     refine join_ (σ := Value × Nat) 2 #[true, true, true, true, true, true, true, true, false, false] (fun s_ => [(25, .agg #[.int .i64 t472, .string t473]), (26, .tuple #[.agg #[.int .i64 t475, .int .i64 t476, s_.1], .bool false]), (8, .pointer (some ⟨s_.2, 0, none⟩)), (22, .tuple #[.agg #[.int .i64 t475, .int .i64 t476, s_.1], .bool false]), (27, .agg #[.int .i64 t475, .int .i64 t476, s_.1]), (28, .bool false)]) (fun s_ w' => (w'.cell? ⟨gb469, 0, none⟩ = some (.int .i64 x470000_1) ∧ w'.cell? ⟨gb469, 1, none⟩ = some (.int .i64 x470001_1) ∧ w'.cell? ⟨gb469, 2, none⟩ = some (.slice Ao36 x470002_1.length co36)) ∧ (Kd.Q k31 31 w' w.heap.size (fun k_ => some k_ ≠ (.slice Ao36 x470002_1.length co36 : Value).ownBlock) s_.1 t477) ∧ (Kd.Q k31 31 w' w.heap.size (fun k_ => some k_ ≠ (s_.1 : Value).ownBlock) (.slice Ao36 x470002_1.length co36) x470002_1) ∧ (w'.heap[gb459]? = some (.cells #[.int .i64 0, .int .i64 0, .slice none 0 0] 34 (0, 0))) ∧ (w'.heap[gb469]? = some (.cells #[.int .i64 x470000_1, .int .i64 x470001_1, .slice Ao36 x470002_1.length co36] 34 (0, 0))) ∧ (w'.heap[s_.2]? = some (.cells #[.int .i64 0, .int .i64 0, .slice none 0 0] 34 (0, 0))) ∧ (w.heap.size ≤ s_.2) ∧ (w0.heap.size ≤ s_.2) ∧ (g ≠ s_.2) ∧ (s_.2 ≠ g) ∧ (gb459 ≠ s_.2) ∧ (s_.2 ≠ gb459) ∧ (gb469 ≠ s_.2) ∧ (s_.2 ≠ gb469) ∧ (IsS131 w0 w' g s0_0 t474) ∧ (KeepBut w w' g none) ∧ (Below w0.heap.size w0 w')) ?_ ?_
     rotate_left
     ·intro hCont
      refine two_ (i := 2) (j := 7) (Ni := some 25) (Nj := some 8) #[true, true, true, false, false, false, false, false, false, false] #[true, true, false, false, false, false, false, true, false, false] rfl rfl rfl rfl (two_of HT_.out (by kernel_rfl)) (by decide) (by decide) (fun K hK => ?_) (fun K hK => ?_)
      ·skip
       refine goes_ Tryz.func68 (by kernel_rfl) rfl #[.pointer (some ⟨g, 0, none⟩)] (by rfl) rfl rfl sqA ?_
       with_reducible refine (spec_l20Deed.calls k1 g s0_0 x1001_1 t472 t473 t474 w0 _ ?side1 ?side2 A16.out).mono ?_
       (case side1 => exact Z42 HI0 NB0_459 NB0_469)
       (case side2 => exact Z44 HI0 GE459 GE469)
       rintro e w38 ⟨rfl, hi, hb, hk⟩
       refine ⟨_, rfl, ?_⟩
       replace HO_470002 := Aside0.mk (Kd.Q_mono (Kd.Q_keep (IsS131.apartQ (show IsS131 w0 _ g s0_0 x1001_1 from by repeat (first | (with_reducible first | exact HI0.out | apply IsS131.alloc | apply IsS131.drewN | apply IsS131.drew | apply IsS131.set_1 | refine IsS131.far ?_ NB0_459.out _ | refine IsS131.far ?_ NB0_469.out _) | exact HI0.out)) (Z29 HO_470002) (by decide)) hk (fun _ h => h.2)) (fun _ h => h.1))
       replace BK459 := Aside0.mk (KeepBut.blk hk (g' := gb459) (o := .cells #[.int .i64 0, .int .i64 0, .slice none 0 0] 34 (0, 0)) (sqK BK459) NB459_0.out (by simp))
       replace BK469 := Aside0.mk (KeepBut.blk hk (g' := gb469) (o := .cells #[.int .i64 x470000_1, .int .i64 x470001_1, .slice Ao36 x470002_1.length co36] 34 (0, 0)) (sqK BK469) NB469_0.out (by simp))
       replace HK := Aside0.mk (KeepBut.trans (Z43 GW459 GW469) hk (.inl rfl))
       replace HB := Aside0.mk (hb)
       replace HI0 := Aside0.mk (hi)
       (try clear hb)
       (try clear hb2)
       (try clear hk)
       (try clear hi)
       refine hK.out _ _ ⟨(blk_cell BK469.out 0).trans rfl, (blk_cell BK469.out 1).trans rfl, (blk_cell BK469.out 2).trans rfl⟩ (fun hHeld => ?_)
       clear hK K
       refine sqN (some 25) ?_
       refine two_ (i := 3) (j := 7) (Ni := some 26) (Nj := some 8) #[true, true, true, true, false, false, false, false, false, false] #[true, true, true, false, false, false, false, true, false, false] rfl rfl rfl rfl (two_of HT_.out (by kernel_rfl)) (by decide) (by decide) (fun K hK => ?_) (fun K hK => ?_)
       ·skip
        refine goes_ Tryz.func14 (by kernel_rfl) rfl #[.agg #[.int .i64 x470000_1, .int .i64 x470001_1, .slice Ao36 x470002_1.length co36], .agg #[.int .i64 t472, .string t473]] (by rfl) rfl rfl sqA ?_
        with_reducible refine (spec_DeskDo.calls k1 x470000_1 x470001_1 _ _ x470002_1 t472 t473 t475 t476 t477 false _ ?side1 ?side2 A17.out).mono ?_
        (case side1 => exact Z27 HO_470002)
        (case side2 => exact Z28 HO_470002)
        rintro e w39 ⟨v478, rfl, ho0, hb⟩
        refine ⟨_, rfl, ?_⟩
        have HO479 := Aside0.mk (Kd.Q_lower (Kd.Q_new' ho0 (Kd.Q_lt (Z29 HO_470002))) (keep_size (w := w) (g := g) (row := none) (Z43 GW459 GW469)))
        replace HO_470002 := Aside0.mk (Kd.Q_elder' (Z29 HO_470002) (Kd.Q_base ho0) hb)
        replace BK459 := sqT BK459 hb
        replace BK469 := sqT BK469 hb
        replace HK := Aside0.mk (KeepBut.trans (Z43 GW459 GW469) (KeepBut.of_below hb g none) (.inl rfl))
        replace HB := Aside0.mk (below_step (Z44 HI0 GE459 GE469) hb)
        replace HI0 := Aside0.mk (IsS131.below (Z42 HI0 NB0_459 NB0_469) hb)
        (try clear hb)
        (try clear hb2)
        (try clear hk)
        (try clear hi)
        (try clear ho0)
        refine hK.out _ _ ⟨(blk_cell BK469.out 0).trans rfl, (blk_cell BK469.out 1).trans rfl, (blk_cell BK469.out 2).trans rfl⟩ (fun hHeld => ?_)
        clear hK K
        refine sqN (some 26) ?_
        refine sqP (i := 4) (N := some 22) (h := ?_)
        refine sqP (i := 5) (N := some 27) (h := ?_)
        refine sqP (i := 6) (N := some 28) (h := ?_)
        refine one_ (i := 7) (N := some 8) #[true, true, true, true, true, true, true, true, false, false] rfl rfl (one_of HT_.out (by kernel_rfl)) (by decide) (fun K hK => ?_)
        refine box_step ?hg (N := 8) ?hd (cs := #[.int .i64 0, .int .i64 0, .slice none 0 0]) (t := 34) ?hr ?_; (case hd => rfl); (case hg => rfl); (case hr => exact Z7)
        intro gb481 hg w40 hbox hb
        replace HO_470002 := Aside0.mk (Kd.Q_below (Z29 HO_470002) hb)
        replace HO479 := Aside0.mk (Kd.Q_below (Z29 HO479) hb)
        replace HB := Aside0.mk (below_step (Z44 HI0 GE459 GE469) hb)
        have BK481 := Aside0.mk (hbox)
        have GW481 := Aside0.mk ((Z112 GW459 GW469 : w.heap.size ≤ gb481))
        have GE481 := Aside0.mk ((Nat.le_trans HW0.out (Z112 GW459 GW469 : w.heap.size ≤ gb481) : w0.heap.size ≤ gb481))
        replace HK := Aside0.mk (KeepBut.trans (Z43 GW459 GW469) (KeepBut.of_below hb g none) (.inl rfl))
        obtain ⟨NB459_481, NB481_459⟩ := sqM hg BK459
        replace BK459 := sqT BK459 hb
        obtain ⟨NB469_481, NB481_469⟩ := sqM hg BK469
        replace BK469 := sqT BK469 hb
        have NB0_481 := Aside0.mk ((Z49 HI0 NB0_459 NB0_469 : g ≠ gb481))
        have NB481_0 := Aside0.mk ((Z50 HI0 NB0_459 NB0_469 : gb481 ≠ g))
        replace HI0 := Aside0.mk (IsS131.below (Z42 HI0 NB0_459 NB0_469) hb)
        clear hb hbox hg
        refine hK.out _ _ ⟨(blk_cell BK469.out 0).trans rfl, (blk_cell BK469.out 1).trans rfl, (blk_cell BK469.out 2).trans rfl⟩ (fun hHeld => ?_)
        clear hK K
        refine sqN (some 8) ?_
        exact norm_ Z51 (hCont (v478, gb481) _ ⟨hHeld, (Z52 HO479), (Z52 HO_470002), (sqK BK459), (sqK BK469), (sqK BK481), GW481.out, GE481.out, NB0_481.out, NB481_0.out, NB459_481.out, NB481_459.out, NB469_481.out, NB481_469.out, (Z53 HI0 NB0_459 NB0_469 NB0_481), (Z54 GW459 GW469 GW481), (Z55 HI0 GE459 GE469 GE481)⟩)
       ·skip
        refine box_step ?hg (N := 8) ?hd (cs := #[.int .i64 0, .int .i64 0, .slice none 0 0]) (t := 34) ?hr ?_; (case hd => rfl); (case hg => rfl); (case hr => exact Z7)
        intro gb481 hg w39 hbox hb
        replace HO_470002 := Aside0.mk (Kd.Q_below (Z29 HO_470002) hb)
        replace HB := Aside0.mk (below_step (Z44 HI0 GE459 GE469) hb)
        have BK481 := Aside0.mk (hbox)
        have GW481 := Aside0.mk ((Z112 GW459 GW469 : w.heap.size ≤ gb481))
        have GE481 := Aside0.mk ((Nat.le_trans HW0.out (Z112 GW459 GW469 : w.heap.size ≤ gb481) : w0.heap.size ≤ gb481))
        replace HK := Aside0.mk (KeepBut.trans (Z43 GW459 GW469) (KeepBut.of_below hb g none) (.inl rfl))
        obtain ⟨NB459_481, NB481_459⟩ := sqM hg BK459
        replace BK459 := sqT BK459 hb
        obtain ⟨NB469_481, NB481_469⟩ := sqM hg BK469
        replace BK469 := sqT BK469 hb
        have NB0_481 := Aside0.mk ((Z49 HI0 NB0_459 NB0_469 : g ≠ gb481))
        have NB481_0 := Aside0.mk ((Z50 HI0 NB0_459 NB0_469 : gb481 ≠ g))
        replace HI0 := Aside0.mk (IsS131.below (Z42 HI0 NB0_459 NB0_469) hb)
        clear hb hbox hg
        refine hK.out _ _ ⟨(blk_cell BK469.out 0).trans rfl, (blk_cell BK469.out 1).trans rfl, (blk_cell BK469.out 2).trans rfl⟩ (fun hHeld => ?_)
        clear hK K
        refine sqN (some 8) ?_
        refine one_ (i := 3) (N := some 26) #[true, true, true, true, false, false, false, true, false, false] rfl rfl (one_of HT_.out (by kernel_rfl)) (by decide) (fun K hK => ?_)
        refine goes_ Tryz.func14 (by kernel_rfl) rfl #[.agg #[.int .i64 x470000_1, .int .i64 x470001_1, .slice Ao36 x470002_1.length co36], .agg #[.int .i64 t472, .string t473]] (by rfl) rfl rfl sqA ?_
        with_reducible refine (spec_DeskDo.calls k1 x470000_1 x470001_1 _ _ x470002_1 t472 t473 t475 t476 t477 false _ ?side1 ?side2 A17.out).mono ?_
        (case side1 => exact Z27 HO_470002)
        (case side2 => exact Z28 HO_470002)
        rintro e w40 ⟨v478, rfl, ho0, hb⟩
        refine ⟨_, rfl, ?_⟩
        have HO479 := Aside0.mk (Kd.Q_lower (Kd.Q_new' ho0 (Kd.Q_lt (Z29 HO_470002))) (keep_size (w := w) (g := g) (row := none) (Z54 GW459 GW469 GW481)))
        replace HO_470002 := Aside0.mk (Kd.Q_elder' (Z29 HO_470002) (Kd.Q_base ho0) hb)
        replace BK459 := sqT BK459 hb
        replace BK469 := sqT BK469 hb
        replace BK481 := sqT BK481 hb
        replace HK := Aside0.mk (KeepBut.trans (Z54 GW459 GW469 GW481) (KeepBut.of_below hb g none) (.inl rfl))
        replace HB := Aside0.mk (below_step (Z55 HI0 GE459 GE469 GE481) hb)
        replace HI0 := Aside0.mk (IsS131.below (Z53 HI0 NB0_459 NB0_469 NB0_481) hb)
        (try clear hb)
        (try clear hb2)
        (try clear hk)
        (try clear hi)
        (try clear ho0)
        refine hK.out _ _ ⟨(blk_cell BK469.out 0).trans rfl, (blk_cell BK469.out 1).trans rfl, (blk_cell BK469.out 2).trans rfl⟩ (fun hHeld => ?_)
        clear hK K
        refine sqN (some 26) ?_
        refine sqP (i := 4) (N := some 22) (h := ?_)
        refine sqP (i := 5) (N := some 27) (h := ?_)
        refine sqP (i := 6) (N := some 28) (h := ?_)
        exact norm_ Z51 (hCont (v478, gb481) _ ⟨hHeld, (Z52 HO479), (Z52 HO_470002), (sqK BK459), (sqK BK469), (sqK BK481), GW481.out, GE481.out, NB0_481.out, NB481_0.out, NB459_481.out, NB481_459.out, NB469_481.out, NB481_469.out, (Z53 HI0 NB0_459 NB0_469 NB0_481), (Z54 GW459 GW469 GW481), (Z55 HI0 GE459 GE469 GE481)⟩)
      ·skip
       refine box_step ?hg (N := 8) ?hd (cs := #[.int .i64 0, .int .i64 0, .slice none 0 0]) (t := 34) ?hr ?_; (case hd => rfl); (case hg => rfl); (case hr => exact Z7)
       intro gb481 hg w38 hbox hb
       replace HO_470002 := Aside0.mk (Kd.Q_below (Z29 HO_470002) hb)
       replace HB := Aside0.mk (below_step (Z44 HI0 GE459 GE469) hb)
       have BK481 := Aside0.mk (hbox)
       have GW481 := Aside0.mk ((Z112 GW459 GW469 : w.heap.size ≤ gb481))
       have GE481 := Aside0.mk ((Nat.le_trans HW0.out (Z112 GW459 GW469 : w.heap.size ≤ gb481) : w0.heap.size ≤ gb481))
       replace HK := Aside0.mk (KeepBut.trans (Z43 GW459 GW469) (KeepBut.of_below hb g none) (.inl rfl))
       obtain ⟨NB459_481, NB481_459⟩ := sqM hg BK459
       replace BK459 := sqT BK459 hb
       obtain ⟨NB469_481, NB481_469⟩ := sqM hg BK469
       replace BK469 := sqT BK469 hb
       have NB0_481 := Aside0.mk ((Z56 HI0 NB0_459 NB0_469 : g ≠ gb481))
       have NB481_0 := Aside0.mk ((Z57 HI0 NB0_459 NB0_469 : gb481 ≠ g))
       replace HI0 := Aside0.mk (IsS131.below (Z42 HI0 NB0_459 NB0_469) hb)
       clear hb hbox hg
       refine hK.out _ _ ⟨(blk_cell BK469.out 0).trans rfl, (blk_cell BK469.out 1).trans rfl, (blk_cell BK469.out 2).trans rfl⟩ (fun hHeld => ?_)
       clear hK K
       refine sqN (some 8) ?_
       refine one_ (i := 2) (N := some 25) #[true, true, true, false, false, false, false, true, false, false] rfl rfl (one_of HT_.out (by kernel_rfl)) (by decide) (fun K hK => ?_)
       refine goes_ Tryz.func68 (by kernel_rfl) rfl #[.pointer (some ⟨g, 0, none⟩)] (by rfl) rfl rfl sqA ?_
       with_reducible refine (spec_l20Deed.calls k1 g s0_0 x1001_1 t472 t473 t474 w0 _ ?side1 ?side2 A16.out).mono ?_
       (case side1 => exact Z53 HI0 NB0_459 NB0_469 NB0_481)
       (case side2 => exact Z55 HI0 GE459 GE469 GE481)
       rintro e w39 ⟨rfl, hi, hb, hk⟩
       refine ⟨_, rfl, ?_⟩
       replace HO_470002 := Aside0.mk (Kd.Q_mono (Kd.Q_keep (IsS131.apartQ (show IsS131 w0 _ g s0_0 x1001_1 from by repeat (first | (with_reducible first | exact HI0.out | apply IsS131.alloc | apply IsS131.drewN | apply IsS131.drew | apply IsS131.set_1 | refine IsS131.far ?_ NB0_459.out _ | refine IsS131.far ?_ NB0_469.out _ | refine IsS131.far ?_ NB0_481.out _) | exact HI0.out)) (Z29 HO_470002) (by decide)) hk (fun _ h => h.2)) (fun _ h => h.1))
       replace BK459 := Aside0.mk (KeepBut.blk hk (g' := gb459) (o := .cells #[.int .i64 0, .int .i64 0, .slice none 0 0] 34 (0, 0)) (sqK BK459) NB459_0.out (by simp))
       replace BK469 := Aside0.mk (KeepBut.blk hk (g' := gb469) (o := .cells #[.int .i64 x470000_1, .int .i64 x470001_1, .slice Ao36 x470002_1.length co36] 34 (0, 0)) (sqK BK469) NB469_0.out (by simp))
       replace BK481 := Aside0.mk (KeepBut.blk hk (g' := gb481) (o := .cells #[.int .i64 0, .int .i64 0, .slice none 0 0] 34 (0, 0)) (sqK BK481) NB481_0.out (by simp))
       replace HK := Aside0.mk (KeepBut.trans (Z54 GW459 GW469 GW481) hk (.inl rfl))
       replace HB := Aside0.mk (hb)
       replace HI0 := Aside0.mk (hi)
       (try clear hb)
       (try clear hb2)
       (try clear hk)
       (try clear hi)
       refine hK.out _ _ ⟨(blk_cell BK469.out 0).trans rfl, (blk_cell BK469.out 1).trans rfl, (blk_cell BK469.out 2).trans rfl⟩ (fun hHeld => ?_)
       clear hK K
       refine sqN (some 25) ?_
       refine one_ (i := 3) (N := some 26) #[true, true, true, true, false, false, false, true, false, false] rfl rfl (one_of HT_.out (by kernel_rfl)) (by decide) (fun K hK => ?_)
       refine goes_ Tryz.func14 (by kernel_rfl) rfl #[.agg #[.int .i64 x470000_1, .int .i64 x470001_1, .slice Ao36 x470002_1.length co36], .agg #[.int .i64 t472, .string t473]] (by rfl) rfl rfl sqA ?_
       with_reducible refine (spec_DeskDo.calls k1 x470000_1 x470001_1 _ _ x470002_1 t472 t473 t475 t476 t477 false _ ?side1 ?side2 A17.out).mono ?_
       (case side1 => exact Z27 HO_470002)
       (case side2 => exact Z28 HO_470002)
       rintro e w40 ⟨v478, rfl, ho0, hb⟩
       refine ⟨_, rfl, ?_⟩
       have HO479 := Aside0.mk (Kd.Q_lower (Kd.Q_new' ho0 (Kd.Q_lt (Z29 HO_470002))) (keep_size (w := w) (g := g) (row := none) (Z54 GW459 GW469 GW481)))
       replace HO_470002 := Aside0.mk (Kd.Q_elder' (Z29 HO_470002) (Kd.Q_base ho0) hb)
       replace BK459 := sqT BK459 hb
       replace BK469 := sqT BK469 hb
       replace BK481 := sqT BK481 hb
       replace HK := Aside0.mk (KeepBut.trans (Z54 GW459 GW469 GW481) (KeepBut.of_below hb g none) (.inl rfl))
       replace HB := Aside0.mk (below_step (Z55 HI0 GE459 GE469 GE481) hb)
       replace HI0 := Aside0.mk (IsS131.below (Z53 HI0 NB0_459 NB0_469 NB0_481) hb)
       (try clear hb)
       (try clear hb2)
       (try clear hk)
       (try clear hi)
       (try clear ho0)
       refine hK.out _ _ ⟨(blk_cell BK469.out 0).trans rfl, (blk_cell BK469.out 1).trans rfl, (blk_cell BK469.out 2).trans rfl⟩ (fun hHeld => ?_)
       clear hK K
       refine sqN (some 26) ?_
       refine sqP (i := 4) (N := some 22) (h := ?_)
       refine sqP (i := 5) (N := some 27) (h := ?_)
       refine sqP (i := 6) (N := some 28) (h := ?_)
       exact norm_ Z51 (hCont (v478, gb481) _ ⟨hHeld, (Z52 HO479), (Z52 HO_470002), (sqK BK459), (sqK BK469), (sqK BK481), GW481.out, GE481.out, NB0_481.out, NB481_0.out, NB459_481.out, NB481_459.out, NB469_481.out, NB481_469.out, (Z53 HI0 NB0_459 NB0_469 NB0_481), (Z54 GW459 GW469 GW481), (Z55 HI0 GE459 GE469 GE481)⟩)
     rintro ⟨v478, gb481⟩ w41 ⟨hS_, h0_, h1_, h2_, h3_, h4_, h5_, h6_, h7_, h8_, h9_, h10_, h11_, h12_, h13_, h14_, h15_⟩
     replace HO479 : Aside0 (Kd.Q k31 31 w41 w.heap.size (fun k_ => some k_ ≠ (.slice Ao36 x470002_1.length co36 : Value).ownBlock) v478 t477) := ⟨h0_⟩
     replace HO_470002 : Aside0 (Kd.Q k31 31 w41 w.heap.size (fun k_ => some k_ ≠ (v478 : Value).ownBlock) (.slice Ao36 x470002_1.length co36) x470002_1) := ⟨h1_⟩
     replace BK459 : Aside0 (w41.heap[gb459]? = some (.cells #[.int .i64 0, .int .i64 0, .slice none 0 0] 34 (0, 0))) := ⟨h2_⟩
     replace BK469 : Aside0 (w41.heap[gb469]? = some (.cells #[.int .i64 x470000_1, .int .i64 x470001_1, .slice Ao36 x470002_1.length co36] 34 (0, 0))) := ⟨h3_⟩
     replace BK481 : Aside0 (w41.heap[gb481]? = some (.cells #[.int .i64 0, .int .i64 0, .slice none 0 0] 34 (0, 0))) := ⟨h4_⟩
     replace GW481 : Aside0 (w.heap.size ≤ gb481) := ⟨h5_⟩
     replace GE481 : Aside0 (w0.heap.size ≤ gb481) := ⟨h6_⟩
     replace NB0_481 : Aside0 (g ≠ gb481) := ⟨h7_⟩
     replace NB481_0 : Aside0 (gb481 ≠ g) := ⟨h8_⟩
     replace NB459_481 : Aside0 (gb459 ≠ gb481) := ⟨h9_⟩
     replace NB481_459 : Aside0 (gb481 ≠ gb459) := ⟨h10_⟩
     replace NB469_481 : Aside0 (gb469 ≠ gb481) := ⟨h11_⟩
     replace NB481_469 : Aside0 (gb481 ≠ gb469) := ⟨h12_⟩
     replace HI0 : Aside0 (IsS131 w0 w41 g s0_0 t474) := ⟨h13_⟩
     replace HK : Aside0 (KeepBut w w41 g none) := ⟨h14_⟩
     replace HB : Aside0 (Below w0.heap.size w0 w41) := ⟨h15_⟩
     clear h0_ h1_ h2_ h3_ h4_ h5_ h6_ h7_ h8_ h9_ h10_ h11_ h12_ h13_ h14_ h15_
     have hHeld : w41.cell? ⟨gb469, 0, none⟩ = some (.int .i64 x470000_1) ∧ w41.cell? ⟨gb469, 1, none⟩ = some (.int .i64 x470001_1) ∧ w41.cell? ⟨gb469, 2, none⟩ = some (.slice Ao36 x470002_1.length co36) := hS_
     obtain ⟨Ao44, co44, eo44, _⟩ := Kd.Q_slice HO479.out
     (first | subst eo44 | (injection eo44 with f1_ f2_ f3_; have f4_ := f1_.symm; have f5_ := f3_.symm; clear f1_ f2_ f3_; subst f4_; subst f5_))
     refine norm_ (a' := ?_) ?_ ?_
     rotate_left
     ·simp only [putAll, Act.put, List.setIfInBounds_toArray, List.set_cons_zero, List.set_cons_succ]
      rfl
     refine one_ (i := 8) (N := none) #[true, true, true, true, true, true, true, true, true, false] rfl rfl (one_of HT_.out (by kernel_rfl)) (by decide) (fun K hK => ?_)
     have hs42 : w41.cell? ⟨gb481, 0, none⟩ = some (.int .i64 0) := (blk_cell BK481.out 0).trans rfl
     have hfs42 := blk_frozen BK481.out 0
     have hns42_0 := NB459_481.out
     have hns42_1 := NB469_481.out
     have hms42_0 := NB481_459.out
     have hms42_1 := NB481_469.out
     have hs43 : w41.cell? ⟨gb481, 1, none⟩ = some (.int .i64 0) := (blk_cell BK481.out 1).trans rfl
     have hfs43 := blk_frozen BK481.out 1
     have hns43_0 := NB459_481.out
     have hns43_1 := NB469_481.out
     have hms43_0 := NB481_459.out
     have hms43_1 := NB481_469.out
     have hs45 : w41.cell? ⟨gb481, 2, none⟩ = some (.slice none 0 0) := (blk_cell BK481.out 2).trans rfl
     have hfs45 := blk_frozen BK481.out 2
     have hns45_0 := NB459_481.out
     have hns45_1 := NB469_481.out
     have hms45_0 := NB481_459.out
     have hms45_1 := NB481_469.out
     refine skip_ (w1 := ?_) (by rfl) rfl ?_ ?_
     rotate_left
     ·go_simp
      rfl
     refine hK.out _ _ ⟨((cell_far (p := ⟨gb481, _, none⟩) NB469_481.out _).trans (((cell_far (p := ⟨gb481, _, none⟩) NB469_481.out _).trans (((cell_far (p := ⟨gb481, _, none⟩) NB469_481.out _).trans (hHeld.1)))))), ((cell_far (p := ⟨gb481, _, none⟩) NB469_481.out _).trans (((cell_far (p := ⟨gb481, _, none⟩) NB469_481.out _).trans (((cell_far (p := ⟨gb481, _, none⟩) NB469_481.out _).trans (hHeld.2.1)))))), ((cell_far (p := ⟨gb481, _, none⟩) NB469_481.out _).trans (((cell_far (p := ⟨gb481, _, none⟩) NB469_481.out _).trans (((cell_far (p := ⟨gb481, _, none⟩) NB469_481.out _).trans (hHeld.2.2))))))⟩ (fun hHeld => ?_)
     clear hK K
     refine sqP (i := 9) (N := some 9) (h := ?_)
     refine done_ (done_of HT_.out (by kernel_rfl)) ?_
     try go_wp2
     go_roundg k1
     case measure => have := HK1.out; omega
     case rel => exact ⟨(wrap64 (x7_1 - 1)), (t474), (x470000_1), (x470001_1), (x470002_1), (.slice Ao36 x470002_1.length co36), Z1, H', ⟨Z4 HK1⟩, ⟨by (with_reducible repeat (first | apply Kd.Q_alloc | apply Kd.Q_drewN | apply Kd.Q_drew)); exact Kd.Q_mono (Kd.Q_far (p := ⟨gb481, 2, none⟩) (Kd.Q_far (p := ⟨gb481, 1, none⟩) (Kd.Q_far (p := ⟨gb481, 0, none⟩) (Kd.Q_types HO_470002.out BK481.out (by decide)) (fun _ hk => hk.2) (.int .i64 t475)) (fun _ hk => hk.2) (.int .i64 t476)) (fun _ hk => hk.2) (.slice Ao44 t477.length co44)) (fun _ hk => trivial)⟩, ⟨Z20 NB459_481 BK459⟩, ⟨Z20 NB469_481 BK469⟩, ⟨Z53 HI0 NB0_459 NB0_469 NB0_481⟩, ⟨Z54 GW459 GW469 GW481⟩, ⟨Z55 HI0 GE459 GE469 GE481⟩⟩
   ·rw [if_neg c15] at H
    have c15b0 : decide (0 < x7_1) = false := decide_eq_false c15
    clear c15
    obtain ⟨⟨t482, t483⟩, A46, H⟩ := sqD H
    try dsimp only at H
    by_cases c47 : t482 = true
    ·subst c47
     rw [if_pos rfl] at H
     obtain ⟨⟨t484, t485⟩, A48, H⟩ := sqD H
     try dsimp only at H
     by_cases c49 : t484 = 0
     ·rw [if_pos c49] at H
      have c49b0 : (t484 == 0) = true := beq_iff_eq.mpr c49
      have c49b1 : (t484 != 0) = false := bne_eq_false_iff_eq.mpr c49
      clear c49
      obtain ⟨rfl, rfl, rfl, rfl⟩ := sqO4 H
      go_wp2_with (first | ((with_reducible refine gate_callee (f := 74) rfl ?_); refine goesL_ (some 33) rfl rfl Tryz.func74 (by kernel_rfl) rfl #[.pointer (some ⟨g, 0, none⟩), .int .i64 a1] rfl sqA ?_; (with_reducible refine (spec_l20Rd_odd.calls k1 g s0_0 x1001_1 a1 true t483 w0 _ ?side1 ?side2 A46.out).mono ?_); (case side1 => exact Z42 HI0 NB0_459 NB0_469); (case side2 => exact Z44 HI0 GE459 GE469); rintro e w50 ⟨rfl, hi, hb, hk⟩; refine ⟨_, rfl, ?_⟩; replace HO_470002 := Aside0.mk (Kd.Q_mono (Kd.Q_keep (IsS131.apartQ (show IsS131 w0 _ g s0_0 x1001_1 from by repeat (first | (with_reducible first | exact HI0.out | apply IsS131.alloc | apply IsS131.drewN | apply IsS131.drew | apply IsS131.set_1 | refine IsS131.far ?_ NB0_459.out _ | refine IsS131.far ?_ NB0_469.out _) | exact HI0.out)) (Z29 HO_470002) (by decide)) hk (fun _ h => h.2)) (fun _ h => h.1)); replace BK459 := Aside0.mk (KeepBut.blk hk (g' := gb459) (o := .cells #[.int .i64 0, .int .i64 0, .slice none 0 0] 34 (0, 0)) (sqK BK459) NB459_0.out (by simp)); replace BK469 := Aside0.mk (KeepBut.blk hk (g' := gb469) (o := .cells #[.int .i64 x470000_1, .int .i64 x470001_1, u470002] 34 (0, 0)) (sqK BK469) NB469_0.out (by simp)); replace HK := Aside0.mk (KeepBut.trans (Z43 GW459 GW469) hk (.inl rfl)); replace HB := Aside0.mk (hb); replace HI0 := Aside0.mk (hi); (try clear hb)) | ((with_reducible refine gate_callee (f := 82) rfl ?_); refine goesL_ (some 35) rfl rfl Tryz.func82 (by kernel_rfl) rfl #[.pointer (some ⟨g, 0, none⟩), .int .i64 3] rfl sqA ?_; (with_reducible refine (spec_l20Rd_pick.calls k1 g s0_0 t483 3 t484 t485 w0 _ ?side1 ?side2 A48.out).mono ?_); (case side1 => exact Z42 HI0 NB0_459 NB0_469); (case side2 => exact Z44 HI0 GE459 GE469); rintro e w51 ⟨rfl, hi, hb, hk⟩; refine ⟨_, rfl, ?_⟩; replace HO_470002 := Aside0.mk (Kd.Q_mono (Kd.Q_keep (IsS131.apartQ (show IsS131 w0 _ g s0_0 t483 from by repeat (first | (with_reducible first | exact HI0.out | apply IsS131.alloc | apply IsS131.drewN | apply IsS131.drew | apply IsS131.set_1 | refine IsS131.far ?_ NB0_459.out _ | refine IsS131.far ?_ NB0_469.out _) | exact HI0.out)) (Z29 HO_470002) (by decide)) hk (fun _ h => h.2)) (fun _ h => h.1)); replace BK459 := Aside0.mk (KeepBut.blk hk (g' := gb459) (o := .cells #[.int .i64 0, .int .i64 0, .slice none 0 0] 34 (0, 0)) (sqK BK459) NB459_0.out (by simp)); replace BK469 := Aside0.mk (KeepBut.blk hk (g' := gb469) (o := .cells #[.int .i64 x470000_1, .int .i64 x470001_1, u470002] 34 (0, 0)) (sqK BK469) NB469_0.out (by simp)); replace HK := Aside0.mk (KeepBut.trans (Z43 GW459 GW469) hk (.inl rfl)); replace HB := Aside0.mk (hb); replace HI0 := Aside0.mk (hi); (try clear hb); have hnb52 := NB469_459.out; have hnc52 := NB459_469.out; have hnb53 := NB469_0.out; have hnc53 := NB0_469.out; obtain ⟨hcz54_0, hcz54_1, hcz54_2, hfz54_0, hfz54_1, hfz54_2⟩ := sqY3 BK469; have hnb55 := NB459_0.out; have hnc55 := NB0_459.out; obtain ⟨hcz56_0, hcz56_1, hcz56_2, hfz56_0, hfz56_1, hfz56_2⟩ := sqY3 BK459; obtain ⟨Ao57, co57, eo57, _⟩ := Kd.Q_slice HO_470002.out; subst eo57))
      refine bodyPost_ret (results_cell_row rfl _ _ gb459 34 #[.int .i64 2, .int .i64 2, .slice Ao57 x470002_1.length co57] (0, 0) _ rfl (by refine sqPut (cs := #[.int .i64 2, .int .i64 2, .slice none 0 0]) ?_ 2; refine sqPut (cs := #[.int .i64 2, .int .i64 0, .slice none 0 0]) ?_ 1; refine sqPut (cs := #[.int .i64 0, .int .i64 0, .slice none 0 0]) ?_ 0; refine sqFar ?_ NB459_469; refine sqFar ?_ NB459_469; exact sqK BK459) Tryz.underlying34 rfl (by kernel_rfl)) rfl ?_
      exact ⟨_, Z3, by (with_reducible repeat (first | apply Kd.Q_alloc | apply Kd.Q_drewN | apply Kd.Q_drew)); exact Kd.Q_mono (Kd.Q_far (p := ⟨gb459, 2, none⟩) (Kd.Q_far (p := ⟨gb459, 1, none⟩) (Kd.Q_far (p := ⟨gb459, 0, none⟩) (Kd.Q_far (p := ⟨gb469, 1, none⟩) (Kd.Q_far (p := ⟨gb469, 0, none⟩) (Kd.Q_types (Kd.Q_types HO_470002.out BK469.out (by decide)) BK459.out (by decide)) (fun _ hk => hk.1.2) (.int .i64 2)) (fun _ hk => hk.1.2) (.int .i64 2)) (fun _ hk => hk.2) (.int .i64 2)) (fun _ hk => hk.2) (.int .i64 2)) (fun _ hk => hk.2) (.slice Ao57 x470002_1.length co57)) (fun _ hk => trivial), Z42 HI0 NB0_459 NB0_469, Z44 HI0 GE459 GE469, Z43 GW459 GW469⟩
     ·rw [if_neg c49] at H
      have c49b0 : (t484 == 0) = false := beq_eq_false_iff_ne.mpr c49
      have c49b1 : (t484 != 0) = true := bne_iff_ne.mpr c49
      by_cases c58 : t484 = 1
      ·rw [if_pos c58] at H
       have c58b0 : (t484 == 1) = true := beq_iff_eq.mpr c58
       have c58b1 : (t484 != 1) = false := bne_eq_false_iff_eq.mpr c58
       clear c58
       obtain ⟨c59, H⟩ := sqI H
       have LMc59 := Aside0.mk c59
       clear c59
       obtain ⟨y486, hy486⟩ : ∃ y_ : List (S31), y_ = (x470002_1 ++ [(⟨0, 0⟩ : S31)]) := ⟨_, rfl⟩
       replace H : (some (x470000_1, x470001_1, y486, t485)) = some (r1, r2, r3, r4) := sqW hy486 H
       have Ny486 := Aside0.mk hy486
       clear hy486
       obtain ⟨rfl, rfl, rfl, rfl⟩ := sqO4 H
       go_wp2_with (first | ((with_reducible refine gate_callee (f := 74) rfl ?_); refine goesL_ (some 33) rfl rfl Tryz.func74 (by kernel_rfl) rfl #[.pointer (some ⟨g, 0, none⟩), .int .i64 a1] rfl sqA ?_; (with_reducible refine (spec_l20Rd_odd.calls k1 g s0_0 x1001_1 a1 true t483 w0 _ ?side1 ?side2 A46.out).mono ?_); (case side1 => exact Z42 HI0 NB0_459 NB0_469); (case side2 => exact Z44 HI0 GE459 GE469); rintro e w60 ⟨rfl, hi, hb, hk⟩; refine ⟨_, rfl, ?_⟩; replace HO_470002 := Aside0.mk (Kd.Q_mono (Kd.Q_keep (IsS131.apartQ (show IsS131 w0 _ g s0_0 x1001_1 from by repeat (first | (with_reducible first | exact HI0.out | apply IsS131.alloc | apply IsS131.drewN | apply IsS131.drew | apply IsS131.set_1 | refine IsS131.far ?_ NB0_459.out _ | refine IsS131.far ?_ NB0_469.out _) | exact HI0.out)) (Z29 HO_470002) (by decide)) hk (fun _ h => h.2)) (fun _ h => h.1)); replace BK459 := Aside0.mk (KeepBut.blk hk (g' := gb459) (o := .cells #[.int .i64 0, .int .i64 0, .slice none 0 0] 34 (0, 0)) (sqK BK459) NB459_0.out (by simp)); replace BK469 := Aside0.mk (KeepBut.blk hk (g' := gb469) (o := .cells #[.int .i64 x470000_1, .int .i64 x470001_1, u470002] 34 (0, 0)) (sqK BK469) NB469_0.out (by simp)); replace HK := Aside0.mk (KeepBut.trans (Z43 GW459 GW469) hk (.inl rfl)); replace HB := Aside0.mk (hb); replace HI0 := Aside0.mk (hi); (try clear hb)) | ((with_reducible refine gate_callee (f := 82) rfl ?_); refine goesL_ (some 35) rfl rfl Tryz.func82 (by kernel_rfl) rfl #[.pointer (some ⟨g, 0, none⟩), .int .i64 3] rfl sqA ?_; (with_reducible refine (spec_l20Rd_pick.calls k1 g s0_0 t483 3 t484 t485 w0 _ ?side1 ?side2 A48.out).mono ?_); (case side1 => exact Z42 HI0 NB0_459 NB0_469); (case side2 => exact Z44 HI0 GE459 GE469); rintro e w61 ⟨rfl, hi, hb, hk⟩; refine ⟨_, rfl, ?_⟩; replace HO_470002 := Aside0.mk (Kd.Q_mono (Kd.Q_keep (IsS131.apartQ (show IsS131 w0 _ g s0_0 t483 from by repeat (first | (with_reducible first | exact HI0.out | apply IsS131.alloc | apply IsS131.drewN | apply IsS131.drew | apply IsS131.set_1 | refine IsS131.far ?_ NB0_459.out _ | refine IsS131.far ?_ NB0_469.out _) | exact HI0.out)) (Z29 HO_470002) (by decide)) hk (fun _ h => h.2)) (fun _ h => h.1)); replace BK459 := Aside0.mk (KeepBut.blk hk (g' := gb459) (o := .cells #[.int .i64 0, .int .i64 0, .slice none 0 0] 34 (0, 0)) (sqK BK459) NB459_0.out (by simp)); replace BK469 := Aside0.mk (KeepBut.blk hk (g' := gb469) (o := .cells #[.int .i64 x470000_1, .int .i64 x470001_1, u470002] 34 (0, 0)) (sqK BK469) NB469_0.out (by simp)); replace HK := Aside0.mk (KeepBut.trans (Z43 GW459 GW469) hk (.inl rfl)); replace HB := Aside0.mk (hb); replace HI0 := Aside0.mk (hi); (try clear hb); have hnb62 := NB469_459.out; have hnc62 := NB459_469.out; have hnb63 := NB469_0.out; have hnc63 := NB0_469.out; obtain ⟨hcz64_0, hcz64_1, hcz64_2, hfz64_0, hfz64_1, hfz64_2⟩ := sqY3 BK469) | ((with_reducible refine gate_builtin (b := .append) (xs := #[.tmp 44, .tmp 46]) rfl ?_); at_builtin; refine Kd.Q_append k31 w.heap.size rfl (.tmp 44) (.tmp 46) 32 31 (.agg #[(.int .i64 0), (.int .i64 0)]) 16 rfl Tryz.underlying32 info31 rfl (by decide) (by omega) u470002 x470002_1 (⟨0, 0⟩ : S31) [.int .i64 0, .int .i64 0] (fun _ => True) (fun _ => False) rfl rfl ?aP (fun _ hk => hk.elim) ?aF ?aO (Below.refl _ _) ?aS ?aL ?_; (case aP => exact k31_mkM _ _ _ (⟨0, 0⟩ : S31)); (case aF => exact (fun _ _ => trivial)); (case aO => exact (Z29 HO_470002)); (case aS => exact (keep_size (w := w) (g := g) (row := none) (Z43 GW459 GW469))); (case aL => exact Z4 LMc59); intro v487 w65 ho hb hg hat; rw [← Ny486.out] at ho; replace BK459 := Aside0.mk (blk_grown (sqK BK459) hg (Kd.Q_ne HO_470002.out BK459.out (by decide))); replace BK469 := Aside0.mk (blk_grown (sqK BK469) hg (Kd.Q_ne HO_470002.out BK469.out (by decide))); replace HB := Aside0.mk (below_weaken (Z44 HI0 GE459 GE469) HL.out hb); replace HI0 := Aside0.mk (IsS131.grown (Z42 HI0 NB0_459 NB0_469) hg (IsS131.own_neQ HI0.out HO_470002.out (by decide))); replace HK := Aside0.mk (KeepBut.trans (Z43 GW459 GW469) (KeepBut.of_grown hg g) (Kd.Q_base2 HO_470002.out)); have HO488 := Aside0.mk (ho); clear HO_470002; clear ho hb hg hat; obtain ⟨Ao66, co66, eo66, _⟩ := Kd.Q_slice HO488.out; subst eo66; obtain ⟨hcz67_0, hcz67_1, hcz67_2, hfz67_0, hfz67_1, hfz67_2⟩ := sqY3 BK469; have hnb68 := NB459_0.out; have hnc68 := NB0_459.out; obtain ⟨hcz69_0, hcz69_1, hcz69_2, hfz69_0, hfz69_1, hfz69_2⟩ := sqY3 BK459))
       refine bodyPost_ret (results_cell_row rfl _ _ gb459 34 #[.int .i64 x470000_1, .int .i64 x470001_1, .slice Ao66 y486.length co66] (0, 0) _ rfl (by refine sqPut (cs := #[.int .i64 x470000_1, .int .i64 x470001_1, .slice none 0 0]) ?_ 2; refine sqPut (cs := #[.int .i64 x470000_1, .int .i64 0, .slice none 0 0]) ?_ 1; refine sqPut (cs := #[.int .i64 0, .int .i64 0, .slice none 0 0]) ?_ 0; refine sqFar ?_ NB459_469; exact sqK BK459) Tryz.underlying34 rfl (by kernel_rfl)) rfl ?_
       exact ⟨_, Z3, by (with_reducible repeat (first | apply Kd.Q_alloc | apply Kd.Q_drewN | apply Kd.Q_drew)); exact Kd.Q_mono (Kd.Q_far (p := ⟨gb459, 2, none⟩) (Kd.Q_far (p := ⟨gb459, 1, none⟩) (Kd.Q_far (p := ⟨gb459, 0, none⟩) (Kd.Q_far (p := ⟨gb469, 2, none⟩) (Kd.Q_types (Kd.Q_types HO488.out BK469.out (by decide)) BK459.out (by decide)) (fun _ hk => hk.1.2) (.slice Ao66 y486.length co66)) (fun _ hk => hk.2) (.int .i64 x470000_1)) (fun _ hk => hk.2) (.int .i64 x470001_1)) (fun _ hk => hk.2) (.slice Ao66 y486.length co66)) (fun _ hk => trivial), Z42 HI0 NB0_459 NB0_469, Z44 HI0 GE459 GE469, Z43 GW459 GW469⟩
      ·rw [if_neg c58] at H
       have c58b0 : (t484 == 1) = false := beq_eq_false_iff_ne.mpr c58
       have c58b1 : (t484 != 1) = true := bne_iff_ne.mpr c58
       obtain ⟨rfl, rfl, rfl, rfl⟩ := sqO4 H
       go_wp2_with (first | ((with_reducible refine gate_callee (f := 74) rfl ?_); refine goesL_ (some 33) rfl rfl Tryz.func74 (by kernel_rfl) rfl #[.pointer (some ⟨g, 0, none⟩), .int .i64 a1] rfl sqA ?_; (with_reducible refine (spec_l20Rd_odd.calls k1 g s0_0 x1001_1 a1 true t483 w0 _ ?side1 ?side2 A46.out).mono ?_); (case side1 => exact Z42 HI0 NB0_459 NB0_469); (case side2 => exact Z44 HI0 GE459 GE469); rintro e w70 ⟨rfl, hi, hb, hk⟩; refine ⟨_, rfl, ?_⟩; replace HO_470002 := Aside0.mk (Kd.Q_mono (Kd.Q_keep (IsS131.apartQ (show IsS131 w0 _ g s0_0 x1001_1 from by repeat (first | (with_reducible first | exact HI0.out | apply IsS131.alloc | apply IsS131.drewN | apply IsS131.drew | apply IsS131.set_1 | refine IsS131.far ?_ NB0_459.out _ | refine IsS131.far ?_ NB0_469.out _) | exact HI0.out)) (Z29 HO_470002) (by decide)) hk (fun _ h => h.2)) (fun _ h => h.1)); replace BK459 := Aside0.mk (KeepBut.blk hk (g' := gb459) (o := .cells #[.int .i64 0, .int .i64 0, .slice none 0 0] 34 (0, 0)) (sqK BK459) NB459_0.out (by simp)); replace BK469 := Aside0.mk (KeepBut.blk hk (g' := gb469) (o := .cells #[.int .i64 x470000_1, .int .i64 x470001_1, u470002] 34 (0, 0)) (sqK BK469) NB469_0.out (by simp)); replace HK := Aside0.mk (KeepBut.trans (Z43 GW459 GW469) hk (.inl rfl)); replace HB := Aside0.mk (hb); replace HI0 := Aside0.mk (hi); (try clear hb)) | ((with_reducible refine gate_callee (f := 82) rfl ?_); refine goesL_ (some 35) rfl rfl Tryz.func82 (by kernel_rfl) rfl #[.pointer (some ⟨g, 0, none⟩), .int .i64 3] rfl sqA ?_; (with_reducible refine (spec_l20Rd_pick.calls k1 g s0_0 t483 3 t484 t485 w0 _ ?side1 ?side2 A48.out).mono ?_); (case side1 => exact Z42 HI0 NB0_459 NB0_469); (case side2 => exact Z44 HI0 GE459 GE469); rintro e w71 ⟨rfl, hi, hb, hk⟩; refine ⟨_, rfl, ?_⟩; replace HO_470002 := Aside0.mk (Kd.Q_mono (Kd.Q_keep (IsS131.apartQ (show IsS131 w0 _ g s0_0 t483 from by repeat (first | (with_reducible first | exact HI0.out | apply IsS131.alloc | apply IsS131.drewN | apply IsS131.drew | apply IsS131.set_1 | refine IsS131.far ?_ NB0_459.out _ | refine IsS131.far ?_ NB0_469.out _) | exact HI0.out)) (Z29 HO_470002) (by decide)) hk (fun _ h => h.2)) (fun _ h => h.1)); replace BK459 := Aside0.mk (KeepBut.blk hk (g' := gb459) (o := .cells #[.int .i64 0, .int .i64 0, .slice none 0 0] 34 (0, 0)) (sqK BK459) NB459_0.out (by simp)); replace BK469 := Aside0.mk (KeepBut.blk hk (g' := gb469) (o := .cells #[.int .i64 x470000_1, .int .i64 x470001_1, u470002] 34 (0, 0)) (sqK BK469) NB469_0.out (by simp)); replace HK := Aside0.mk (KeepBut.trans (Z43 GW459 GW469) hk (.inl rfl)); replace HB := Aside0.mk (hb); replace HI0 := Aside0.mk (hi); (try clear hb); have hnb72 := NB459_469.out; have hnc72 := NB469_459.out; have hnb73 := NB459_0.out; have hnc73 := NB0_459.out; obtain ⟨hcz74_0, hcz74_1, hcz74_2, hfz74_0, hfz74_1, hfz74_2⟩ := sqY3 BK459))
       refine bodyPost_ret (results_cell_row rfl _ _ gb459 34 #[.int .i64 0, .int .i64 0, .slice none 0 0] (0, 0) _ rfl (Z32 BK459) Tryz.underlying34 rfl (by kernel_rfl)) rfl ?_
       exact ⟨_, Z3, Kd.Q_of_R Z33, Z42 HI0 NB0_459 NB0_469, Z44 HI0 GE459 GE469, Z43 GW459 GW469⟩
    ·replace c47 := Bool.eq_false_iff.mpr c47
     subst c47
     rw [if_neg sqF] at H
     obtain ⟨rfl, rfl, rfl, rfl⟩ := sqO4 H
     go_wp2_with (first | ((with_reducible refine gate_callee (f := 74) rfl ?_); refine goesL_ (some 33) rfl rfl Tryz.func74 (by kernel_rfl) rfl #[.pointer (some ⟨g, 0, none⟩), .int .i64 a1] rfl sqA ?_; (with_reducible refine (spec_l20Rd_odd.calls k1 g s0_0 x1001_1 a1 false t483 w0 _ ?side1 ?side2 A46.out).mono ?_); (case side1 => exact Z42 HI0 NB0_459 NB0_469); (case side2 => exact Z44 HI0 GE459 GE469); rintro e w75 ⟨rfl, hi, hb, hk⟩; refine ⟨_, rfl, ?_⟩; replace HO_470002 := Aside0.mk (Kd.Q_mono (Kd.Q_keep (IsS131.apartQ (show IsS131 w0 _ g s0_0 x1001_1 from by repeat (first | (with_reducible first | exact HI0.out | apply IsS131.alloc | apply IsS131.drewN | apply IsS131.drew | apply IsS131.set_1 | refine IsS131.far ?_ NB0_459.out _ | refine IsS131.far ?_ NB0_469.out _) | exact HI0.out)) (Z29 HO_470002) (by decide)) hk (fun _ h => h.2)) (fun _ h => h.1)); replace BK459 := Aside0.mk (KeepBut.blk hk (g' := gb459) (o := .cells #[.int .i64 0, .int .i64 0, .slice none 0 0] 34 (0, 0)) (sqK BK459) NB459_0.out (by simp)); replace BK469 := Aside0.mk (KeepBut.blk hk (g' := gb469) (o := .cells #[.int .i64 x470000_1, .int .i64 x470001_1, u470002] 34 (0, 0)) (sqK BK469) NB469_0.out (by simp)); replace HK := Aside0.mk (KeepBut.trans (Z43 GW459 GW469) hk (.inl rfl)); replace HB := Aside0.mk (hb); replace HI0 := Aside0.mk (hi); (try clear hb); have hnb76 := NB469_459.out; have hnc76 := NB459_469.out; have hnb77 := NB469_0.out; have hnc77 := NB0_469.out; obtain ⟨hcz78_0, hcz78_1, hcz78_2, hfz78_0, hfz78_1, hfz78_2⟩ := sqY3 BK469; have hnb79 := NB459_0.out; have hnc79 := NB0_459.out; obtain ⟨hcz80_0, hcz80_1, hcz80_2, hfz80_0, hfz80_1, hfz80_2⟩ := sqY3 BK459; obtain ⟨Ao81, co81, eo81, _⟩ := Kd.Q_slice HO_470002.out; subst eo81))
     refine bodyPost_ret (results_cell_row rfl _ _ gb459 34 #[.int .i64 x470000_1, .int .i64 x470001_1, .slice Ao81 x470002_1.length co81] (0, 0) _ rfl (by refine sqPut (cs := #[.int .i64 x470000_1, .int .i64 x470001_1, .slice none 0 0]) ?_ 2; refine sqPut (cs := #[.int .i64 x470000_1, .int .i64 0, .slice none 0 0]) ?_ 1; refine sqPut (cs := #[.int .i64 0, .int .i64 0, .slice none 0 0]) ?_ 0; exact sqK BK459) Tryz.underlying34 rfl (by kernel_rfl)) rfl ?_
     exact ⟨_, Z3, by (with_reducible repeat (first | apply Kd.Q_alloc | apply Kd.Q_drewN | apply Kd.Q_drew)); exact Kd.Q_mono (Kd.Q_far (p := ⟨gb459, 2, none⟩) (Kd.Q_far (p := ⟨gb459, 1, none⟩) (Kd.Q_far (p := ⟨gb459, 0, none⟩) (Kd.Q_types HO_470002.out BK459.out (by decide)) (fun _ hk => hk.2) (.int .i64 x470000_1)) (fun _ hk => hk.2) (.int .i64 x470001_1)) (fun _ hk => hk.2) (.slice Ao81 x470002_1.length co81)) (fun _ hk => trivial), Z42 HI0 NB0_459 NB0_469, Z44 HI0 GE459 GE469, Z43 GW459 GW469⟩

end Go.Proofs.YtofmlbgfcohhoaaGreatDoor.PFnDeskDo
