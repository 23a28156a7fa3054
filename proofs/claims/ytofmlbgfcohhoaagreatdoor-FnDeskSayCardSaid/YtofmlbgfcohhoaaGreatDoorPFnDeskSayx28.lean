import Derived.Test.YtofmlbgfcohhoaaGreatDoorPFnDeskSayx18
import Derived.Test.YtofmlbgfcohhoaaGreatDoorPFnDeskSayx26
import Derived.Test.YtofmlbgfcohhoaaGreatDoorPFnDeskSayx27
set_option maxHeartbeats 8000000
set_option maxRecDepth 100000
namespace Go.Proofs.YtofmlbgfcohhoaaGreatDoor.PFnDeskSay
open Go.RowKit Go.Proofs.YtofmlbgfcohhoaaGreatDoorW.PrintWords Go.Proofs.YtofmlbgfcohhoaaGreatDoorW.PrintLast Go.Proofs.YtofmlbgfcohhoaaGreatDoorW.PrintMore Go.Proofs.YtofmlbgfcohhoaaGreatDoor.Lib Go.Proofs.Tryz
attribute [local go_sem] max2_int min2_int max_two min_two max_three min_three max_four min_four   -- for this text's walks alone
set_option linter.unusedVariables false
set_option linter.unusedSimpArgs false

def F24.l0 : Nat → Int → Int → List Int → Int → Int → Int → List (S31) → Option (Int × Int × (List (S31)) × Int)
 | 0, _, _, _, _, _, _, _ => none
 | k + 1, x1, x7, x0, x2, x3, x4, x5 => if x7 > 0 then ((F17.f k x0 x2).bind fun bt0 => ((F16.f k x3 x4 x5 bt0.1 bt0.2.1).bind fun bt1 => (if bt1.2.2.2 = true then (F24.l0 k x1 (wrap64 (x7 - 1)) x0 bt0.2.2 bt1.1 bt1.2.1 bt1.2.2.1) else (F24.l0 k x1 (wrap64 (x7 - 1)) x0 bt0.2.2 x3 x4 x5)))) else ((F28.f k x0 x2 x1).bind fun bt2 => (if bt2.1 = true then ((F1.f k x0 bt2.2 3).bind fun bt3 => (if bt3.1 = 0 then (some (2, 2, x5, bt3.2)) else (if bt3.1 = 1 then (if x5.length < 8796093022208 then (some (x3, x4, (x5 ++ [(⟨0, 0⟩ : S31)]), bt3.2)) else (none)) else (some (0, 0, ([] : List (S31)), bt3.2))))) else (some (x3, x4, x5, bt2.2))))
def F24.f (k : Nat) (s0_0 : List Int) (s0_1 : Int) (a1 : Int) : Option (Int × Int × (List (S31)) × Int) := (F48.f k s0_0 s0_1 0).bind fun bt0 => ((F95.f k bt0.1 bt0.2.1).bind fun bt1 => ((F1.f k s0_0 bt0.2.2 6).bind fun bt2 => (F24.l0 k a1 bt2.1 s0_0 bt2.2 bt1.1 bt1.2.1 bt1.2.2.1)))
def F24.T5 : Bool × List (List Nat × List Nat) := (true, [([], []), ([], []), ([1], [1]), ([0, 2, 2], [0, 2]), ([3], [3]), ([4], [4]), ([4], [4]), ([], []), ([7, 5, 3, 0, 1, 2, 3, 4, 5, 7], [5, 7]), ([6, 8, 0, 1, 2, 3, 4, 5, 6, 7, 8], [6])])
def F24.B5 : List Nat := [0, 0, 2, 7, 15, 31, 31, 0, 191, 511]
theorem F24.tab5 : rtab .any (opsOf f67 5) = F24.T5 := by kernel_rfl
theorem F24.bits5 : waitsOk F24.T5.2 F24.B5 = true := by kernel_rfl
theorem F24.c (k : Nat) (g : Nat) (s0_0 : List Int) (s0_1 : Int) (a1 : Int) (r1 : Int) (r2 : Int) (r3 : List (S31)) (r4 : Int) (w0 w : World) (hI : IsS131 w0 w g s0_0 s0_1) (hB : Below w0.heap.size w0 w) (H : F24.f k s0_0 s0_1 a1 = some (r1, r2, r3, r4)) :
  Calls prog 67 #[.pointer (some ⟨g, 0, none⟩), .int .i64 a1] w fun e w' => ∃ v2_ : Value, e = .returned (.agg #[.int .i64 r1, .int .i64 r2, v2_]) ∧ Kd.Q k31 31 w' w.heap.size (fun _ => True) v2_ r3 ∧ IsS131 w0 w' g s0_0 r4 ∧ Below w0.heap.size w0 w' ∧ KeepBut w w' g none := by
 have hu34 := underlying34
 have hu31 := underlying31
 have HI0 := sqa hI
 have HK := sqa (KeepBut.refl w g none)
 have HL := sqa hB.size
 clear hI
 have HW0 := sqa hB.size
 have HB := sqa hB
 clear hB
 unfold F24.f at H
 obtain ⟨⟨t0, t1, t2⟩, A3, H⟩ := sqD H
 try dsimp only at H
 obtain ⟨⟨t3, t4, t5, t6⟩, A4, H⟩ := sqD H
 try dsimp only at H
 obtain ⟨⟨t7, t8⟩, A5, H⟩ := sqD H
 try dsimp only at H
 have H' := sqa H
 clear H
 go_enter func67, ntmps67
 go_wp2_with (first | ((with_reducible refine sqd 4 rfl ?_); refine sqBox (N := 4) (cs := #[.int .i64 0, .int .i64 0, .slice none 0 0]) (t := 34) ?_; intro g0 hg w6 B0 hb; replace HB := sqa (below_step (Z80 HI0) hb); have GW0 := sqa ((Z172 : w.heap.size ≤ g0)); have E0 := sqa ((Nat.le_trans HW0.out (Z172 : w.heap.size ≤ g0) : w0.heap.size ≤ g0)); replace HK := sqa (KeepBut.trans Z79 (KeepBut.of_below hb g none) (.inl rfl)); have N0 := sqa ((Z81 HI0 : g ≠ g0)); have N1 := sqa ((Z82 HI0 : g0 ≠ g)); replace HI0 := sqa (IsS131.below (Z78 HI0) hb); clear hb hg) | ((with_reducible refine sqc 113 rfl ?_); refine sqvs (some 12) func113 (args := #[.pointer (some ⟨g, 0, none⟩), .int .i64 0]) (F48.c k g s0_0 s0_1 0 t0 t1 t2 w0 _ (Z85 HI0 N0) (Z84 HI0 E0) A3.1) fun w7 hi hb hk => ?_; replace B0 := sqkb hk B0 N1; replace HK := sqa (KeepBut.trans (Z83 GW0) hk (.inl rfl)); replace HB := sqa (hb); replace HI0 := sqa (hi)) | ((with_reducible refine sqc 112 rfl ?_); refine sqvo (some 13) func112 (F95.c k t0 t1 t3 t4 t5 t6 _ A4.1) fun v0 w8 ho0 hb => ?_; have O0 := sqa (Kd.R_lower ho0 (keep_size (w := w) (g := g) (row := none) (Z83 GW0))); replace B0 := sqT B0 hb; replace HK := sqa (KeepBut.trans (Z83 GW0) (KeepBut.of_below hb g none) (.inl rfl)); replace HB := sqa (below_step (Z84 HI0 E0) hb); replace HI0 := sqa (IsS131.below (Z85 HI0 N0) hb); (try clear ho0)) | ((with_reducible refine sqd 5 rfl ?_); refine sqBox (N := 5) (cs := #[.int .i64 0, .int .i64 0, .slice none 0 0]) (t := 34) ?_; intro g1 hg w9 B2 hb; replace O0 := sqU O0 hb; replace HB := sqa (below_step (Z84 HI0 E0) hb); have GW1 := sqa ((Z173 GW0 : w.heap.size ≤ g1)); have E1 := sqa ((Nat.le_trans HW0.out (Z173 GW0 : w.heap.size ≤ g1) : w0.heap.size ≤ g1)); replace HK := sqa (KeepBut.trans (Z83 GW0) (KeepBut.of_below hb g none) (.inl rfl)); obtain ⟨N2, N3⟩ := sqM hg B0; replace B0 := sqT B0 hb; have N4 := sqa ((by rw [hg]; exact Nat.ne_of_lt (IsS131.lt (show IsS131 w0 _ g s0_0 t2 from by repeat (first | (with_reducible first | exact HI0.1 | apply IsS131.alloc | apply IsS131.drewN | apply IsS131.drew | apply IsS131.set_1 | refine IsS131.far ?_ N0.1 _) | exact HI0.1))) : g ≠ g1)); have N5 := sqa ((by rw [hg]; exact Nat.ne_of_gt (IsS131.lt (show IsS131 w0 _ g s0_0 t2 from by repeat (first | (with_reducible first | exact HI0.1 | apply IsS131.alloc | apply IsS131.drewN | apply IsS131.drew | apply IsS131.set_1 | refine IsS131.far ?_ N0.1 _) | exact HI0.1))) : g1 ≠ g)); replace HI0 := sqa (IsS131.below (Z85 HI0 N0) hb); clear hb hg; have := sqn4 N3 N2 N5 N4; have := sqY3 B2; obtain ⟨Ao0, co0, eo0⟩ := Kd.R_slice O0.1; subst eo0) | ((with_reducible refine sqc 82 rfl ?_); refine sqvs (some 17) func82 (args := #[.pointer (some ⟨g, 0, none⟩), .int .i64 6]) (F1.c k g s0_0 t2 6 t7 t8 w0 _ (Z86 HI0 N0 N4) (Z88 HI0 E0 E1) A5.1) fun w2 hi hb hk => ?_; replace B0 := sqa (KeepBut.blk hk (g' := g0) (o := .cells #[.int .i64 0, .int .i64 0, .slice none 0 0] 34 (0, 0)) (Z38 N2 B0) N1.1 (by simp)); replace O0 := sqa (Kd.R_mono (Kd.R_keep (IsS131.apart (show IsS131 w0 _ g s0_0 t2 from by repeat (first | (with_reducible first | exact HI0.1 | apply IsS131.alloc | apply IsS131.drewN | apply IsS131.drew | apply IsS131.set_1 | refine IsS131.far ?_ N0.1 _ | refine IsS131.far ?_ N4.1 _) | exact HI0.1)) (by (with_reducible repeat (first | apply Kd.R_alloc | apply Kd.R_drewN | apply Kd.R_drew)); exact (Kd.R_mono (sqr3 O0.1 B2.1) (fun _ h_ => h_.1))) (by decide)) hk (fun _ h => h.2)) (fun _ h => h.1)); replace B2 := sqa (KeepBut.blk hk (g' := g1) (o := .cells #[.int .i64 t3, .int .i64 t4, .slice Ao0 t5.length co0] 34 (0, 0)) (by refine sqPut (cs := #[.int .i64 t3, .int .i64 t4, .slice none 0 0]) ?_ 2; refine sqPut (cs := #[.int .i64 t3, .int .i64 0, .slice none 0 0]) ?_ 1; refine sqPut (cs := #[.int .i64 0, .int .i64 0, .slice none 0 0]) ?_ 0; exact sqK B2) N5.1 (by simp)); replace HK := sqa (KeepBut.trans (Z87 GW0 GW1) hk (.inl rfl)); replace HB := sqa (hb); replace HI0 := sqa (hi)))
 go_loopg [7] k (fun kq v7 w' => ∃ (x7_1 : Int) (x1001_1 : Int) (x0 : Int) (x1 : Int) (x2 : List (S31)) (u817002 : Value), v7 = .int .i64 x7_1 ∧ Aside0 (F24.l0 kq a1 x7_1 s0_0 x1001_1 x0 x1 x2 = some (r1, r2, r3, r4)) ∧ Aside0 (kq ≤ k) ∧ Aside0 (Kd.Q k31 31 w' w.heap.size (fun _ => True) u817002 x2) ∧ Aside0 (w'.heap[g0]? = some (.cells #[.int .i64 0, .int .i64 0, (.slice none 0 0)] 34 (0, 0))) ∧ Aside0 (w'.heap[g1]? = some (.cells #[.int .i64 x0, .int .i64 x1, u817002] 34 (0, 0))) ∧ Aside0 (IsS131 w0 w' g s0_0 x1001_1) ∧ Aside0 (KeepBut w w' g none) ∧ Aside0 (Below w0.heap.size w0 w'))
 case atStart => exact ⟨(t7), (t8), (t3), (t4), (t5), (.slice Ao0 t5.length co0), Z1, H', ⟨Nat.le_refl _⟩, ⟨Kd.Q_of_R (sqR O0)⟩, ⟨sqK B0⟩, ⟨sqK B2⟩, ⟨Z86 HI0 N0 N4⟩, ⟨Z87 GW0 GW1⟩, ⟨Z88 HI0 E0 E1⟩⟩
 case round =>
  clear H'
  obtain ⟨x7_1, x1001_1, x0, x1, x2, u817002, rfl, HA, HK1, O1, B0, B2, HI0, HK, HB⟩ := hrel
  cases gk with
  | zero => exact absurd HA.out (by simp [F24.l0])
  | succ k1 =>
   have H := HA.out
   clear HA
   simp only [F24.l0] at H
   obtain ⟨c1, H⟩ | ⟨c1, H⟩ := sqi3g H
   ·obtain ⟨⟨t9, t10, t821⟩, A0, H⟩ := sqD H
    try dsimp only at H
    obtain ⟨⟨t11, t12, t13, t14⟩, A1, H⟩ := sqD H
    try dsimp only at H
    obtain rfl | rfl := sqt t14
    ·rw [if_pos rfl] at H
     have H' := sqa H
     clear H
     obtain ⟨Ao1, co1, eo1, _⟩ := Kd.Q_slice O1.1
     subst eo1
     try go_wp2
     replace O1 := sqa (Kd.Q_drew O1.1)
     replace B0 := sqa (blk_drew B0.1)
     replace B2 := sqa (blk_drew B2.1)
     replace HI0 := sqa (IsS131.drew HI0.1)
     replace HK := sqa (keep_drew HK.out)
     replace HB := sqa (below_drew1 HB.1)
     refine start_ (n := 10) (S := fun w' => w'.cell? ⟨g1, 0, none⟩ = some (.int .i64 x0) ∧ w'.cell? ⟨g1, 1, none⟩ = some (.int .i64 x1) ∧ w'.cell? ⟨g1, 2, none⟩ = some (.slice Ao1 x2.length co1)) (ds := []) #[false, false, false, false, false, false, false, false, false, false] (by kernel_rfl) rfl rfl (sqk1 B2) (fun hHeld => ?_); refine with_tabW F24.tab5 F24.bits5 (fun HT_ HW_ => ?_)
     generalize wr.drew = w3 at O1 B0 B2 HI0 HK HB hHeld ⊢
     refine sqP 1 (some 24) (h := ?_)
     refine sqQ 0 (some 23) hHeld (h := ?_)
     refine join_ (σ := Value × Nat) 2 #[true, true, true, true, true, true, true, true, false, false] (fun s_ => [(25, .agg #[.int .i64 t9, .string t10]), (26, .tuple #[.agg #[.int .i64 t11, .int .i64 t12, s_.1], .bool true]), (8, .pointer (some ⟨s_.2, 0, none⟩)), (22, .tuple #[.agg #[.int .i64 t11, .int .i64 t12, s_.1], .bool true]), (27, .agg #[.int .i64 t11, .int .i64 t12, s_.1]), (28, .bool true)]) (fun s_ w' => (w'.cell? ⟨g1, 0, none⟩ = some (.int .i64 x0) ∧ w'.cell? ⟨g1, 1, none⟩ = some (.int .i64 x1) ∧ w'.cell? ⟨g1, 2, none⟩ = some (.slice Ao1 x2.length co1)) ∧ (Kd.Q k31 31 w' w.heap.size (fun k_ => some k_ ≠ (.slice Ao1 x2.length co1 : Value).ownBlock) s_.1 t13) ∧ (Kd.Q k31 31 w' w.heap.size (fun k_ => some k_ ≠ (s_.1 : Value).ownBlock) (.slice Ao1 x2.length co1) x2) ∧ (w'.heap[g0]? = some (.cells #[.int .i64 0, .int .i64 0, .slice none 0 0] 34 (0, 0))) ∧ (w'.heap[g1]? = some (.cells #[.int .i64 x0, .int .i64 x1, .slice Ao1 x2.length co1] 34 (0, 0))) ∧ (w'.heap[s_.2]? = some (.cells #[.int .i64 0, .int .i64 0, .slice none 0 0] 34 (0, 0))) ∧ (w.heap.size ≤ s_.2) ∧ (w0.heap.size ≤ s_.2) ∧ (g ≠ s_.2) ∧ (s_.2 ≠ g) ∧ (g0 ≠ s_.2) ∧ (s_.2 ≠ g0) ∧ (g1 ≠ s_.2) ∧ (s_.2 ≠ g1) ∧ (IsS131 w0 w' g s0_0 t821) ∧ (KeepBut w w' g none) ∧ (Below w0.heap.size w0 w')) ?_ ?_
     rotate_left
     ·intro hCont
      refine two_ (i := 2) (j := 7) (Ni := some 25) (Nj := some 8) #[true, true, true, false, false, false, false, false, false, false] #[true, true, false, false, false, false, false, true, false, false] rfl rfl rfl rfl (two_of HT_.out (by kernel_rfl)) (by decide) (by decide) (fun K hK => ?_) (fun K hK => ?_)
      ·skip
       refine sqg func68 #[.pointer (some ⟨g, 0, none⟩)] ?_
       with_reducible refine (F17.c k1 g s0_0 x1001_1 t9 t10 t821 w0 _ ?side1 ?side2 A0.1).mono ?_
       (case side1 => exact Z86 HI0 N0 N4)
       (case side2 => exact Z88 HI0 E0 E1)
       rintro e w4 ⟨rfl, hi, hb, hk⟩
       refine ⟨_, rfl, ?_⟩
       replace O1 := sqa (Kd.Q_mono (Kd.Q_keep (IsS131.apartQ (show IsS131 w0 _ g s0_0 x1001_1 from by repeat (first | (with_reducible first | exact HI0.1 | apply IsS131.alloc | apply IsS131.drewN | apply IsS131.drew | apply IsS131.set_1 | refine IsS131.far ?_ N0.1 _ | refine IsS131.far ?_ N4.1 _) | exact HI0.1)) (Z40 O1) (by decide)) hk (fun _ h => h.2)) (fun _ h => h.1))
       replace B0 := sqkb hk B0 N1
       replace B2 := sqkb hk B2 N5
       replace HK := sqa (KeepBut.trans (Z87 GW0 GW1) hk (.inl rfl))
       replace HB := sqa (hb)
       replace HI0 := sqa (hi)
       refine hK.out _ _ (sqk1 B2) (fun hHeld => ?_)
       clear hK K
       refine sqN (some 25) ?_
       refine two_ (i := 3) (j := 7) (Ni := some 26) (Nj := some 8) #[true, true, true, true, false, false, false, false, false, false] #[true, true, true, false, false, false, false, true, false, false] rfl rfl rfl rfl (two_of HT_.out (by kernel_rfl)) (by decide) (by decide) (fun K hK => ?_) (fun K hK => ?_)
       ·skip
        refine sqg func14 #[.agg #[.int .i64 x0, .int .i64 x1, .slice Ao1 x2.length co1], .agg #[.int .i64 t9, .string t10]] ?_
        with_reducible refine (F16.c k1 x0 x1 _ _ x2 t9 t10 t11 t12 t13 true _ ?side1 ?side2 A1.1).mono ?_
        (case side1 => exact Z69 O1)
        (case side2 => exact Z70 O1)
        rintro e w5 ⟨v1, rfl, ho0, hb⟩
        refine ⟨_, rfl, ?_⟩
        have O2 := sqa (Kd.Q_lower (Kd.Q_new' ho0 (Kd.Q_lt (Z40 O1))) (keep_size (w := w) (g := g) (row := none) (Z87 GW0 GW1)))
        replace O1 := sqa (Kd.Q_elder' (Z40 O1) (Kd.Q_base ho0) hb)
        replace B0 := sqT B0 hb
        replace B2 := sqT B2 hb
        replace HK := sqa (KeepBut.trans (Z87 GW0 GW1) (KeepBut.of_below hb g none) (.inl rfl))
        replace HB := sqa (below_step (Z88 HI0 E0 E1) hb)
        replace HI0 := sqa (IsS131.below (Z86 HI0 N0 N4) hb)
        refine hK.out _ _ (sqk1 B2) (fun hHeld => ?_)
        clear hK K
        refine sqN (some 26) ?_
        refine sqP 4 (some 22) (h := ?_)
        refine sqP 5 (some 27) (h := ?_)
        refine sqP 6 (some 28) (h := ?_)
        refine sq1 7 (some 8) (h := fun K hK => ?_)
        refine box_step ?hg (N := 8) ?hd (cs := #[.int .i64 0, .int .i64 0, .slice none 0 0]) (t := 34) ?hr ?_; (case hd => rfl); (case hg => rfl); (case hr => exact Z17)
        intro g2 hg w23 hbox hb
        replace O1 := sqa (Kd.Q_below (Z40 O1) hb)
        replace O2 := sqa (Kd.Q_below (Z40 O2) hb)
        replace HB := sqa (below_step (Z88 HI0 E0 E1) hb)
        have B9 := sqa (hbox)
        have GW2 := sqa ((Z174 GW0 GW1 : w.heap.size ≤ g2))
        have E2 := sqa ((Nat.le_trans HW0.out (Z174 GW0 GW1 : w.heap.size ≤ g2) : w0.heap.size ≤ g2))
        replace HK := sqa (KeepBut.trans (Z87 GW0 GW1) (KeepBut.of_below hb g none) (.inl rfl))
        obtain ⟨N6, N7⟩ := sqM hg B0
        replace B0 := sqT B0 hb
        obtain ⟨N8, N9⟩ := sqM hg B2
        replace B2 := sqT B2 hb
        have N10 := sqa ((Z91 HI0 N0 N4 : g ≠ g2))
        have N11 := sqa ((Z92 HI0 N0 N4 : g2 ≠ g))
        replace HI0 := sqa (IsS131.below (Z86 HI0 N0 N4) hb)
        clear hb hbox hg
        refine hK.out _ _ (sqk1 B2) (fun hHeld => ?_)
        clear hK K
        refine sqN (some 8) ?_
        exact norm_ Z20 (hCont (v1, g2) _ ⟨hHeld, (Z71 O2), (Z71 O1), (sqK B0), (sqK B2), (sqK B9), GW2.1, E2.1, N10.1, N11.1, N6.1, N7.1, N8.1, N9.1, (Z93 HI0 N0 N4 N10), (Z94 GW0 GW1 GW2), (Z95 HI0 E0 E1 E2)⟩)
       ·skip
        refine box_step ?hg (N := 8) ?hd (cs := #[.int .i64 0, .int .i64 0, .slice none 0 0]) (t := 34) ?hr ?_; (case hd => rfl); (case hg => rfl); (case hr => exact Z17)
        intro g2 hg w5 hbox hb
        replace O1 := sqa (Kd.Q_below (Z40 O1) hb)
        replace HB := sqa (below_step (Z88 HI0 E0 E1) hb)
        have B9 := sqa (hbox)
        have GW2 := sqa ((Z174 GW0 GW1 : w.heap.size ≤ g2))
        have E2 := sqa ((Nat.le_trans HW0.out (Z174 GW0 GW1 : w.heap.size ≤ g2) : w0.heap.size ≤ g2))
        replace HK := sqa (KeepBut.trans (Z87 GW0 GW1) (KeepBut.of_below hb g none) (.inl rfl))
        obtain ⟨N6, N7⟩ := sqM hg B0
        replace B0 := sqT B0 hb
        obtain ⟨N8, N9⟩ := sqM hg B2
        replace B2 := sqT B2 hb
        have N10 := sqa ((Z91 HI0 N0 N4 : g ≠ g2))
        have N11 := sqa ((Z92 HI0 N0 N4 : g2 ≠ g))
        replace HI0 := sqa (IsS131.below (Z86 HI0 N0 N4) hb)
        clear hb hbox hg
        refine hK.out _ _ (sqk1 B2) (fun hHeld => ?_)
        clear hK K
        refine sqN (some 8) ?_
        refine sq1 3 (some 26) (h := fun K hK => ?_)
        refine sqg func14 #[.agg #[.int .i64 x0, .int .i64 x1, .slice Ao1 x2.length co1], .agg #[.int .i64 t9, .string t10]] ?_
        with_reducible refine (F16.c k1 x0 x1 _ _ x2 t9 t10 t11 t12 t13 true _ ?side1 ?side2 A1.1).mono ?_
        (case side1 => exact Z69 O1)
        (case side2 => exact Z70 O1)
        rintro e w23 ⟨v1, rfl, ho0, hb⟩
        refine ⟨_, rfl, ?_⟩
        have O2 := sqa (Kd.Q_lower (Kd.Q_new' ho0 (Kd.Q_lt (Z40 O1))) (keep_size (w := w) (g := g) (row := none) (Z94 GW0 GW1 GW2)))
        replace O1 := sqa (Kd.Q_elder' (Z40 O1) (Kd.Q_base ho0) hb)
        replace B0 := sqT B0 hb
        replace B2 := sqT B2 hb
        replace B9 := sqT B9 hb
        replace HK := sqa (KeepBut.trans (Z94 GW0 GW1 GW2) (KeepBut.of_below hb g none) (.inl rfl))
        replace HB := sqa (below_step (Z95 HI0 E0 E1 E2) hb)
        replace HI0 := sqa (IsS131.below (Z93 HI0 N0 N4 N10) hb)
        refine hK.out _ _ (sqk1 B2) (fun hHeld => ?_)
        clear hK K
        refine sqN (some 26) ?_
        refine sqP 4 (some 22) (h := ?_)
        refine sqP 5 (some 27) (h := ?_)
        refine sqP 6 (some 28) (h := ?_)
        exact norm_ Z20 (hCont (v1, g2) _ ⟨hHeld, (Z71 O2), (Z71 O1), (sqK B0), (sqK B2), (sqK B9), GW2.1, E2.1, N10.1, N11.1, N6.1, N7.1, N8.1, N9.1, (Z93 HI0 N0 N4 N10), (Z94 GW0 GW1 GW2), (Z95 HI0 E0 E1 E2)⟩)
      ·skip
       refine box_step ?hg (N := 8) ?hd (cs := #[.int .i64 0, .int .i64 0, .slice none 0 0]) (t := 34) ?hr ?_; (case hd => rfl); (case hg => rfl); (case hr => exact Z17)
       intro g2 hg w4 hbox hb
       replace O1 := sqa (Kd.Q_below (Z40 O1) hb)
       replace HB := sqa (below_step (Z88 HI0 E0 E1) hb)
       have B9 := sqa (hbox)
       have GW2 := sqa ((Z174 GW0 GW1 : w.heap.size ≤ g2))
       have E2 := sqa ((Nat.le_trans HW0.out (Z174 GW0 GW1 : w.heap.size ≤ g2) : w0.heap.size ≤ g2))
       replace HK := sqa (KeepBut.trans (Z87 GW0 GW1) (KeepBut.of_below hb g none) (.inl rfl))
       obtain ⟨N6, N7⟩ := sqM hg B0
       replace B0 := sqT B0 hb
       obtain ⟨N8, N9⟩ := sqM hg B2
       replace B2 := sqT B2 hb
       have N10 := sqa ((Z96 HI0 N0 N4 : g ≠ g2))
       have N11 := sqa ((Z97 HI0 N0 N4 : g2 ≠ g))
       replace HI0 := sqa (IsS131.below (Z86 HI0 N0 N4) hb)
       clear hb hbox hg
       refine hK.out _ _ (sqk1 B2) (fun hHeld => ?_)
       clear hK K
       refine sqN (some 8) ?_
       refine sq1 2 (some 25) (h := fun K hK => ?_)
       refine sqg func68 #[.pointer (some ⟨g, 0, none⟩)] ?_
       with_reducible refine (F17.c k1 g s0_0 x1001_1 t9 t10 t821 w0 _ ?side1 ?side2 A0.1).mono ?_
       (case side1 => exact Z93 HI0 N0 N4 N10)
       (case side2 => exact Z95 HI0 E0 E1 E2)
       rintro e w5 ⟨rfl, hi, hb, hk⟩
       refine ⟨_, rfl, ?_⟩
       replace O1 := sqa (Kd.Q_mono (Kd.Q_keep (IsS131.apartQ (show IsS131 w0 _ g s0_0 x1001_1 from by repeat (first | (with_reducible first | exact HI0.1 | apply IsS131.alloc | apply IsS131.drewN | apply IsS131.drew | apply IsS131.set_1 | refine IsS131.far ?_ N0.1 _ | refine IsS131.far ?_ N4.1 _ | refine IsS131.far ?_ N10.1 _) | exact HI0.1)) (Z40 O1) (by decide)) hk (fun _ h => h.2)) (fun _ h => h.1))
       replace B0 := sqkb hk B0 N1
       replace B2 := sqkb hk B2 N5
       replace B9 := sqkb hk B9 N11
       replace HK := sqa (KeepBut.trans (Z94 GW0 GW1 GW2) hk (.inl rfl))
       replace HB := sqa (hb)
       replace HI0 := sqa (hi)
       refine hK.out _ _ (sqk1 B2) (fun hHeld => ?_)
       clear hK K
       refine sqN (some 25) ?_
       refine sq1 3 (some 26) (h := fun K hK => ?_)
       refine sqg func14 #[.agg #[.int .i64 x0, .int .i64 x1, .slice Ao1 x2.length co1], .agg #[.int .i64 t9, .string t10]] ?_
       with_reducible refine (F16.c k1 x0 x1 _ _ x2 t9 t10 t11 t12 t13 true _ ?side1 ?side2 A1.1).mono ?_
       (case side1 => exact Z69 O1)
       (case side2 => exact Z70 O1)
       rintro e w23 ⟨v1, rfl, ho0, hb⟩
       refine ⟨_, rfl, ?_⟩
       have O2 := sqa (Kd.Q_lower (Kd.Q_new' ho0 (Kd.Q_lt (Z40 O1))) (keep_size (w := w) (g := g) (row := none) (Z94 GW0 GW1 GW2)))
       replace O1 := sqa (Kd.Q_elder' (Z40 O1) (Kd.Q_base ho0) hb)
       replace B0 := sqT B0 hb
       replace B2 := sqT B2 hb
       replace B9 := sqT B9 hb
       replace HK := sqa (KeepBut.trans (Z94 GW0 GW1 GW2) (KeepBut.of_below hb g none) (.inl rfl))
       replace HB := sqa (below_step (Z95 HI0 E0 E1 E2) hb)
       replace HI0 := sqa (IsS131.below (Z93 HI0 N0 N4 N10) hb)
       refine hK.out _ _ (sqk1 B2) (fun hHeld => ?_)
       clear hK K
       refine sqN (some 26) ?_
       refine sqP 4 (some 22) (h := ?_)
       refine sqP 5 (some 27) (h := ?_)
       refine sqP 6 (some 28) (h := ?_)
       exact norm_ Z20 (hCont (v1, g2) _ ⟨hHeld, (Z71 O2), (Z71 O1), (sqK B0), (sqK B2), (sqK B9), GW2.1, E2.1, N10.1, N11.1, N6.1, N7.1, N8.1, N9.1, (Z93 HI0 N0 N4 N10), (Z94 GW0 GW1 GW2), (Z95 HI0 E0 E1 E2)⟩)
     rintro ⟨v1, g2⟩ w24 ⟨hS_, h0_, h1_, h2_, h3_, h4_, h5_, h6_, h7_, h8_, h9_, h0, h1, h2, h3, h4, h5⟩
     replace O2 : Aside0 (Kd.Q k31 31 w24 w.heap.size (fun k_ => some k_ ≠ (.slice Ao1 x2.length co1 : Value).ownBlock) v1 t13) := ⟨h0_⟩
     replace O1 : Aside0 (Kd.Q k31 31 w24 w.heap.size (fun k_ => some k_ ≠ (v1 : Value).ownBlock) (.slice Ao1 x2.length co1) x2) := ⟨h1_⟩
     replace B0 : Aside0 (w24.heap[g0]? = some (.cells #[.int .i64 0, .int .i64 0, .slice none 0 0] 34 (0, 0))) := ⟨h2_⟩
     replace B2 : Aside0 (w24.heap[g1]? = some (.cells #[.int .i64 x0, .int .i64 x1, .slice Ao1 x2.length co1] 34 (0, 0))) := ⟨h3_⟩
     replace B9 : Aside0 (w24.heap[g2]? = some (.cells #[.int .i64 0, .int .i64 0, .slice none 0 0] 34 (0, 0))) := ⟨h4_⟩
     replace GW2 : Aside0 (w.heap.size ≤ g2) := ⟨h5_⟩
     replace E2 : Aside0 (w0.heap.size ≤ g2) := ⟨h6_⟩
     replace N10 : Aside0 (g ≠ g2) := ⟨h7_⟩
     replace N11 : Aside0 (g2 ≠ g) := ⟨h8_⟩
     replace N6 : Aside0 (g0 ≠ g2) := ⟨h9_⟩
     replace N7 : Aside0 (g2 ≠ g0) := ⟨h0⟩
     replace N8 : Aside0 (g1 ≠ g2) := ⟨h1⟩
     replace N9 : Aside0 (g2 ≠ g1) := ⟨h2⟩
     replace HI0 : Aside0 (IsS131 w0 w24 g s0_0 t821) := ⟨h3⟩
     replace HK : Aside0 (KeepBut w w24 g none) := ⟨h4⟩
     replace HB : Aside0 (Below w0.heap.size w0 w24) := ⟨h5⟩
     clear h0_ h1_ h2_ h3_ h4_ h5_ h6_ h7_ h8_ h9_ h0 h1 h2 h3 h4 h5
     have hHeld : w24.cell? ⟨g1, 0, none⟩ = some (.int .i64 x0) ∧ w24.cell? ⟨g1, 1, none⟩ = some (.int .i64 x1) ∧ w24.cell? ⟨g1, 2, none⟩ = some (.slice Ao1 x2.length co1) := hS_
     obtain ⟨Ao2, co2, eo2, _⟩ := Kd.Q_slice O2.1
     (first | subst eo2 | (injection eo2 with f1_ f2_ f3_; have f4_ := f1_.symm; have f5_ := f3_.symm; clear f1_ f2_ f3_; subst f4_; subst f5_))
     refine norm_ (a' := ?_) ?_ ?_
     rotate_left
     ·simp only [putAll, Act.put, List.setIfInBounds_toArray, List.set_cons_zero, List.set_cons_succ]
      rfl
     refine sq1 8 none (h := fun K hK => ?_)
     have := sqY3 B9
     have := sqn4 N6 N8 N7 N9
     refine skip_ (w1 := ?_) (by rfl) rfl ?_ ?_
     rotate_left
     ·go_simp
      rfl
     refine hK.out _ _ (sql1 N8 hHeld) (fun hHeld => ?_)
     clear hK K
     refine sqP 9 (some 9) (h := ?_)
     refine done_ (done_of HT_.out (by kernel_rfl)) ?_
     have := sqn6 N7 N6 N9 N8 N11 N10
     have := sqY3 B9
     have := sqn4 N3 N2 N5 N4
     have := sqY3 B2
     try go_wp2
     go_roundg k1
     case measure => have := HK1.out; omega
     case rel => exact ⟨(wrap64 (x7_1 - 1)), (t821), (t11), (t12), (t13), (.slice Ao2 t13.length co2), Z1, H', ⟨Z2 HK1⟩, ⟨by (with_reducible repeat (first | apply Kd.Q_alloc | apply Kd.Q_drewN | apply Kd.Q_drew)); exact Kd.Q_mono (Kd.Q_far (p := ⟨g1, 2, none⟩) (Kd.Q_far (p := ⟨g1, 1, none⟩) (Kd.Q_far (p := ⟨g1, 0, none⟩) (Kd.Q_far (p := ⟨g2, 2, none⟩) (Kd.Q_far (p := ⟨g2, 1, none⟩) (Kd.Q_far (p := ⟨g2, 0, none⟩) (Kd.Q_types (Kd.Q_types O2.1 B9.1 (by decide)) B2.1 (by decide)) (fun _ hk => hk.1.2) (.int .i64 t11)) (fun _ hk => hk.1.2) (.int .i64 t12)) (fun _ hk => hk.1.2) (.slice Ao2 t13.length co2)) (fun _ hk => hk.2) (.int .i64 t11)) (fun _ hk => hk.2) (.int .i64 t12)) (fun _ hk => hk.2) (.slice Ao2 t13.length co2)) (fun _ hk => trivial)⟩, ⟨Z75 N2 N6 B0⟩, ⟨by refine sqPut (cs := #[.int .i64 t11, .int .i64 t12, .slice Ao1 x2.length co1]) ?_ 2; refine sqPut (cs := #[.int .i64 t11, .int .i64 x1, .slice Ao1 x2.length co1]) ?_ 1; refine sqPut (cs := #[.int .i64 x0, .int .i64 x1, .slice Ao1 x2.length co1]) ?_ 0; refine sqFar ?_ N8; refine sqFar ?_ N8; refine sqFar ?_ N8; exact sqK B2⟩, ⟨Z93 HI0 N0 N4 N10⟩, ⟨Z94 GW0 GW1 GW2⟩, ⟨Z95 HI0 E0 E1 E2⟩⟩
    rw [if_neg sqF] at H
    have H' := sqa H
    clear H
    obtain ⟨Ao3, co3, eo3, _⟩ := Kd.Q_slice O1.1
    subst eo3
    try go_wp2
    replace O1 := sqa (Kd.Q_drew O1.1)
    replace B0 := sqa (blk_drew B0.1)
    replace B2 := sqa (blk_drew B2.1)
    replace HI0 := sqa (IsS131.drew HI0.1)
    replace HK := sqa (keep_drew HK.out)
    replace HB := sqa (below_drew1 HB.1)
    refine start_ (n := 10) (S := fun w' => w'.cell? ⟨g1, 0, none⟩ = some (.int .i64 x0) ∧ w'.cell? ⟨g1, 1, none⟩ = some (.int .i64 x1) ∧ w'.cell? ⟨g1, 2, none⟩ = some (.slice Ao3 x2.length co3)) (ds := []) #[false, false, false, false, false, false, false, false, false, false] (by kernel_rfl) rfl rfl (sqk1 B2) (fun hHeld => ?_); refine with_tabW F24.tab5 F24.bits5 (fun HT_ HW_ => ?_)
    generalize wr.drew = w37 at O1 B0 B2 HI0 HK HB hHeld ⊢
    refine sqP 1 (some 24) (h := ?_)
    refine sqQ 0 (some 23) hHeld (h := ?_)
    refine join_ (σ := Value × Nat) 2 #[true, true, true, true, true, true, true, true, false, false] (fun s_ => [(25, .agg #[.int .i64 t9, .string t10]), (26, .tuple #[.agg #[.int .i64 t11, .int .i64 t12, s_.1], .bool false]), (8, .pointer (some ⟨s_.2, 0, none⟩)), (22, .tuple #[.agg #[.int .i64 t11, .int .i64 t12, s_.1], .bool false]), (27, .agg #[.int .i64 t11, .int .i64 t12, s_.1]), (28, .bool false)]) (fun s_ w' => (w'.cell? ⟨g1, 0, none⟩ = some (.int .i64 x0) ∧ w'.cell? ⟨g1, 1, none⟩ = some (.int .i64 x1) ∧ w'.cell? ⟨g1, 2, none⟩ = some (.slice Ao3 x2.length co3)) ∧ (Kd.Q k31 31 w' w.heap.size (fun k_ => some k_ ≠ (.slice Ao3 x2.length co3 : Value).ownBlock) s_.1 t13) ∧ (Kd.Q k31 31 w' w.heap.size (fun k_ => some k_ ≠ (s_.1 : Value).ownBlock) (.slice Ao3 x2.length co3) x2) ∧ (w'.heap[g0]? = some (.cells #[.int .i64 0, .int .i64 0, .slice none 0 0] 34 (0, 0))) ∧ (w'.heap[g1]? = some (.cells #[.int .i64 x0, .int .i64 x1, .slice Ao3 x2.length co3] 34 (0, 0))) ∧ (w'.heap[s_.2]? = some (.cells #[.int .i64 0, .int .i64 0, .slice none 0 0] 34 (0, 0))) ∧ (w.heap.size ≤ s_.2) ∧ (w0.heap.size ≤ s_.2) ∧ (g ≠ s_.2) ∧ (s_.2 ≠ g) ∧ (g0 ≠ s_.2) ∧ (s_.2 ≠ g0) ∧ (g1 ≠ s_.2) ∧ (s_.2 ≠ g1) ∧ (IsS131 w0 w' g s0_0 t821) ∧ (KeepBut w w' g none) ∧ (Below w0.heap.size w0 w')) ?_ ?_
    rotate_left
    ·intro hCont
     refine two_ (i := 2) (j := 7) (Ni := some 25) (Nj := some 8) #[true, true, true, false, false, false, false, false, false, false] #[true, true, false, false, false, false, false, true, false, false] rfl rfl rfl rfl (two_of HT_.out (by kernel_rfl)) (by decide) (by decide) (fun K hK => ?_) (fun K hK => ?_)
     ·skip
      refine sqg func68 #[.pointer (some ⟨g, 0, none⟩)] ?_
      with_reducible refine (F17.c k1 g s0_0 x1001_1 t9 t10 t821 w0 _ ?side1 ?side2 A0.1).mono ?_
      (case side1 => exact Z86 HI0 N0 N4)
      (case side2 => exact Z88 HI0 E0 E1)
      rintro e w38 ⟨rfl, hi, hb, hk⟩
      refine ⟨_, rfl, ?_⟩
      replace O1 := sqa (Kd.Q_mono (Kd.Q_keep (IsS131.apartQ (show IsS131 w0 _ g s0_0 x1001_1 from by repeat (first | (with_reducible first | exact HI0.1 | apply IsS131.alloc | apply IsS131.drewN | apply IsS131.drew | apply IsS131.set_1 | refine IsS131.far ?_ N0.1 _ | refine IsS131.far ?_ N4.1 _) | exact HI0.1)) (Z40 O1) (by decide)) hk (fun _ h => h.2)) (fun _ h => h.1))
      replace B0 := sqkb hk B0 N1
      replace B2 := sqkb hk B2 N5
      replace HK := sqa (KeepBut.trans (Z87 GW0 GW1) hk (.inl rfl))
      replace HB := sqa (hb)
      replace HI0 := sqa (hi)
      refine hK.out _ _ (sqk1 B2) (fun hHeld => ?_)
      clear hK K
      refine sqN (some 25) ?_
      refine two_ (i := 3) (j := 7) (Ni := some 26) (Nj := some 8) #[true, true, true, true, false, false, false, false, false, false] #[true, true, true, false, false, false, false, true, false, false] rfl rfl rfl rfl (two_of HT_.out (by kernel_rfl)) (by decide) (by decide) (fun K hK => ?_) (fun K hK => ?_)
      ·skip
       refine sqg func14 #[.agg #[.int .i64 x0, .int .i64 x1, .slice Ao3 x2.length co3], .agg #[.int .i64 t9, .string t10]] ?_
       with_reducible refine (F16.c k1 x0 x1 _ _ x2 t9 t10 t11 t12 t13 false _ ?side1 ?side2 A1.1).mono ?_
       (case side1 => exact Z69 O1)
       (case side2 => exact Z70 O1)
       rintro e w39 ⟨v1, rfl, ho0, hb⟩
       refine ⟨_, rfl, ?_⟩
       have O2 := sqa (Kd.Q_lower (Kd.Q_new' ho0 (Kd.Q_lt (Z40 O1))) (keep_size (w := w) (g := g) (row := none) (Z87 GW0 GW1)))
       replace O1 := sqa (Kd.Q_elder' (Z40 O1) (Kd.Q_base ho0) hb)
       replace B0 := sqT B0 hb
       replace B2 := sqT B2 hb
       replace HK := sqa (KeepBut.trans (Z87 GW0 GW1) (KeepBut.of_below hb g none) (.inl rfl))
       replace HB := sqa (below_step (Z88 HI0 E0 E1) hb)
       replace HI0 := sqa (IsS131.below (Z86 HI0 N0 N4) hb)
       refine hK.out _ _ (sqk1 B2) (fun hHeld => ?_)
       clear hK K
       refine sqN (some 26) ?_
       refine sqP 4 (some 22) (h := ?_)
       refine sqP 5 (some 27) (h := ?_)
       refine sqP 6 (some 28) (h := ?_)
       refine sq1 7 (some 8) (h := fun K hK => ?_)
       refine box_step ?hg (N := 8) ?hd (cs := #[.int .i64 0, .int .i64 0, .slice none 0 0]) (t := 34) ?hr ?_; (case hd => rfl); (case hg => rfl); (case hr => exact Z17)
       intro g2 hg w40 hbox hb
       replace O1 := sqa (Kd.Q_below (Z40 O1) hb)
       replace O2 := sqa (Kd.Q_below (Z40 O2) hb)
       replace HB := sqa (below_step (Z88 HI0 E0 E1) hb)
       have B9 := sqa (hbox)
       have GW2 := sqa ((Z174 GW0 GW1 : w.heap.size ≤ g2))
       have E2 := sqa ((Nat.le_trans HW0.out (Z174 GW0 GW1 : w.heap.size ≤ g2) : w0.heap.size ≤ g2))
       replace HK := sqa (KeepBut.trans (Z87 GW0 GW1) (KeepBut.of_below hb g none) (.inl rfl))
       obtain ⟨N6, N7⟩ := sqM hg B0
       replace B0 := sqT B0 hb
       obtain ⟨N8, N9⟩ := sqM hg B2
       replace B2 := sqT B2 hb
       have N10 := sqa ((Z91 HI0 N0 N4 : g ≠ g2))
       have N11 := sqa ((Z92 HI0 N0 N4 : g2 ≠ g))
       replace HI0 := sqa (IsS131.below (Z86 HI0 N0 N4) hb)
       clear hb hbox hg
       refine hK.out _ _ (sqk1 B2) (fun hHeld => ?_)
       clear hK K
       refine sqN (some 8) ?_
       exact norm_ Z20 (hCont (v1, g2) _ ⟨hHeld, (Z71 O2), (Z71 O1), (sqK B0), (sqK B2), (sqK B9), GW2.1, E2.1, N10.1, N11.1, N6.1, N7.1, N8.1, N9.1, (Z93 HI0 N0 N4 N10), (Z94 GW0 GW1 GW2), (Z95 HI0 E0 E1 E2)⟩)
      ·skip
       refine box_step ?hg (N := 8) ?hd (cs := #[.int .i64 0, .int .i64 0, .slice none 0 0]) (t := 34) ?hr ?_; (case hd => rfl); (case hg => rfl); (case hr => exact Z17)
       intro g2 hg w39 hbox hb
       replace O1 := sqa (Kd.Q_below (Z40 O1) hb)
       replace HB := sqa (below_step (Z88 HI0 E0 E1) hb)
       have B9 := sqa (hbox)
       have GW2 := sqa ((Z174 GW0 GW1 : w.heap.size ≤ g2))
       have E2 := sqa ((Nat.le_trans HW0.out (Z174 GW0 GW1 : w.heap.size ≤ g2) : w0.heap.size ≤ g2))
       replace HK := sqa (KeepBut.trans (Z87 GW0 GW1) (KeepBut.of_below hb g none) (.inl rfl))
       obtain ⟨N6, N7⟩ := sqM hg B0
       replace B0 := sqT B0 hb
       obtain ⟨N8, N9⟩ := sqM hg B2
       replace B2 := sqT B2 hb
       have N10 := sqa ((Z91 HI0 N0 N4 : g ≠ g2))
       have N11 := sqa ((Z92 HI0 N0 N4 : g2 ≠ g))
       replace HI0 := sqa (IsS131.below (Z86 HI0 N0 N4) hb)
       clear hb hbox hg
       refine hK.out _ _ (sqk1 B2) (fun hHeld => ?_)
       clear hK K
       refine sqN (some 8) ?_
       refine sq1 3 (some 26) (h := fun K hK => ?_)
       refine sqg func14 #[.agg #[.int .i64 x0, .int .i64 x1, .slice Ao3 x2.length co3], .agg #[.int .i64 t9, .string t10]] ?_
       with_reducible refine (F16.c k1 x0 x1 _ _ x2 t9 t10 t11 t12 t13 false _ ?side1 ?side2 A1.1).mono ?_
       (case side1 => exact Z69 O1)
       (case side2 => exact Z70 O1)
       rintro e w40 ⟨v1, rfl, ho0, hb⟩
       refine ⟨_, rfl, ?_⟩
       have O2 := sqa (Kd.Q_lower (Kd.Q_new' ho0 (Kd.Q_lt (Z40 O1))) (keep_size (w := w) (g := g) (row := none) (Z94 GW0 GW1 GW2)))
       replace O1 := sqa (Kd.Q_elder' (Z40 O1) (Kd.Q_base ho0) hb)
       replace B0 := sqT B0 hb
       replace B2 := sqT B2 hb
       replace B9 := sqT B9 hb
       replace HK := sqa (KeepBut.trans (Z94 GW0 GW1 GW2) (KeepBut.of_below hb g none) (.inl rfl))
       replace HB := sqa (below_step (Z95 HI0 E0 E1 E2) hb)
       replace HI0 := sqa (IsS131.below (Z93 HI0 N0 N4 N10) hb)
       refine hK.out _ _ (sqk1 B2) (fun hHeld => ?_)
       clear hK K
       refine sqN (some 26) ?_
       refine sqP 4 (some 22) (h := ?_)
       refine sqP 5 (some 27) (h := ?_)
       refine sqP 6 (some 28) (h := ?_)
       exact norm_ Z20 (hCont (v1, g2) _ ⟨hHeld, (Z71 O2), (Z71 O1), (sqK B0), (sqK B2), (sqK B9), GW2.1, E2.1, N10.1, N11.1, N6.1, N7.1, N8.1, N9.1, (Z93 HI0 N0 N4 N10), (Z94 GW0 GW1 GW2), (Z95 HI0 E0 E1 E2)⟩)
     ·skip
      refine box_step ?hg (N := 8) ?hd (cs := #[.int .i64 0, .int .i64 0, .slice none 0 0]) (t := 34) ?hr ?_; (case hd => rfl); (case hg => rfl); (case hr => exact Z17)
      intro g2 hg w38 hbox hb
      replace O1 := sqa (Kd.Q_below (Z40 O1) hb)
      replace HB := sqa (below_step (Z88 HI0 E0 E1) hb)
      have B9 := sqa (hbox)
      have GW2 := sqa ((Z174 GW0 GW1 : w.heap.size ≤ g2))
      have E2 := sqa ((Nat.le_trans HW0.out (Z174 GW0 GW1 : w.heap.size ≤ g2) : w0.heap.size ≤ g2))
      replace HK := sqa (KeepBut.trans (Z87 GW0 GW1) (KeepBut.of_below hb g none) (.inl rfl))
      obtain ⟨N6, N7⟩ := sqM hg B0
      replace B0 := sqT B0 hb
      obtain ⟨N8, N9⟩ := sqM hg B2
      replace B2 := sqT B2 hb
      have N10 := sqa ((Z96 HI0 N0 N4 : g ≠ g2))
      have N11 := sqa ((Z97 HI0 N0 N4 : g2 ≠ g))
      replace HI0 := sqa (IsS131.below (Z86 HI0 N0 N4) hb)
      clear hb hbox hg
      refine hK.out _ _ (sqk1 B2) (fun hHeld => ?_)
      clear hK K
      refine sqN (some 8) ?_
      refine sq1 2 (some 25) (h := fun K hK => ?_)
      refine sqg func68 #[.pointer (some ⟨g, 0, none⟩)] ?_
      with_reducible refine (F17.c k1 g s0_0 x1001_1 t9 t10 t821 w0 _ ?side1 ?side2 A0.1).mono ?_
      (case side1 => exact Z93 HI0 N0 N4 N10)
      (case side2 => exact Z95 HI0 E0 E1 E2)
      rintro e w39 ⟨rfl, hi, hb, hk⟩
      refine ⟨_, rfl, ?_⟩
      replace O1 := sqa (Kd.Q_mono (Kd.Q_keep (IsS131.apartQ (show IsS131 w0 _ g s0_0 x1001_1 from by repeat (first | (with_reducible first | exact HI0.1 | apply IsS131.alloc | apply IsS131.drewN | apply IsS131.drew | apply IsS131.set_1 | refine IsS131.far ?_ N0.1 _ | refine IsS131.far ?_ N4.1 _ | refine IsS131.far ?_ N10.1 _) | exact HI0.1)) (Z40 O1) (by decide)) hk (fun _ h => h.2)) (fun _ h => h.1))
      replace B0 := sqkb hk B0 N1
      replace B2 := sqkb hk B2 N5
      replace B9 := sqkb hk B9 N11
      replace HK := sqa (KeepBut.trans (Z94 GW0 GW1 GW2) hk (.inl rfl))
      replace HB := sqa (hb)
      replace HI0 := sqa (hi)
      refine hK.out _ _ (sqk1 B2) (fun hHeld => ?_)
      clear hK K
      refine sqN (some 25) ?_
      refine sq1 3 (some 26) (h := fun K hK => ?_)
      refine sqg func14 #[.agg #[.int .i64 x0, .int .i64 x1, .slice Ao3 x2.length co3], .agg #[.int .i64 t9, .string t10]] ?_
      with_reducible refine (F16.c k1 x0 x1 _ _ x2 t9 t10 t11 t12 t13 false _ ?side1 ?side2 A1.1).mono ?_
      (case side1 => exact Z69 O1)
      (case side2 => exact Z70 O1)
      rintro e w40 ⟨v1, rfl, ho0, hb⟩
      refine ⟨_, rfl, ?_⟩
      have O2 := sqa (Kd.Q_lower (Kd.Q_new' ho0 (Kd.Q_lt (Z40 O1))) (keep_size (w := w) (g := g) (row := none) (Z94 GW0 GW1 GW2)))
      replace O1 := sqa (Kd.Q_elder' (Z40 O1) (Kd.Q_base ho0) hb)
      replace B0 := sqT B0 hb
      replace B2 := sqT B2 hb
      replace B9 := sqT B9 hb
      replace HK := sqa (KeepBut.trans (Z94 GW0 GW1 GW2) (KeepBut.of_below hb g none) (.inl rfl))
      replace HB := sqa (below_step (Z95 HI0 E0 E1 E2) hb)
      replace HI0 := sqa (IsS131.below (Z93 HI0 N0 N4 N10) hb)
      refine hK.out _ _ (sqk1 B2) (fun hHeld => ?_)
      clear hK K
      refine sqN (some 26) ?_
      refine sqP 4 (some 22) (h := ?_)
      refine sqP 5 (some 27) (h := ?_)
      refine sqP 6 (some 28) (h := ?_)
      exact norm_ Z20 (hCont (v1, g2) _ ⟨hHeld, (Z71 O2), (Z71 O1), (sqK B0), (sqK B2), (sqK B9), GW2.1, E2.1, N10.1, N11.1, N6.1, N7.1, N8.1, N9.1, (Z93 HI0 N0 N4 N10), (Z94 GW0 GW1 GW2), (Z95 HI0 E0 E1 E2)⟩)
    rintro ⟨v1, g2⟩ w41 ⟨hS_, h0_, h1_, h2_, h3_, h4_, h5_, h6_, h7_, h8_, h9_, h0, h1, h2, h3, h4, h5⟩
    replace O2 : Aside0 (Kd.Q k31 31 w41 w.heap.size (fun k_ => some k_ ≠ (.slice Ao3 x2.length co3 : Value).ownBlock) v1 t13) := ⟨h0_⟩
    replace O1 : Aside0 (Kd.Q k31 31 w41 w.heap.size (fun k_ => some k_ ≠ (v1 : Value).ownBlock) (.slice Ao3 x2.length co3) x2) := ⟨h1_⟩
    replace B0 : Aside0 (w41.heap[g0]? = some (.cells #[.int .i64 0, .int .i64 0, .slice none 0 0] 34 (0, 0))) := ⟨h2_⟩
    replace B2 : Aside0 (w41.heap[g1]? = some (.cells #[.int .i64 x0, .int .i64 x1, .slice Ao3 x2.length co3] 34 (0, 0))) := ⟨h3_⟩
    replace B9 : Aside0 (w41.heap[g2]? = some (.cells #[.int .i64 0, .int .i64 0, .slice none 0 0] 34 (0, 0))) := ⟨h4_⟩
    replace GW2 : Aside0 (w.heap.size ≤ g2) := ⟨h5_⟩
    replace E2 : Aside0 (w0.heap.size ≤ g2) := ⟨h6_⟩
    replace N10 : Aside0 (g ≠ g2) := ⟨h7_⟩
    replace N11 : Aside0 (g2 ≠ g) := ⟨h8_⟩
    replace N6 : Aside0 (g0 ≠ g2) := ⟨h9_⟩
    replace N7 : Aside0 (g2 ≠ g0) := ⟨h0⟩
    replace N8 : Aside0 (g1 ≠ g2) := ⟨h1⟩
    replace N9 : Aside0 (g2 ≠ g1) := ⟨h2⟩
    replace HI0 : Aside0 (IsS131 w0 w41 g s0_0 t821) := ⟨h3⟩
    replace HK : Aside0 (KeepBut w w41 g none) := ⟨h4⟩
    replace HB : Aside0 (Below w0.heap.size w0 w41) := ⟨h5⟩
    clear h0_ h1_ h2_ h3_ h4_ h5_ h6_ h7_ h8_ h9_ h0 h1 h2 h3 h4 h5
    have hHeld : w41.cell? ⟨g1, 0, none⟩ = some (.int .i64 x0) ∧ w41.cell? ⟨g1, 1, none⟩ = some (.int .i64 x1) ∧ w41.cell? ⟨g1, 2, none⟩ = some (.slice Ao3 x2.length co3) := hS_
    obtain ⟨Ao4, co4, eo4, _⟩ := Kd.Q_slice O2.1
    (first | subst eo4 | (injection eo4 with f1_ f2_ f3_; have f4_ := f1_.symm; have f5_ := f3_.symm; clear f1_ f2_ f3_; subst f4_; subst f5_))
    refine norm_ (a' := ?_) ?_ ?_
    rotate_left
    ·simp only [putAll, Act.put, List.setIfInBounds_toArray, List.set_cons_zero, List.set_cons_succ]
     rfl
    refine sq1 8 none (h := fun K hK => ?_)
    have := sqY3 B9
    have := sqn4 N6 N8 N7 N9
    refine skip_ (w1 := ?_) (by rfl) rfl ?_ ?_
    rotate_left
    ·go_simp
     rfl
    refine hK.out _ _ (sql1 N8 hHeld) (fun hHeld => ?_)
    clear hK K
    refine sqP 9 (some 9) (h := ?_)
    refine done_ (done_of HT_.out (by kernel_rfl)) ?_
    try go_wp2
    go_roundg k1
    case measure => have := HK1.out; omega
    case rel => exact ⟨(wrap64 (x7_1 - 1)), (t821), (x0), (x1), (x2), (.slice Ao3 x2.length co3), Z1, H', ⟨Z2 HK1⟩, ⟨by (with_reducible repeat (first | apply Kd.Q_alloc | apply Kd.Q_drewN | apply Kd.Q_drew)); exact Kd.Q_mono (sqq3 O1.1 B9.1) (fun _ hk => trivial)⟩, ⟨Z38 N6 B0⟩, ⟨Z38 N8 B2⟩, ⟨Z93 HI0 N0 N4 N10⟩, ⟨Z94 GW0 GW1 GW2⟩, ⟨Z95 HI0 E0 E1 E2⟩⟩
   obtain ⟨⟨t15, t16⟩, A2, H⟩ := sqD H
   try dsimp only at H
   obtain rfl | rfl := sqt t15
   ·rw [if_pos rfl] at H
    obtain ⟨⟨t17, t18⟩, A6, H⟩ := sqD H
    try dsimp only at H
    obtain ⟨c5, c6, H⟩ | ⟨c5, c6, c4, H⟩ := sqi4 H
    ·obtain ⟨rfl, rfl, rfl, rfl⟩ := sqO4 H
     go_wp2_with (first | ((with_reducible refine sqc 74 rfl ?_); refine sqvs (some 33) func74 (args := #[.pointer (some ⟨g, 0, none⟩), .int .i64 a1]) (F28.c k1 g s0_0 x1001_1 a1 true t16 w0 _ (Z86 HI0 N0 N4) (Z88 HI0 E0 E1) A2.1) fun w50 hi hb hk => ?_; replace O1 := sqa (Kd.Q_mono (Kd.Q_keep (IsS131.apartQ (show IsS131 w0 _ g s0_0 x1001_1 from by repeat (first | (with_reducible first | exact HI0.1 | apply IsS131.alloc | apply IsS131.drewN | apply IsS131.drew | apply IsS131.set_1 | refine IsS131.far ?_ N0.1 _ | refine IsS131.far ?_ N4.1 _) | exact HI0.1)) (Z40 O1) (by decide)) hk (fun _ h => h.2)) (fun _ h => h.1)); replace B0 := sqkb hk B0 N1; replace B2 := sqkb hk B2 N5; replace HK := sqa (KeepBut.trans (Z87 GW0 GW1) hk (.inl rfl)); replace HB := sqa (hb); replace HI0 := sqa (hi)) | ((with_reducible refine sqc 82 rfl ?_); refine sqvs (some 35) func82 (args := #[.pointer (some ⟨g, 0, none⟩), .int .i64 3]) (F1.c k1 g s0_0 t16 3 t17 t18 w0 _ (Z86 HI0 N0 N4) (Z88 HI0 E0 E1) A6.1) fun w51 hi hb hk => ?_; replace O1 := sqa (Kd.Q_mono (Kd.Q_keep (IsS131.apartQ (show IsS131 w0 _ g s0_0 t16 from by repeat (first | (with_reducible first | exact HI0.1 | apply IsS131.alloc | apply IsS131.drewN | apply IsS131.drew | apply IsS131.set_1 | refine IsS131.far ?_ N0.1 _ | refine IsS131.far ?_ N4.1 _) | exact HI0.1)) (Z40 O1) (by decide)) hk (fun _ h => h.2)) (fun _ h => h.1)); replace B0 := sqkb hk B0 N1; replace B2 := sqkb hk B2 N5; replace HK := sqa (KeepBut.trans (Z87 GW0 GW1) hk (.inl rfl)); replace HB := sqa (hb); replace HI0 := sqa (hi); have := sqn4 N3 N2 N5 N4; have := sqY3 B2; have := sqn2 N1 N0; have := sqY3 B0; obtain ⟨Ao5, co5, eo5, _⟩ := Kd.Q_slice O1.1; subst eo5))
     refine sqEr g0 34 #[.int .i64 2, .int .i64 2, .slice Ao5 x2.length co5] (by refine sqPut (cs := #[.int .i64 2, .int .i64 2, .slice none 0 0]) ?_ 2; refine sqPut (cs := #[.int .i64 2, .int .i64 0, .slice none 0 0]) ?_ 1; refine sqPut (cs := #[.int .i64 0, .int .i64 0, .slice none 0 0]) ?_ 0; refine sqFar ?_ N2; refine sqFar ?_ N2; exact sqK B0) underlying34 ?_
     exact ⟨_, Z5, by (with_reducible repeat (first | apply Kd.Q_alloc | apply Kd.Q_drewN | apply Kd.Q_drew)); exact Kd.Q_mono (Kd.Q_far (p := ⟨g0, 2, none⟩) (Kd.Q_far (p := ⟨g0, 1, none⟩) (Kd.Q_far (p := ⟨g0, 0, none⟩) (Kd.Q_far (p := ⟨g1, 1, none⟩) (Kd.Q_far (p := ⟨g1, 0, none⟩) (Kd.Q_types (Kd.Q_types O1.1 B2.1 (by decide)) B0.1 (by decide)) (fun _ hk => hk.1.2) (.int .i64 2)) (fun _ hk => hk.1.2) (.int .i64 2)) (fun _ hk => hk.2) (.int .i64 2)) (fun _ hk => hk.2) (.int .i64 2)) (fun _ hk => hk.2) (.slice Ao5 x2.length co5)) (fun _ hk => trivial), Z86 HI0 N0 N4, Z88 HI0 E0 E1, Z87 GW0 GW1⟩
    obtain ⟨c8, c9, H⟩ | ⟨c8, c9, c7, H⟩ := sqi4 H
    ·obtain ⟨c59, H⟩ := sqI H
     have LMc0 := sqa c59
     clear c59
     obtain ⟨y0, hy0⟩ : ∃ y_ : List (S31), y_ = (x2 ++ [(⟨0, 0⟩ : S31)]) := ⟨_, rfl⟩
     replace H : (some (x0, x1, y0, t18)) = some (r1, r2, r3, r4) := sqW hy0 H
     have Ny0 := sqa hy0
     clear hy0
     obtain ⟨rfl, rfl, rfl, rfl⟩ := sqO4 H
     go_wp2_with (first | ((with_reducible refine sqc 74 rfl ?_); refine sqvs (some 33) func74 (args := #[.pointer (some ⟨g, 0, none⟩), .int .i64 a1]) (F28.c k1 g s0_0 x1001_1 a1 true t16 w0 _ (Z86 HI0 N0 N4) (Z88 HI0 E0 E1) A2.1) fun w60 hi hb hk => ?_; replace O1 := sqa (Kd.Q_mono (Kd.Q_keep (IsS131.apartQ (show IsS131 w0 _ g s0_0 x1001_1 from by repeat (first | (with_reducible first | exact HI0.1 | apply IsS131.alloc | apply IsS131.drewN | apply IsS131.drew | apply IsS131.set_1 | refine IsS131.far ?_ N0.1 _ | refine IsS131.far ?_ N4.1 _) | exact HI0.1)) (Z40 O1) (by decide)) hk (fun _ h => h.2)) (fun _ h => h.1)); replace B0 := sqkb hk B0 N1; replace B2 := sqkb hk B2 N5; replace HK := sqa (KeepBut.trans (Z87 GW0 GW1) hk (.inl rfl)); replace HB := sqa (hb); replace HI0 := sqa (hi)) | ((with_reducible refine sqc 82 rfl ?_); refine sqvs (some 35) func82 (args := #[.pointer (some ⟨g, 0, none⟩), .int .i64 3]) (F1.c k1 g s0_0 t16 3 t17 t18 w0 _ (Z86 HI0 N0 N4) (Z88 HI0 E0 E1) A6.1) fun w61 hi hb hk => ?_; replace O1 := sqa (Kd.Q_mono (Kd.Q_keep (IsS131.apartQ (show IsS131 w0 _ g s0_0 t16 from by repeat (first | (with_reducible first | exact HI0.1 | apply IsS131.alloc | apply IsS131.drewN | apply IsS131.drew | apply IsS131.set_1 | refine IsS131.far ?_ N0.1 _ | refine IsS131.far ?_ N4.1 _) | exact HI0.1)) (Z40 O1) (by decide)) hk (fun _ h => h.2)) (fun _ h => h.1)); replace B0 := sqkb hk B0 N1; replace B2 := sqkb hk B2 N5; replace HK := sqa (KeepBut.trans (Z87 GW0 GW1) hk (.inl rfl)); replace HB := sqa (hb); replace HI0 := sqa (hi); have := sqn4 N3 N2 N5 N4; have := sqY3 B2) | ((with_reducible refine gate_builtin (b := .append) (xs := #[.tmp 44, .tmp 46]) rfl ?_); at_builtin; refine Kd.Q_append k31 w.heap.size rfl (.tmp 44) (.tmp 46) 32 31 (.agg #[(.int .i64 0), (.int .i64 0)]) 16 rfl underlying32 info31 rfl (by decide) (by omega) u817002 x2 (⟨0, 0⟩ : S31) [.int .i64 0, .int .i64 0] (fun _ => True) (fun _ => False) rfl rfl ?aP (fun _ hk => hk.elim) ?aF ?aO (Below.refl _ _) ?aS ?aL ?_; (case aP => exact k31_mkM _ _ _ (⟨0, 0⟩ : S31)); (case aF => exact Z25); (case aO => exact (Z40 O1)); (case aS => exact (keep_size (w := w) (g := g) (row := none) (Z87 GW0 GW1))); (case aL => exact Z2 LMc0); intro v2 w65 ho hb hg hat; rw [← Ny0.out] at ho; replace B0 := sqa (blk_grown (sqK B0) hg (Kd.Q_ne O1.1 B0.1 (by decide))); replace B2 := sqa (blk_grown (sqK B2) hg (Kd.Q_ne O1.1 B2.1 (by decide))); replace HB := sqa (below_weaken (Z88 HI0 E0 E1) HL.out hb); replace HI0 := sqa (IsS131.grown (Z86 HI0 N0 N4) hg (IsS131.own_neQ HI0.1 O1.1 (by decide))); replace HK := sqa (KeepBut.trans (Z87 GW0 GW1) (KeepBut.of_grown hg g) (Kd.Q_base2 O1.1)); have O3 := sqa (ho); clear O1; clear ho hb hg hat; obtain ⟨Ao6, co6, eo6, _⟩ := Kd.Q_slice O3.1; subst eo6; have := sqY3 B2; have := sqn2 N1 N0; have := sqY3 B0))
     refine sqEr g0 34 #[.int .i64 x0, .int .i64 x1, .slice Ao6 y0.length co6] (by refine sqPut (cs := #[.int .i64 x0, .int .i64 x1, .slice none 0 0]) ?_ 2; refine sqPut (cs := #[.int .i64 x0, .int .i64 0, .slice none 0 0]) ?_ 1; refine sqPut (cs := #[.int .i64 0, .int .i64 0, .slice none 0 0]) ?_ 0; refine sqFar ?_ N2; exact sqK B0) underlying34 ?_
     exact ⟨_, Z5, by (with_reducible repeat (first | apply Kd.Q_alloc | apply Kd.Q_drewN | apply Kd.Q_drew)); exact Kd.Q_mono (Kd.Q_far (p := ⟨g0, 2, none⟩) (Kd.Q_far (p := ⟨g0, 1, none⟩) (Kd.Q_far (p := ⟨g0, 0, none⟩) (Kd.Q_far (p := ⟨g1, 2, none⟩) (Kd.Q_types (Kd.Q_types O3.1 B2.1 (by decide)) B0.1 (by decide)) (fun _ hk => hk.1.2) (.slice Ao6 y0.length co6)) (fun _ hk => hk.2) (.int .i64 x0)) (fun _ hk => hk.2) (.int .i64 x1)) (fun _ hk => hk.2) (.slice Ao6 y0.length co6)) (fun _ hk => trivial), Z86 HI0 N0 N4, Z88 HI0 E0 E1, Z87 GW0 GW1⟩
    obtain ⟨rfl, rfl, rfl, rfl⟩ := sqO4 H
    go_wp2_with (first | ((with_reducible refine sqc 74 rfl ?_); refine sqvs (some 33) func74 (args := #[.pointer (some ⟨g, 0, none⟩), .int .i64 a1]) (F28.c k1 g s0_0 x1001_1 a1 true t16 w0 _ (Z86 HI0 N0 N4) (Z88 HI0 E0 E1) A2.1) fun w70 hi hb hk => ?_; replace O1 := sqa (Kd.Q_mono (Kd.Q_keep (IsS131.apartQ (show IsS131 w0 _ g s0_0 x1001_1 from by repeat (first | (with_reducible first | exact HI0.1 | apply IsS131.alloc | apply IsS131.drewN | apply IsS131.drew | apply IsS131.set_1 | refine IsS131.far ?_ N0.1 _ | refine IsS131.far ?_ N4.1 _) | exact HI0.1)) (Z40 O1) (by decide)) hk (fun _ h => h.2)) (fun _ h => h.1)); replace B0 := sqkb hk B0 N1; replace B2 := sqkb hk B2 N5; replace HK := sqa (KeepBut.trans (Z87 GW0 GW1) hk (.inl rfl)); replace HB := sqa (hb); replace HI0 := sqa (hi)) | ((with_reducible refine sqc 82 rfl ?_); refine sqvs (some 35) func82 (args := #[.pointer (some ⟨g, 0, none⟩), .int .i64 3]) (F1.c k1 g s0_0 t16 3 t17 t18 w0 _ (Z86 HI0 N0 N4) (Z88 HI0 E0 E1) A6.1) fun w71 hi hb hk => ?_; replace O1 := sqa (Kd.Q_mono (Kd.Q_keep (IsS131.apartQ (show IsS131 w0 _ g s0_0 t16 from by repeat (first | (with_reducible first | exact HI0.1 | apply IsS131.alloc | apply IsS131.drewN | apply IsS131.drew | apply IsS131.set_1 | refine IsS131.far ?_ N0.1 _ | refine IsS131.far ?_ N4.1 _) | exact HI0.1)) (Z40 O1) (by decide)) hk (fun _ h => h.2)) (fun _ h => h.1)); replace B0 := sqkb hk B0 N1; replace B2 := sqkb hk B2 N5; replace HK := sqa (KeepBut.trans (Z87 GW0 GW1) hk (.inl rfl)); replace HB := sqa (hb); replace HI0 := sqa (hi); have := sqn4 N2 N3 N1 N0; have := sqY3 B0))
    refine sqEr g0 34 #[.int .i64 0, .int .i64 0, .slice none 0 0] (Z46 B0) underlying34 ?_
    exact ⟨_, Z5, Kd.Q_of_R Z47, Z86 HI0 N0 N4, Z88 HI0 E0 E1, Z87 GW0 GW1⟩
   rw [if_neg sqF] at H
   obtain ⟨rfl, rfl, rfl, rfl⟩ := sqO4 H
   go_wp2_with (first | ((with_reducible refine sqc 74 rfl ?_); refine sqvs (some 33) func74 (args := #[.pointer (some ⟨g, 0, none⟩), .int .i64 a1]) (F28.c k1 g s0_0 x1001_1 a1 false t16 w0 _ (Z86 HI0 N0 N4) (Z88 HI0 E0 E1) A2.1) fun w75 hi hb hk => ?_; replace O1 := sqa (Kd.Q_mono (Kd.Q_keep (IsS131.apartQ (show IsS131 w0 _ g s0_0 x1001_1 from by repeat (first | (with_reducible first | exact HI0.1 | apply IsS131.alloc | apply IsS131.drewN | apply IsS131.drew | apply IsS131.set_1 | refine IsS131.far ?_ N0.1 _ | refine IsS131.far ?_ N4.1 _) | exact HI0.1)) (Z40 O1) (by decide)) hk (fun _ h => h.2)) (fun _ h => h.1)); replace B0 := sqkb hk B0 N1; replace B2 := sqkb hk B2 N5; replace HK := sqa (KeepBut.trans (Z87 GW0 GW1) hk (.inl rfl)); replace HB := sqa (hb); replace HI0 := sqa (hi); have := sqn4 N3 N2 N5 N4; have := sqY3 B2; have := sqn2 N1 N0; have := sqY3 B0; obtain ⟨Ao7, co7, eo7, _⟩ := Kd.Q_slice O1.1; subst eo7))
   refine sqEr g0 34 #[.int .i64 x0, .int .i64 x1, .slice Ao7 x2.length co7] (by refine sqPut (cs := #[.int .i64 x0, .int .i64 x1, .slice none 0 0]) ?_ 2; refine sqPut (cs := #[.int .i64 x0, .int .i64 0, .slice none 0 0]) ?_ 1; refine sqPut (cs := #[.int .i64 0, .int .i64 0, .slice none 0 0]) ?_ 0; exact sqK B0) underlying34 ?_
   exact ⟨_, Z5, by (with_reducible repeat (first | apply Kd.Q_alloc | apply Kd.Q_drewN | apply Kd.Q_drew)); exact Kd.Q_mono (sqq3 O1.1 B0.1) (fun _ hk => trivial), Z86 HI0 N0 N4, Z88 HI0 E0 E1, Z87 GW0 GW1⟩

end Go.Proofs.YtofmlbgfcohhoaaGreatDoor.PFnDeskSay
