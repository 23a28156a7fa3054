import Derived.Test.YtofmlbgfcohhoaaGreatDoorPFnExactDeskSayx6
set_option maxHeartbeats 8000000
set_option maxRecDepth 100000
namespace Go.Proofs.YtofmlbgfcohhoaaGreatDoor.PFnExactDeskSay
open Go.RowKit Go.Proofs.YtofmlbgfcohhoaaGreatDoorW.PrintWords Go.Proofs.YtofmlbgfcohhoaaGreatDoorW.PrintLast Go.Proofs.YtofmlbgfcohhoaaGreatDoorW.PrintMore Go.Proofs.YtofmlbgfcohhoaaGreatDoor.Lib Go.Proofs.Tryz
attribute [local go_sem] max2_int min2_int max_two min_two max_three min_three max_four min_four   -- for this text's walks alone
set_option linter.unusedVariables false
set_option linter.unusedSimpArgs false

/-! ### spec_DancedFrom: function 106 -/
mutual
def spec_DancedFrom.j0 : Nat → ByteArray → Bool → Int → Int → Option (Int × Int × Bool)
 | 0, _, _, _, _ => none
 | k + 1, x1, x17, x0, x2 => if x17 = true then (some (0, 0, false)) else (spec_DancedFrom.l0 k x1 0 x0 x2)
def spec_DancedFrom.l0 : Nat → ByteArray → Int → Int → Int → Option (Int × Int × Bool)
 | 0, _, _, _, _ => none
 | k + 1, x1, x7, x0, x2 => if x7 < (x1.size : Int) then (if 0 ≤ x7 then ((spec_l2Move.f k x0 x2 (bt x1 x7)).bind fun bt0 => (if bt0.2.2 = true then (spec_DancedFrom.l0 k x1 (wrap64 (x7 + 1)) bt0.1 bt0.2.1) else (some (0, 0, false)))) else (none)) else (some (x0, x2, true))
end
def spec_DancedFrom.f (k : Nat) (a0_0 : Int) (a0_1 : Int) (a1 : ByteArray) : Option (Int × Int × Bool) := (spec_DanceOk.f k a1).bind fun t0 => (if t0 = true then ((spec_FractionOk.f k a0_0 a0_1).bind fun t1 => (spec_DancedFrom.j0 k a1 (!t1) a0_0 a0_1)) else (spec_DancedFrom.j0 k a1 true a0_0 a0_1))
abbrev spec_DancedFrom.M (k : Nat) : Prop := (∀ y0 y1 y2 y3, LeO (spec_DancedFrom.j0 k y0 y1 y2 y3) (spec_DancedFrom.j0 (k + 1) y0 y1 y2 y3)) ∧ (∀ y0 y1 y2 y3, LeO (spec_DancedFrom.l0 k y0 y1 y2 y3) (spec_DancedFrom.l0 (k + 1) y0 y1 y2 y3))
theorem spec_DancedFrom.mono_t : ∀ k, spec_DancedFrom.M k → spec_DancedFrom.M (k + 1) ∧ ∀ a0 a1 a2, LeO (spec_DancedFrom.f k a0 a1 a2) (spec_DancedFrom.f (k + 1) a0 a1 a2) := by
  rintro k ⟨ih0, ih1⟩
  refine ⟨⟨?_, ?_⟩, ?_⟩ <;> intros <;> (first | unfold spec_DancedFrom.j0 | unfold spec_DancedFrom.l0 | unfold spec_DancedFrom.f) <;> repeat' (with_reducible first | exact ih0 _ _ _ _ | exact ih1 _ _ _ _ | exact spec_DanceOk.mono _ _ | exact spec_FractionOk.mono _ _ _ | exact spec_l2Move.mono _ _ _ _ | exact LeO.refl _ | exact LeO.none _ | refine LeO.ite ?_ ?_ | refine LeO.bind ?_ fun _ => ?_)
theorem spec_DancedFrom.mono_l : ∀ k, spec_DancedFrom.M k
 | 0 => ⟨fun _ _ _ _ r h => by simp [spec_DancedFrom.j0] at h, fun _ _ _ _ r h => by simp [spec_DancedFrom.l0] at h⟩
 | k + 1 => (spec_DancedFrom.mono_t k (spec_DancedFrom.mono_l k)).1
theorem spec_DancedFrom.mono a0 a1 a2 k : LeO (spec_DancedFrom.f k a0 a1 a2) (spec_DancedFrom.f (k + 1) a0 a1 a2) := (spec_DancedFrom.mono_t k (spec_DancedFrom.mono_l k)).2 a0 a1 a2
def spec_DancedFrom.T7 : Bool × List (List Nat × List Nat) := (true, [([], []), ([], []), ([], []), ([1, 2], [1, 2]), ([0, 3], [0, 3]), ([4], [4]), ([5], [5]), ([5], [5]), ([], []), ([8, 6, 4, 0, 1, 2, 3, 4, 5, 6, 8], [6, 8]), ([7, 9, 0, 1, 2, 3, 4, 5, 6, 7, 8, 9], [7])])
def spec_DancedFrom.B7 : List Nat := [0, 0, 0, 6, 15, 31, 63, 63, 0, 383, 1023]
theorem spec_DancedFrom.tab7 : rtab .any (opsOf f106 7) = spec_DancedFrom.T7 := by kernel_rfl
theorem spec_DancedFrom.bits7 : waitsOk spec_DancedFrom.T7.2 spec_DancedFrom.B7 = true := by kernel_rfl
theorem spec_DancedFrom.calls (k : Nat) (a0_0 : Int) (a0_1 : Int) (a1 : ByteArray) (r1 : Int) (r2 : Int) (r3 : Bool) (w : World) (H : spec_DancedFrom.f k a0_0 a0_1 a1 = some (r1, r2, r3)) :
  Calls prog 106 #[.agg #[.int .i64 a0_0, .int .i64 a0_1], .string a1] w fun e w' => e = .returned (.tuple #[.agg #[.int .i64 r1, .int .i64 r2], .bool r3]) ∧ Below w.heap.size w w' := by
 have hu31 := underlying31
 have HB := sqh w
 unfold spec_DancedFrom.f at H
 have HC3 := sqa H
 clear H
 go_enter func106, ntmps106
 go_upto_region 1 with (first | ((with_reducible refine sqd 2 rfl ?_); refine sqBx w (sqB HB) (cs := #[.int .i64 a0_0, .int .i64 a0_1]) (t := 31) ?_; intro g0 hg w4 B0 E0 HB hb; clear hb hg) | ((with_reducible refine sqd 4 rfl ?_); refine sqBx w (sqB1 HB E0) (cs := #[.int .i64 0, .int .i64 0]) (t := 31) ?_; intro g1 hg w5 B2 E1 HB hb; obtain ⟨N0, N1⟩ := sqM hg B0; replace B0 := sqT B0 hb; clear hb hg))
 (try simp only [Act.put, List.setIfInBounds_toArray, List.set_cons_zero, List.set_cons_succ])
 go_cut [17] (fun v17 wc => ∃ (kq : Nat) (x17_2 : Bool), v17 = .bool x17_2 ∧ Aside0 (spec_DancedFrom.j0 kq a1 x17_2 a0_0 a0_1 = some (r1, r2, r3)) ∧ Aside0 (kq ≤ k) ∧ Aside0 (wc.heap[g0]? = some (.cells #[.int .i64 a0_0, .int .i64 a0_1] 31 (0, 0))) ∧ Aside0 (wc.heap[g1]? = some (.cells #[.int .i64 0, .int .i64 0] 31 (0, 0))) ∧ Aside0 (Below w.heap.size w wc))
 case first =>
  have H := HC3.1
  clear HC3
  obtain ⟨t0, A6, H⟩ := sqD H
  by_cases c7 : t0 = true
  ·subst c7
   rw [if_pos rfl] at H
   obtain ⟨t1, A8, H⟩ := sqD H
   have H' := sqa H
   clear H
   go_wp2_with (first | ((with_reducible refine sqc 134 rfl ?_); refine sqC (some 11) func134 #[.string a1] ?_; (with_reducible refine (spec_DanceOk.calls k a1 true _ A6.1).mono ?_); rintro e w' ⟨rfl, ⟨nd, rfl⟩⟩; refine ⟨_, rfl, ?_⟩; have := N0.1; have := N1.1; obtain ⟨_, _, _, _⟩ := sqY2 B0) | (go_at_call 77; (with_reducible refine (spec_FractionOk.calls k a0_0 a0_1 t1 _ A8.1).mono ?_); rintro e w11 ⟨rfl, hb⟩; replace B0 := sqT B0 hb; replace B2 := sqT B2 hb; replace HB := sqS (sqB2 HB E0 E1) hb; (try clear hb)))
   go_meet
   case rel => exact ⟨_, (!t1), Z4, H', ⟨Z5⟩, ⟨sqK B0⟩, ⟨sqK B2⟩, ⟨sqB2 HB E0 E1⟩⟩
  obtain rfl := sqb c7
  rw [if_neg sqF] at H
  have H' := sqa H
  clear H
  go_wp2_with (first | ((with_reducible refine sqc 134 rfl ?_); refine sqC (some 11) func134 #[.string a1] ?_; (with_reducible refine (spec_DanceOk.calls k a1 false _ A6.1).mono ?_); rintro e w' ⟨rfl, ⟨nd, rfl⟩⟩; refine ⟨_, rfl, ?_⟩))
  go_meet
  case rel => exact ⟨_, (true), Z4, H', ⟨Z5⟩, ⟨sqK B0⟩, ⟨sqK B2⟩, ⟨sqB2 HB E0 E1⟩⟩
 case rest =>
  clear HC3
  obtain ⟨kq, x17_2, rfl, HA, HJ2, B0, B2, HB⟩ := hcut
  cases kq with
  | zero => exact absurd HA.out (by simp [spec_DancedFrom.j0])
  | succ kj2 =>
   have H := HA.out
   clear HA
   simp only [spec_DancedFrom.j0] at H
   by_cases c12 : x17_2 = true
   ·subst c12
    rw [if_pos rfl] at H
    obtain ⟨rfl, rfl, rfl⟩ := sqO3 H
    have := N1.1
    have := N0.1
    obtain ⟨_, _, _, _⟩ := sqY2 B2
    go_wp2
    refine sqE g1 31 #[.int .i64 0, .int .i64 0] (Z54 B2) underlying31 ?_
    exact ⟨Z16, sqB2 HB E0 E1⟩
   obtain rfl := sqb c12
   rw [if_neg sqF] at H
   have H' := sqa H
   clear H
   have := N0.1
   have := N1.1
   obtain ⟨_, _, _, _⟩ := sqY2 B0
   go_wp2_with (first | ((with_reducible refine sqd 6 rfl ?_); refine sqBx w (sqB2 HB E0 E1) (cs := #[.int .i64 0, .int .i64 0]) (t := 31) ?_; intro g2 hg w17 B9 E2 HB hb; obtain ⟨N2, N3⟩ := sqM hg B0; replace B0 := sqT B0 hb; obtain ⟨N4, N5⟩ := sqM hg B2; replace B2 := sqT B2 hb; clear hb hg; have := N3.1; have := N2.1; have := N5.1; have := N4.1; obtain ⟨_, _, _, _⟩ := sqY2 B9))
   go_loopg [7] kj2 (fun kq v7 w' => ∃ (x7_2 : Int) (x0 : Int) (x1 : Int) (x2 : Int) (x3 : Int), v7 = .int .i64 x7_2 ∧ Aside0 (spec_DancedFrom.l0 kq a1 x7_2 x2 x3 = some (r1, r2, r3)) ∧ Aside0 (kq ≤ kj2) ∧ Aside0 (w'.heap[g0]? = some (.cells #[.int .i64 a0_0, .int .i64 a0_1] 31 (0, 0))) ∧ Aside0 (w'.heap[g1]? = some (.cells #[.int .i64 x0, .int .i64 x1] 31 (0, 0))) ∧ Aside0 (w'.heap[g2]? = some (.cells #[.int .i64 x2, .int .i64 x3] 31 (0, 0))) ∧ Aside0 (Below w.heap.size w w'))
   case atStart => exact ⟨(0), (0), (0), (a0_0), (a0_1), Z4, H', ⟨Nat.le_refl _⟩, ⟨Z11 N2 B0⟩, ⟨Z11 N4 B2⟩, ⟨Z27 B9⟩, ⟨sqB3 HB E0 E1 E2⟩⟩
   case round =>
    clear H'
    obtain ⟨x7_2, x0, x1, x2, x3, rfl, HA, HK2, B0, B2, B9, HB⟩ := hrel
    cases gk with
    | zero => exact absurd HA.out (by simp [spec_DancedFrom.l0])
    | succ k2 =>
     have H := HA.out
     clear HA
     simp only [spec_DancedFrom.l0] at H
     by_cases c21 : x7_2 < (a1.size : Int)
     ·rw [if_pos c21] at H
      have c21b0 : decide (x7_2 < (a1.size : Int)) = true := decide_eq_true c21
      clear c21
      obtain ⟨c22, H⟩ := sqI H
      have c22b0 : decide (0 ≤ x7_2) = true := decide_eq_true c22
      clear c22
      obtain ⟨⟨t2, t3, t4⟩, A24, H⟩ := sqD H
      try dsimp only at H
      by_cases c25 : t4 = true
      ·subst c25
       rw [if_pos rfl] at H
       have H' := sqa H
       clear H
       try go_wp2
       replace B0 := sqa (blk_drew B0.1)
       replace B2 := sqa (blk_drew B2.1)
       replace B9 := sqa (blk_drew B9.1)
       replace HB := sqa (below_drew1 HB.1)
       have p23 : 0 ≤ (x7_2 : Int) := of_decide_eq_true Z9
       have q23 : x7_2 < (a1.size : Int) := of_decide_eq_true Z9
       have hx23 := bt_at a1 x7_2
       replace p23 := eq_true p23
       replace q23 := eq_true q23
       refine start_ (n := 11) (S := fun w' => w'.cell? ⟨g2, 0, none⟩ = some (.int .i64 x2) ∧ w'.cell? ⟨g2, 1, none⟩ = some (.int .i64 x3)) (ds := []) #[false, false, false, false, false, false, false, false, false, false, false] (by kernel_rfl) rfl rfl (sqk1 B9) (fun hHeld => ?_); refine with_tabW spec_DancedFrom.tab7 spec_DancedFrom.bits7 (fun HT_ HW_ => ?_)
       generalize wr.drew = w26 at B0 B2 B9 HB hHeld ⊢
       refine sqP 1 (some 28) (h := ?_)
       refine sqP 2 (some 29) (h := ?_)
       refine sqQ 0 (some 27) hHeld (h := ?_)
       refine sqQ 3 (some 30) hHeld (h := ?_)
       refine join_ (σ := Nat) 2 #[true, true, true, true, true, true, true, true, true, false, false] (fun s_ => [(31, .tuple #[.agg #[.int .i64 t2, .int .i64 t3], .bool true]), (8, .pointer (some ⟨s_, 0, none⟩)), (26, .tuple #[.agg #[.int .i64 t2, .int .i64 t3], .bool true]), (32, .agg #[.int .i64 t2, .int .i64 t3]), (33, .bool true)]) (fun s_ w' => (w'.cell? ⟨g2, 0, none⟩ = some (.int .i64 x2) ∧ w'.cell? ⟨g2, 1, none⟩ = some (.int .i64 x3)) ∧ (w'.heap[g0]? = some (.cells #[.int .i64 a0_0, .int .i64 a0_1] 31 (0, 0))) ∧ (w'.heap[g1]? = some (.cells #[.int .i64 x0, .int .i64 x1] 31 (0, 0))) ∧ (w'.heap[g2]? = some (.cells #[.int .i64 x2, .int .i64 x3] 31 (0, 0))) ∧ (w'.heap[s_]? = some (.cells #[.int .i64 0, .int .i64 0] 31 (0, 0))) ∧ (w.heap.size ≤ s_) ∧ (w.heap.size ≤ s_) ∧ (g0 ≠ s_) ∧ (s_ ≠ g0) ∧ (g1 ≠ s_) ∧ (s_ ≠ g1) ∧ (g2 ≠ s_) ∧ (s_ ≠ g2) ∧ (Below w.heap.size w w')) ?_ ?_
       rotate_left
       ·intro hCont
        refine two_ (i := 4) (j := 8) (Ni := some 31) (Nj := some 8) #[true, true, true, true, true, false, false, false, false, false, false] #[true, true, true, true, false, false, false, false, true, false, false] rfl rfl rfl rfl (two_of HT_.out (by kernel_rfl)) (by decide) (by decide) (fun K hK => ?_) (fun K hK => ?_)
        ·skip
         refine goes_ func135 (by kernel_rfl) rfl #[.agg #[.int .i64 x2, .int .i64 x3], .int .u8 (bt a1 x7_2)] (by rfl) rfl rfl sqA ?_
         with_reducible refine (spec_l2Move.calls k2 x2 x3 (bt a1 x7_2) t2 t3 true _ A24.1).mono ?_
         rintro e w27 ⟨rfl, hb⟩
         refine ⟨_, rfl, ?_⟩
         replace B0 := sqT B0 hb
         replace B2 := sqT B2 hb
         replace B9 := sqT B9 hb
         replace HB := sqS (sqB3 HB E0 E1 E2) hb
         (try clear hb)
         (try clear hb2)
         (try clear hk)
         (try clear hi)
         refine hK.out _ _ (sqk1 B9) (fun hHeld => ?_)
         clear hK K
         refine sqN (some 31) ?_
         refine sqP 5 (some 26) (h := ?_)
         refine sqP 6 (some 32) (h := ?_)
         refine sqP 7 (some 33) (h := ?_)
         refine one_ (i := 8) (N := some 8) #[true, true, true, true, true, true, true, true, true, false, false] rfl rfl (one_of HT_.out (by kernel_rfl)) (by decide) (fun K hK => ?_)
         refine box_step ?hg (N := 8) ?hd (cs := #[.int .i64 0, .int .i64 0]) (t := 31) ?hr ?_; (case hd => rfl); (case hg => rfl); (case hr => exact Z10)
         intro g3 hg w28 hbox hb
         have B10 := sqa (hbox)
         have GW0 := sqa ((sqG hg (sqB3 HB E0 E1 E2)))
         have E3 := sqa ((sqG hg (sqB3 HB E0 E1 E2)))
         replace HB := sqS (sqB3 HB E0 E1 E2) hb
         obtain ⟨N6, N7⟩ := sqM hg B0
         replace B0 := sqT B0 hb
         obtain ⟨N8, N9⟩ := sqM hg B2
         replace B2 := sqT B2 hb
         obtain ⟨N10, N11⟩ := sqM hg B9
         replace B9 := sqT B9 hb
         clear hb hbox hg
         refine hK.out _ _ (sqk1 B9) (fun hHeld => ?_)
         clear hK K
         refine sqN (some 8) ?_
         exact norm_ Z42 (hCont (g3) _ ⟨hHeld, (sqK B0), (sqK B2), (sqK B9), (sqK B10), GW0.1, E3.1, N6.1, N7.1, N8.1, N9.1, N10.1, N11.1, (sqB4 HB E0 E1 E2 E3)⟩)
        ·skip
         refine box_step ?hg (N := 8) ?hd (cs := #[.int .i64 0, .int .i64 0]) (t := 31) ?hr ?_; (case hd => rfl); (case hg => rfl); (case hr => exact Z10)
         intro g3 hg w27 hbox hb
         have B10 := sqa (hbox)
         have GW0 := sqa ((sqG hg (sqB3 HB E0 E1 E2)))
         have E3 := sqa ((sqG hg (sqB3 HB E0 E1 E2)))
         replace HB := sqS (sqB3 HB E0 E1 E2) hb
         obtain ⟨N6, N7⟩ := sqM hg B0
         replace B0 := sqT B0 hb
         obtain ⟨N8, N9⟩ := sqM hg B2
         replace B2 := sqT B2 hb
         obtain ⟨N10, N11⟩ := sqM hg B9
         replace B9 := sqT B9 hb
         clear hb hbox hg
         refine hK.out _ _ (sqk1 B9) (fun hHeld => ?_)
         clear hK K
         refine sqN (some 8) ?_
         refine one_ (i := 4) (N := some 31) #[true, true, true, true, true, false, false, false, true, false, false] rfl rfl (one_of HT_.out (by kernel_rfl)) (by decide) (fun K hK => ?_)
         refine goes_ func135 (by kernel_rfl) rfl #[.agg #[.int .i64 x2, .int .i64 x3], .int .u8 (bt a1 x7_2)] (by rfl) rfl rfl sqA ?_
         with_reducible refine (spec_l2Move.calls k2 x2 x3 (bt a1 x7_2) t2 t3 true _ A24.1).mono ?_
         rintro e w28 ⟨rfl, hb⟩
         refine ⟨_, rfl, ?_⟩
         replace B0 := sqT B0 hb
         replace B2 := sqT B2 hb
         replace B9 := sqT B9 hb
         replace B10 := sqT B10 hb
         replace HB := sqS (sqB4 HB E0 E1 E2 E3) hb
         (try clear hb)
         (try clear hb2)
         (try clear hk)
         (try clear hi)
         refine hK.out _ _ (sqk1 B9) (fun hHeld => ?_)
         clear hK K
         refine sqN (some 31) ?_
         refine sqP 5 (some 26) (h := ?_)
         refine sqP 6 (some 32) (h := ?_)
         refine sqP 7 (some 33) (h := ?_)
         exact norm_ Z42 (hCont (g3) _ ⟨hHeld, (sqK B0), (sqK B2), (sqK B9), (sqK B10), GW0.1, E3.1, N6.1, N7.1, N8.1, N9.1, N10.1, N11.1, (sqB4 HB E0 E1 E2 E3)⟩)
       rintro g3 w29 ⟨hS_, h0_, h1_, h2_, h3_, h4_, h5_, h6_, h7_, h8_, h9_, h10_, h11_, h12_⟩
       replace B0 := sqa h0_
       replace B2 := sqa h1_
       replace B9 := sqa h2_
       replace B10 := sqa h3_
       replace GW0 := sqa h4_
       replace E3 := sqa h5_
       replace N6 := sqa h6_
       replace N7 := sqa h7_
       replace N8 := sqa h8_
       replace N9 := sqa h9_
       replace N10 := sqa h10_
       replace N11 := sqa h11_
       replace HB := sqa h12_
       clear h0_ h1_ h2_ h3_ h4_ h5_ h6_ h7_ h8_ h9_ h10_ h11_ h12_
       have hHeld : w29.cell? ⟨g2, 0, none⟩ = some (.int .i64 x2) ∧ w29.cell? ⟨g2, 1, none⟩ = some (.int .i64 x3) := hS_
       refine norm_ (a' := ?_) ?_ ?_
       rotate_left
       ·simp only [putAll, Act.put, List.setIfInBounds_toArray, List.set_cons_zero, List.set_cons_succ]
        rfl
       refine one_ (i := 9) (N := none) #[true, true, true, true, true, true, true, true, true, true, false] rfl rfl (one_of HT_.out (by kernel_rfl)) (by decide) (fun K hK => ?_)
       have hs30 : w29.cell? ⟨g3, 0, none⟩ = some (.int .i64 0) := (blk_cell B10.1 0).trans rfl
       have hfs30 := blk_frozen B10.1 0
       have hns30_0 := N6.1
       have hns30_1 := N8.1
       have hns30_2 := N10.1
       have hms30_0 := N7.1
       have hms30_1 := N9.1
       have hms30_2 := N11.1
       have hs31 : w29.cell? ⟨g3, 1, none⟩ = some (.int .i64 0) := (blk_cell B10.1 1).trans rfl
       have hfs31 := blk_frozen B10.1 1
       refine skip_ (w1 := ?_) (by rfl) rfl ?_ ?_
       rotate_left
       ·go_simp
        rfl
       refine hK.out _ _ (sql1 N10 hHeld) (fun hHeld => ?_)
       clear hK K
       refine sqP 10 (some 9) (h := ?_)
       refine done_ (done_of HT_.out (by kernel_rfl)) ?_
       have := N7.1
       have := N6.1
       have := N9.1
       have := N8.1
       have := N11.1
       have := N10.1
       obtain ⟨_, _, _, _⟩ := sqY2 B10
       have := N3.1
       have := N2.1
       have := N5.1
       have := N4.1
       obtain ⟨_, _, _, _⟩ := sqY2 B9
       try go_wp2
       go_roundg k2
       case measure => have := HJ2.out; have := HK2.out; omega
       case rel => exact ⟨(wrap64 (x7_2 + 1)), (x0), (x1), (t2), (t3), Z4, H', ⟨Z49 HK2⟩, ⟨by refine sqFar ?_ N2; refine sqFar ?_ N2; refine sqFar ?_ N6; refine sqFar ?_ N6; exact sqK B0⟩, ⟨by refine sqFar ?_ N4; refine sqFar ?_ N4; refine sqFar ?_ N8; refine sqFar ?_ N8; exact sqK B2⟩, ⟨by refine sqPut (cs := #[.int .i64 t2, .int .i64 x3]) ?_ 1; refine sqPut (cs := #[.int .i64 x2, .int .i64 x3]) ?_ 0; refine sqFar ?_ N10; refine sqFar ?_ N10; exact sqK B9⟩, ⟨sqB4 HB E0 E1 E2 E3⟩⟩
      obtain rfl := sqb c25
      rw [if_neg sqF] at H
      obtain ⟨rfl, rfl, rfl⟩ := sqO3 H
      try go_wp2
      replace B0 := sqa (blk_drew B0.1)
      replace B2 := sqa (blk_drew B2.1)
      replace B9 := sqa (blk_drew B9.1)
      replace HB := sqa (below_drew1 HB.1)
      have p23 : 0 ≤ (x7_2 : Int) := of_decide_eq_true Z9
      have q23 : x7_2 < (a1.size : Int) := of_decide_eq_true Z9
      have hx23 := bt_at a1 x7_2
      replace p23 := eq_true p23
      replace q23 := eq_true q23
      refine start_ (n := 11) (S := fun w' => w'.cell? ⟨g2, 0, none⟩ = some (.int .i64 x2) ∧ w'.cell? ⟨g2, 1, none⟩ = some (.int .i64 x3)) (ds := []) #[false, false, false, false, false, false, false, false, false, false, false] (by kernel_rfl) rfl rfl (sqk1 B9) (fun hHeld => ?_); refine with_tabW spec_DancedFrom.tab7 spec_DancedFrom.bits7 (fun HT_ HW_ => ?_)
      generalize wr.drew = w39 at B0 B2 B9 HB hHeld ⊢
      refine sqP 1 (some 28) (h := ?_)
      refine sqP 2 (some 29) (h := ?_)
      refine sqQ 0 (some 27) hHeld (h := ?_)
      refine sqQ 3 (some 30) hHeld (h := ?_)
      refine join_ (σ := Nat) 2 #[true, true, true, true, true, true, true, true, true, false, false] (fun s_ => [(31, .tuple #[.agg #[.int .i64 t2, .int .i64 t3], .bool false]), (8, .pointer (some ⟨s_, 0, none⟩)), (26, .tuple #[.agg #[.int .i64 t2, .int .i64 t3], .bool false]), (32, .agg #[.int .i64 t2, .int .i64 t3]), (33, .bool false)]) (fun s_ w' => (w'.cell? ⟨g2, 0, none⟩ = some (.int .i64 x2) ∧ w'.cell? ⟨g2, 1, none⟩ = some (.int .i64 x3)) ∧ (w'.heap[g0]? = some (.cells #[.int .i64 a0_0, .int .i64 a0_1] 31 (0, 0))) ∧ (w'.heap[g1]? = some (.cells #[.int .i64 x0, .int .i64 x1] 31 (0, 0))) ∧ (w'.heap[g2]? = some (.cells #[.int .i64 x2, .int .i64 x3] 31 (0, 0))) ∧ (w'.heap[s_]? = some (.cells #[.int .i64 0, .int .i64 0] 31 (0, 0))) ∧ (w.heap.size ≤ s_) ∧ (w.heap.size ≤ s_) ∧ (g0 ≠ s_) ∧ (s_ ≠ g0) ∧ (g1 ≠ s_) ∧ (s_ ≠ g1) ∧ (g2 ≠ s_) ∧ (s_ ≠ g2) ∧ (Below w.heap.size w w')) ?_ ?_
      rotate_left
      ·intro hCont
       refine two_ (i := 4) (j := 8) (Ni := some 31) (Nj := some 8) #[true, true, true, true, true, false, false, false, false, false, false] #[true, true, true, true, false, false, false, false, true, false, false] rfl rfl rfl rfl (two_of HT_.out (by kernel_rfl)) (by decide) (by decide) (fun K hK => ?_) (fun K hK => ?_)
       ·skip
        refine goes_ func135 (by kernel_rfl) rfl #[.agg #[.int .i64 x2, .int .i64 x3], .int .u8 (bt a1 x7_2)] (by rfl) rfl rfl sqA ?_
        with_reducible refine (spec_l2Move.calls k2 x2 x3 (bt a1 x7_2) t2 t3 false _ A24.1).mono ?_
        rintro e w40 ⟨rfl, hb⟩
        refine ⟨_, rfl, ?_⟩
        replace B0 := sqT B0 hb
        replace B2 := sqT B2 hb
        replace B9 := sqT B9 hb
        replace HB := sqS (sqB3 HB E0 E1 E2) hb
        (try clear hb)
        (try clear hb2)
        (try clear hk)
        (try clear hi)
        refine hK.out _ _ (sqk1 B9) (fun hHeld => ?_)
        clear hK K
        refine sqN (some 31) ?_
        refine sqP 5 (some 26) (h := ?_)
        refine sqP 6 (some 32) (h := ?_)
        refine sqP 7 (some 33) (h := ?_)
        refine one_ (i := 8) (N := some 8) #[true, true, true, true, true, true, true, true, true, false, false] rfl rfl (one_of HT_.out (by kernel_rfl)) (by decide) (fun K hK => ?_)
        refine box_step ?hg (N := 8) ?hd (cs := #[.int .i64 0, .int .i64 0]) (t := 31) ?hr ?_; (case hd => rfl); (case hg => rfl); (case hr => exact Z10)
        intro g3 hg w41 hbox hb
        have B10 := sqa (hbox)
        have GW0 := sqa ((sqG hg (sqB3 HB E0 E1 E2)))
        have E3 := sqa ((sqG hg (sqB3 HB E0 E1 E2)))
        replace HB := sqS (sqB3 HB E0 E1 E2) hb
        obtain ⟨N6, N7⟩ := sqM hg B0
        replace B0 := sqT B0 hb
        obtain ⟨N8, N9⟩ := sqM hg B2
        replace B2 := sqT B2 hb
        obtain ⟨N10, N11⟩ := sqM hg B9
        replace B9 := sqT B9 hb
        clear hb hbox hg
        refine hK.out _ _ (sqk1 B9) (fun hHeld => ?_)
        clear hK K
        refine sqN (some 8) ?_
        exact norm_ Z42 (hCont (g3) _ ⟨hHeld, (sqK B0), (sqK B2), (sqK B9), (sqK B10), GW0.1, E3.1, N6.1, N7.1, N8.1, N9.1, N10.1, N11.1, (sqB4 HB E0 E1 E2 E3)⟩)
       ·skip
        refine box_step ?hg (N := 8) ?hd (cs := #[.int .i64 0, .int .i64 0]) (t := 31) ?hr ?_; (case hd => rfl); (case hg => rfl); (case hr => exact Z10)
        intro g3 hg w40 hbox hb
        have B10 := sqa (hbox)
        have GW0 := sqa ((sqG hg (sqB3 HB E0 E1 E2)))
        have E3 := sqa ((sqG hg (sqB3 HB E0 E1 E2)))
        replace HB := sqS (sqB3 HB E0 E1 E2) hb
        obtain ⟨N6, N7⟩ := sqM hg B0
        replace B0 := sqT B0 hb
        obtain ⟨N8, N9⟩ := sqM hg B2
        replace B2 := sqT B2 hb
        obtain ⟨N10, N11⟩ := sqM hg B9
        replace B9 := sqT B9 hb
        clear hb hbox hg
        refine hK.out _ _ (sqk1 B9) (fun hHeld => ?_)
        clear hK K
        refine sqN (some 8) ?_
        refine one_ (i := 4) (N := some 31) #[true, true, true, true, true, false, false, false, true, false, false] rfl rfl (one_of HT_.out (by kernel_rfl)) (by decide) (fun K hK => ?_)
        refine goes_ func135 (by kernel_rfl) rfl #[.agg #[.int .i64 x2, .int .i64 x3], .int .u8 (bt a1 x7_2)] (by rfl) rfl rfl sqA ?_
        with_reducible refine (spec_l2Move.calls k2 x2 x3 (bt a1 x7_2) t2 t3 false _ A24.1).mono ?_
        rintro e w41 ⟨rfl, hb⟩
        refine ⟨_, rfl, ?_⟩
        replace B0 := sqT B0 hb
        replace B2 := sqT B2 hb
        replace B9 := sqT B9 hb
        replace B10 := sqT B10 hb
        replace HB := sqS (sqB4 HB E0 E1 E2 E3) hb
        (try clear hb)
        (try clear hb2)
        (try clear hk)
        (try clear hi)
        refine hK.out _ _ (sqk1 B9) (fun hHeld => ?_)
        clear hK K
        refine sqN (some 31) ?_
        refine sqP 5 (some 26) (h := ?_)
        refine sqP 6 (some 32) (h := ?_)
        refine sqP 7 (some 33) (h := ?_)
        exact norm_ Z42 (hCont (g3) _ ⟨hHeld, (sqK B0), (sqK B2), (sqK B9), (sqK B10), GW0.1, E3.1, N6.1, N7.1, N8.1, N9.1, N10.1, N11.1, (sqB4 HB E0 E1 E2 E3)⟩)
      rintro g3 w42 ⟨hS_, h0_, h1_, h2_, h3_, h4_, h5_, h6_, h7_, h8_, h9_, h10_, h11_, h12_⟩
      replace B0 := sqa h0_
      replace B2 := sqa h1_
      replace B9 := sqa h2_
      replace B10 := sqa h3_
      replace GW0 := sqa h4_
      replace E3 := sqa h5_
      replace N6 := sqa h6_
      replace N7 := sqa h7_
      replace N8 := sqa h8_
      replace N9 := sqa h9_
      replace N10 := sqa h10_
      replace N11 := sqa h11_
      replace HB := sqa h12_
      clear h0_ h1_ h2_ h3_ h4_ h5_ h6_ h7_ h8_ h9_ h10_ h11_ h12_
      have hHeld : w42.cell? ⟨g2, 0, none⟩ = some (.int .i64 x2) ∧ w42.cell? ⟨g2, 1, none⟩ = some (.int .i64 x3) := hS_
      refine norm_ (a' := ?_) ?_ ?_
      rotate_left
      ·simp only [putAll, Act.put, List.setIfInBounds_toArray, List.set_cons_zero, List.set_cons_succ]
       rfl
      refine one_ (i := 9) (N := none) #[true, true, true, true, true, true, true, true, true, true, false] rfl rfl (one_of HT_.out (by kernel_rfl)) (by decide) (fun K hK => ?_)
      have hs43 : w42.cell? ⟨g3, 0, none⟩ = some (.int .i64 0) := (blk_cell B10.1 0).trans rfl
      have hfs43 := blk_frozen B10.1 0
      have hns43_0 := N6.1
      have hns43_1 := N8.1
      have hns43_2 := N10.1
      have hms43_0 := N7.1
      have hms43_1 := N9.1
      have hms43_2 := N11.1
      have hs44 : w42.cell? ⟨g3, 1, none⟩ = some (.int .i64 0) := (blk_cell B10.1 1).trans rfl
      have hfs44 := blk_frozen B10.1 1
      refine skip_ (w1 := ?_) (by rfl) rfl ?_ ?_
      rotate_left
      ·go_simp
       rfl
      refine hK.out _ _ (sql1 N10 hHeld) (fun hHeld => ?_)
      clear hK K
      refine sqP 10 (some 9) (h := ?_)
      refine done_ (done_of HT_.out (by kernel_rfl)) ?_
      have := N1.1
      have := N0.1
      have := N4.1
      have := N5.1
      have := N8.1
      have := N9.1
      obtain ⟨_, _, _, _⟩ := sqY2 B2
      try go_wp2
      refine sqE g1 31 #[.int .i64 0, .int .i64 0] (by refine sqPut (cs := #[.int .i64 0, .int .i64 x1]) ?_ 1; refine sqPut (cs := #[.int .i64 x0, .int .i64 x1]) ?_ 0; refine sqFar ?_ N8; refine sqFar ?_ N8; exact sqK B2) underlying31 ?_
      exact ⟨Z16, sqB4 HB E0 E1 E2 E3⟩
     rw [if_neg c21] at H
     have c21b0 : decide (x7_2 < (a1.size : Int)) = false := decide_eq_false c21
     clear c21
     obtain ⟨rfl, rfl, rfl⟩ := sqO3 H
     have := N3.1
     have := N2.1
     have := N5.1
     have := N4.1
     obtain ⟨_, _, _, _⟩ := sqY2 B9
     have := N1.1
     have := N0.1
     obtain ⟨_, _, _, _⟩ := sqY2 B2
     go_wp2
     refine sqE g1 31 #[.int .i64 x2, .int .i64 x3] (by refine sqPut (cs := #[.int .i64 x2, .int .i64 x1]) ?_ 1; refine sqPut (cs := #[.int .i64 x0, .int .i64 x1]) ?_ 0; exact sqK B2) underlying31 ?_
     exact ⟨Z16, sqB3 HB E0 E1 E2⟩

end Go.Proofs.YtofmlbgfcohhoaaGreatDoor.PFnExactDeskSay
