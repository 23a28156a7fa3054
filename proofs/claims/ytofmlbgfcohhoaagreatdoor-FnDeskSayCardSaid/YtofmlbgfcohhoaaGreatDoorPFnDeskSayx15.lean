import Derived.Test.YtofmlbgfcohhoaaGreatDoorPFnDeskSayx14
set_option maxHeartbeats 8000000
set_option maxRecDepth 100000
namespace Go.Proofs.YtofmlbgfcohhoaaGreatDoor.PFnDeskSay
open Go.RowKit Go.Proofs.YtofmlbgfcohhoaaGreatDoorW.PrintWords Go.Proofs.YtofmlbgfcohhoaaGreatDoorW.PrintLast Go.Proofs.YtofmlbgfcohhoaaGreatDoorW.PrintMore Go.Proofs.YtofmlbgfcohhoaaGreatDoor.Lib Go.Proofs.Tryz
attribute [local go_sem] max2_int min2_int max_two min_two max_three min_three max_four min_four   -- for this text's walks alone
set_option linter.unusedVariables false
set_option linter.unusedSimpArgs false

mutual
def F11.j0 : Nat → ByteArray → Bool → Int → Int → Option (Int × Int × Bool)
 | 0, _, _, _, _ => none
 | k + 1, x1, x0, x2, x3 => if x0 = true then (some (0, 0, false)) else (F11.l0 k x1 0 x2 x3)
def F11.l0 : Nat → ByteArray → Int → Int → Int → Option (Int × Int × Bool)
 | 0, _, _, _, _ => none
 | k + 1, x1, x7, x0, x2 => if x7 < (x1.size : Int) then (if 0 ≤ x7 then ((F67.f k x0 x2 (bt x1 x7)).bind fun bt0 => (if bt0.2.2 = true then (F11.l0 k x1 (wrap64 (x7 + 1)) bt0.1 bt0.2.1) else (some (0, 0, false)))) else (none)) else (some (x0, x2, true))
end
def F11.f (k : Nat) (a0_0 : Int) (a0_1 : Int) (a1 : ByteArray) : Option (Int × Int × Bool) := (F26.f k a1).bind fun t0 => (if t0 = true then ((F0.f k a0_0 a0_1).bind fun t1 => (F11.j0 k a1 (!t1) a0_0 a0_1)) else (F11.j0 k a1 true a0_0 a0_1))
def F11.T7 : Bool × List (List Nat × List Nat) := (true, [([], []), ([], []), ([], []), ([1, 2], [1, 2]), ([0, 3], [0, 3]), ([4], [4]), ([5], [5]), ([5], [5]), ([], []), ([8, 6, 4, 0, 1, 2, 3, 4, 5, 6, 8], [6, 8]), ([7, 9, 0, 1, 2, 3, 4, 5, 6, 7, 8, 9], [7])])
def F11.B7 : List Nat := [0, 0, 0, 6, 15, 31, 63, 63, 0, 383, 1023]
theorem F11.tab7 : rtab .any (opsOf f106 7) = F11.T7 := by kernel_rfl
theorem F11.bits7 : waitsOk F11.T7.2 F11.B7 = true := by kernel_rfl
theorem F11.c (k : Nat) (a0_0 : Int) (a0_1 : Int) (a1 : ByteArray) (r1 : Int) (r2 : Int) (r3 : Bool) (w : World) (H : F11.f k a0_0 a0_1 a1 = some (r1, r2, r3)) :
  Calls prog 106 #[.agg #[.int .i64 a0_0, .int .i64 a0_1], .string a1] w fun e w' => e = .returned (.tuple #[.agg #[.int .i64 r1, .int .i64 r2], .bool r3]) ∧ Below w.heap.size w w' := by
 have hu31 := underlying31
 have HB := sqh w
 unfold F11.f at H
 have HC3 := sqa H
 clear H
 go_enter func106, ntmps106
 go_upto_region 1 with (first | ((with_reducible refine sqd 2 rfl ?_); refine sqx0 w (sqB HB) #[.int .i64 a0_0, .int .i64 a0_1] 31 fun g0 w4 B0 E0 HB => ?_) | ((with_reducible refine sqd 4 rfl ?_); refine sqx1 w (sqB1 HB E0) #[.int .i64 0, .int .i64 0] 31 B0 fun g1 w5 B2 E1 HB N0 N1 B0 => ?_))
 (try simp only [Act.put, List.setIfInBounds_toArray, List.set_cons_zero, List.set_cons_succ])
 go_cut [17] (fun v0 wc => ∃ (kq : Nat) (x0 : Bool), v0 = .bool x0 ∧ Aside0 (F11.j0 kq a1 x0 a0_0 a0_1 = some (r1, r2, r3)) ∧ Aside0 (kq ≤ k) ∧ Aside0 (wc.heap[g0]? = some (.cells #[.int .i64 a0_0, .int .i64 a0_1] 31 (0, 0))) ∧ Aside0 (wc.heap[g1]? = some (.cells #[.int .i64 0, .int .i64 0] 31 (0, 0))) ∧ Aside0 (Below w.heap.size w wc))
 case first =>
  have H := HC3.1
  clear HC3
  obtain ⟨t0, A6, H⟩ := sqD H
  obtain rfl | rfl := sqt t0
  ·rw [if_pos rfl] at H
   obtain ⟨t1, A8, H⟩ := sqD H
   have H' := sqa H
   clear H
   go_wp2_with (first | ((with_reducible refine sqc 134 rfl ?_); refine sqvd (some 11) func134 (F26.c k a1 true _ A6.1) fun nd => ?_; have := sqn2 N0 N1; have := sqY2 B0) | (go_at_call 77; (with_reducible refine (F0.c k a0_0 a0_1 t1 _ A8.1).mono ?_); rintro e w0 ⟨rfl, hb⟩; obtain ⟨B0, B2⟩ := sqT2 hb B0 B2; replace HB := sqS (sqB2 HB E0 E1) hb))
   go_meet
   case rel => exact ⟨_, (!t1), Z1, H', ⟨Z11⟩, ⟨sqK B0⟩, ⟨sqK B2⟩, ⟨sqB2 HB E0 E1⟩⟩
  rw [if_neg sqF] at H
  have H' := sqa H
  clear H
  go_wp2_with (first | ((with_reducible refine sqc 134 rfl ?_); refine sqvd (some 11) func134 (F26.c k a1 false _ A6.1) fun nd => ?_))
  go_meet
  case rel => exact ⟨_, (true), Z1, H', ⟨Z11⟩, ⟨sqK B0⟩, ⟨sqK B2⟩, ⟨sqB2 HB E0 E1⟩⟩
 case rest =>
  clear HC3
  obtain ⟨kq, x0, rfl, HA, HJ2, B0, B2, HB⟩ := hcut
  cases kq with
  | zero => exact absurd HA.out (by simp [F11.j0])
  | succ kj2 =>
   have H := HA.out
   clear HA
   simp only [F11.j0] at H
   obtain rfl | rfl := sqt x0
   ·rw [if_pos rfl] at H
    obtain ⟨rfl, rfl, rfl⟩ := sqO3 H
    have := sqn2 N1 N0
    have := sqY2 B2
    go_wp2
    refine sqE g1 31 #[.int .i64 0, .int .i64 0] (Z12 B2) underlying31 ?_
    exact ⟨Z5, sqB2 HB E0 E1⟩
   rw [if_neg sqF] at H
   have H' := sqa H
   clear H
   have := sqn2 N0 N1
   have := sqY2 B0
   go_wp2_with (first | ((with_reducible refine sqd 6 rfl ?_); refine sqx w (sqB2 HB E0 E1) #[.int .i64 0, .int .i64 0] 31 fun g2 hg w2 B9 E2 HB hb => ?_; obtain ⟨N2, N3⟩ := sqM hg B0; replace B0 := sqT B0 hb; obtain ⟨N4, N5⟩ := sqM hg B2; replace B2 := sqT B2 hb; clear hb hg; have := sqn4 N3 N2 N5 N4; have := sqY2 B9))
   go_loopg [7] kj2 (fun kq v7 w' => ∃ (x7_2 : Int) (x1 : Int) (x2 : Int) (x3 : Int) (x4 : Int), v7 = .int .i64 x7_2 ∧ Aside0 (F11.l0 kq a1 x7_2 x3 x4 = some (r1, r2, r3)) ∧ Aside0 (kq ≤ kj2) ∧ Aside0 (w'.heap[g0]? = some (.cells #[.int .i64 a0_0, .int .i64 a0_1] 31 (0, 0))) ∧ Aside0 (w'.heap[g1]? = some (.cells #[.int .i64 x1, .int .i64 x2] 31 (0, 0))) ∧ Aside0 (w'.heap[g2]? = some (.cells #[.int .i64 x3, .int .i64 x4] 31 (0, 0))) ∧ Aside0 (Below w.heap.size w w'))
   case atStart => exact ⟨(0), (0), (0), (a0_0), (a0_1), Z1, H', ⟨Nat.le_refl _⟩, ⟨Z9 N2 B0⟩, ⟨Z9 N4 B2⟩, ⟨Z4 B9⟩, ⟨sqB3 HB E0 E1 E2⟩⟩
   case round =>
    clear H'
    obtain ⟨x7_2, x1, x2, x3, x4, rfl, HA, HK2, B0, B2, B9, HB⟩ := hrel
    cases gk with
    | zero => exact absurd HA.out (by simp [F11.l0])
    | succ k2 =>
     have H := HA.out
     clear HA
     simp only [F11.l0] at H
     obtain ⟨c1, H⟩ | ⟨c1, H⟩ := sqi3 H
     ·obtain ⟨c3, H⟩ := sqJ2 H
      obtain ⟨⟨t2, t3, t4⟩, A0, H⟩ := sqD H
      try dsimp only at H
      obtain rfl | rfl := sqt t4
      ·rw [if_pos rfl] at H
       have H' := sqa H
       clear H
       try go_wp2
       replace B0 := sqa (blk_drew B0.1)
       replace B2 := sqa (blk_drew B2.1)
       replace B9 := sqa (blk_drew B9.1)
       replace HB := sqa (below_drew1 HB.1)
       have p0 : 0 ≤ (x7_2 : Int) := of_decide_eq_true Z16
       have q0 : x7_2 < (a1.size : Int) := of_decide_eq_true Z16
       have hx0 := bt_at a1 x7_2
       replace p0 := eq_true p0
       replace q0 := eq_true q0
       refine start_ (n := 11) (S := fun w' => w'.cell? ⟨g2, 0, none⟩ = some (.int .i64 x3) ∧ w'.cell? ⟨g2, 1, none⟩ = some (.int .i64 x4)) (ds := []) #[false, false, false, false, false, false, false, false, false, false, false] (by kernel_rfl) rfl rfl (sqk1 B9) (fun hHeld => ?_); refine with_tabW F11.tab7 F11.bits7 (fun HT_ HW_ => ?_)
       generalize wr.drew = w3 at B0 B2 B9 HB hHeld ⊢
       refine sqP 1 (some 28) (h := ?_)
       refine sqP 2 (some 29) (h := ?_)
       refine sqQ 0 (some 27) hHeld (h := ?_)
       refine sqQ 3 (some 30) hHeld (h := ?_)
       refine join_ (σ := Nat) 2 #[true, true, true, true, true, true, true, true, true, false, false] (fun s_ => [(31, .tuple #[.agg #[.int .i64 t2, .int .i64 t3], .bool true]), (8, .pointer (some ⟨s_, 0, none⟩)), (26, .tuple #[.agg #[.int .i64 t2, .int .i64 t3], .bool true]), (32, .agg #[.int .i64 t2, .int .i64 t3]), (33, .bool true)]) (fun s_ w' => (w'.cell? ⟨g2, 0, none⟩ = some (.int .i64 x3) ∧ w'.cell? ⟨g2, 1, none⟩ = some (.int .i64 x4)) ∧ (w'.heap[g0]? = some (.cells #[.int .i64 a0_0, .int .i64 a0_1] 31 (0, 0))) ∧ (w'.heap[g1]? = some (.cells #[.int .i64 x1, .int .i64 x2] 31 (0, 0))) ∧ (w'.heap[g2]? = some (.cells #[.int .i64 x3, .int .i64 x4] 31 (0, 0))) ∧ (w'.heap[s_]? = some (.cells #[.int .i64 0, .int .i64 0] 31 (0, 0))) ∧ (w.heap.size ≤ s_) ∧ (w.heap.size ≤ s_) ∧ (g0 ≠ s_) ∧ (s_ ≠ g0) ∧ (g1 ≠ s_) ∧ (s_ ≠ g1) ∧ (g2 ≠ s_) ∧ (s_ ≠ g2) ∧ (Below w.heap.size w w')) ?_ ?_
       rotate_left
       ·intro hCont
        refine two_ (i := 4) (j := 8) (Ni := some 31) (Nj := some 8) #[true, true, true, true, true, false, false, false, false, false, false] #[true, true, true, true, false, false, false, false, true, false, false] rfl rfl rfl rfl (two_of HT_.out (by kernel_rfl)) (by decide) (by decide) (fun K hK => ?_) (fun K hK => ?_)
        ·skip
         refine sqg func135 #[.agg #[.int .i64 x3, .int .i64 x4], .int .u8 (bt a1 x7_2)] ?_
         with_reducible refine (F67.c k2 x3 x4 (bt a1 x7_2) t2 t3 true _ A0.1).mono ?_
         rintro e w6 ⟨rfl, hb⟩
         refine ⟨_, rfl, ?_⟩
         replace B0 := sqT B0 hb
         replace B2 := sqT B2 hb
         replace B9 := sqT B9 hb
         replace HB := sqS (sqB3 HB E0 E1 E2) hb
         refine hK.out _ _ (sqk1 B9) (fun hHeld => ?_)
         clear hK K
         refine sqN (some 31) ?_
         refine sqP 5 (some 26) (h := ?_)
         refine sqP 6 (some 32) (h := ?_)
         refine sqP 7 (some 33) (h := ?_)
         refine sq1 8 (some 8) (h := fun K hK => ?_)
         refine box_step ?hg (N := 8) ?hd (cs := #[.int .i64 0, .int .i64 0]) (t := 31) ?hr ?_; (case hd => rfl); (case hg => rfl); (case hr => exact Z17)
         intro g3 hg w7 hbox hb
         have B10 := sqa (hbox)
         have GW0 := sqa ((sqG hg (sqB3 HB E0 E1 E2)))
         have E3 := sqa ((sqG hg (sqB3 HB E0 E1 E2)))
         replace HB := sqS (sqB3 HB E0 E1 E2) hb
         obtain ⟨N6, N7⟩ := sqM hg B0
         replace B0 := sqT B0 hb
         obtain ⟨N8, N9⟩ := sqM hg B2
         replace B2 := sqT B2 hb
         obtain ⟨N10, N11⟩ := sqM hg B9
         replace B9 := sqT B9 hb
         clear hb hbox hg
         refine hK.out _ _ (sqk1 B9) (fun hHeld => ?_)
         clear hK K
         refine sqN (some 8) ?_
         exact norm_ Z20 (hCont (g3) _ ⟨hHeld, (sqK B0), (sqK B2), (sqK B9), (sqK B10), GW0.1, E3.1, N6.1, N7.1, N8.1, N9.1, N10.1, N11.1, (sqB4 HB E0 E1 E2 E3)⟩)
        ·skip
         refine box_step ?hg (N := 8) ?hd (cs := #[.int .i64 0, .int .i64 0]) (t := 31) ?hr ?_; (case hd => rfl); (case hg => rfl); (case hr => exact Z17)
         intro g3 hg w6 hbox hb
         have B10 := sqa (hbox)
         have GW0 := sqa ((sqG hg (sqB3 HB E0 E1 E2)))
         have E3 := sqa ((sqG hg (sqB3 HB E0 E1 E2)))
         replace HB := sqS (sqB3 HB E0 E1 E2) hb
         obtain ⟨N6, N7⟩ := sqM hg B0
         replace B0 := sqT B0 hb
         obtain ⟨N8, N9⟩ := sqM hg B2
         replace B2 := sqT B2 hb
         obtain ⟨N10, N11⟩ := sqM hg B9
         replace B9 := sqT B9 hb
         clear hb hbox hg
         refine hK.out _ _ (sqk1 B9) (fun hHeld => ?_)
         clear hK K
         refine sqN (some 8) ?_
         refine sq1 4 (some 31) (h := fun K hK => ?_)
         refine sqg func135 #[.agg #[.int .i64 x3, .int .i64 x4], .int .u8 (bt a1 x7_2)] ?_
         with_reducible refine (F67.c k2 x3 x4 (bt a1 x7_2) t2 t3 true _ A0.1).mono ?_
         rintro e w7 ⟨rfl, hb⟩
         refine ⟨_, rfl, ?_⟩
         replace B0 := sqT B0 hb
         replace B2 := sqT B2 hb
         replace B9 := sqT B9 hb
         replace B10 := sqT B10 hb
         replace HB := sqS (sqB4 HB E0 E1 E2 E3) hb
         refine hK.out _ _ (sqk1 B9) (fun hHeld => ?_)
         clear hK K
         refine sqN (some 31) ?_
         refine sqP 5 (some 26) (h := ?_)
         refine sqP 6 (some 32) (h := ?_)
         refine sqP 7 (some 33) (h := ?_)
         exact norm_ Z20 (hCont (g3) _ ⟨hHeld, (sqK B0), (sqK B2), (sqK B9), (sqK B10), GW0.1, E3.1, N6.1, N7.1, N8.1, N9.1, N10.1, N11.1, (sqB4 HB E0 E1 E2 E3)⟩)
       rintro g3 w8 ⟨hS_, h0_, h1_, h2_, h3_, h4_, h5_, h6_, h7_, h8_, h9_, h0, h1, h2⟩
       replace B0 := sqa h0_
       replace B2 := sqa h1_
       replace B9 := sqa h2_
       replace B10 := sqa h3_
       replace GW0 := sqa h4_
       replace E3 := sqa h5_
       replace N6 := sqa h6_
       replace N7 := sqa h7_
       replace N8 := sqa h8_
       replace N9 := sqa h9_
       replace N10 := sqa h0
       replace N11 := sqa h1
       replace HB := sqa h2
       clear h0_ h1_ h2_ h3_ h4_ h5_ h6_ h7_ h8_ h9_ h0 h1 h2
       have hHeld : w8.cell? ⟨g2, 0, none⟩ = some (.int .i64 x3) ∧ w8.cell? ⟨g2, 1, none⟩ = some (.int .i64 x4) := hS_
       refine norm_ (a' := ?_) ?_ ?_
       rotate_left
       ·simp only [putAll, Act.put, List.setIfInBounds_toArray, List.set_cons_zero, List.set_cons_succ]
        rfl
       refine sq1 9 none (h := fun K hK => ?_)
       have := sqY2 B10
       have := sqn6 N6 N8 N10 N7 N9 N11
       refine skip_ (w1 := ?_) (by rfl) rfl ?_ ?_
       rotate_left
       ·go_simp
        rfl
       refine hK.out _ _ (sql1 N10 hHeld) (fun hHeld => ?_)
       clear hK K
       refine sqP 10 (some 9) (h := ?_)
       refine done_ (done_of HT_.out (by kernel_rfl)) ?_
       have := sqn6 N7 N6 N9 N8 N11 N10
       have := sqY2 B10
       have := sqn4 N3 N2 N5 N4
       have := sqY2 B9
       try go_wp2
       go_roundg k2
       case measure => have := HJ2.out; have := HK2.out; omega
       case rel => exact ⟨(wrap64 (x7_2 + 1)), (x1), (x2), (t2), (t3), Z1, H', ⟨Z21 HK2⟩, ⟨by refine sqFar ?_ N2; refine sqFar ?_ N2; refine sqFar ?_ N6; refine sqFar ?_ N6; exact sqK B0⟩, ⟨by refine sqFar ?_ N4; refine sqFar ?_ N4; refine sqFar ?_ N8; refine sqFar ?_ N8; exact sqK B2⟩, ⟨by refine sqPut (cs := #[.int .i64 t2, .int .i64 x4]) ?_ 1; refine sqPut (cs := #[.int .i64 x3, .int .i64 x4]) ?_ 0; refine sqFar ?_ N10; refine sqFar ?_ N10; exact sqK B9⟩, ⟨sqB4 HB E0 E1 E2 E3⟩⟩
      rw [if_neg sqF] at H
      obtain ⟨rfl, rfl, rfl⟩ := sqO3 H
      try go_wp2
      replace B0 := sqa (blk_drew B0.1)
      replace B2 := sqa (blk_drew B2.1)
      replace B9 := sqa (blk_drew B9.1)
      replace HB := sqa (below_drew1 HB.1)
      have p0 : 0 ≤ (x7_2 : Int) := of_decide_eq_true Z16
      have q0 : x7_2 < (a1.size : Int) := of_decide_eq_true Z16
      have hx0 := bt_at a1 x7_2
      replace p0 := eq_true p0
      replace q0 := eq_true q0
      refine start_ (n := 11) (S := fun w' => w'.cell? ⟨g2, 0, none⟩ = some (.int .i64 x3) ∧ w'.cell? ⟨g2, 1, none⟩ = some (.int .i64 x4)) (ds := []) #[false, false, false, false, false, false, false, false, false, false, false] (by kernel_rfl) rfl rfl (sqk1 B9) (fun hHeld => ?_); refine with_tabW F11.tab7 F11.bits7 (fun HT_ HW_ => ?_)
      generalize wr.drew = w9 at B0 B2 B9 HB hHeld ⊢
      refine sqP 1 (some 28) (h := ?_)
      refine sqP 2 (some 29) (h := ?_)
      refine sqQ 0 (some 27) hHeld (h := ?_)
      refine sqQ 3 (some 30) hHeld (h := ?_)
      refine join_ (σ := Nat) 2 #[true, true, true, true, true, true, true, true, true, false, false] (fun s_ => [(31, .tuple #[.agg #[.int .i64 t2, .int .i64 t3], .bool false]), (8, .pointer (some ⟨s_, 0, none⟩)), (26, .tuple #[.agg #[.int .i64 t2, .int .i64 t3], .bool false]), (32, .agg #[.int .i64 t2, .int .i64 t3]), (33, .bool false)]) (fun s_ w' => (w'.cell? ⟨g2, 0, none⟩ = some (.int .i64 x3) ∧ w'.cell? ⟨g2, 1, none⟩ = some (.int .i64 x4)) ∧ (w'.heap[g0]? = some (.cells #[.int .i64 a0_0, .int .i64 a0_1] 31 (0, 0))) ∧ (w'.heap[g1]? = some (.cells #[.int .i64 x1, .int .i64 x2] 31 (0, 0))) ∧ (w'.heap[g2]? = some (.cells #[.int .i64 x3, .int .i64 x4] 31 (0, 0))) ∧ (w'.heap[s_]? = some (.cells #[.int .i64 0, .int .i64 0] 31 (0, 0))) ∧ (w.heap.size ≤ s_) ∧ (w.heap.size ≤ s_) ∧ (g0 ≠ s_) ∧ (s_ ≠ g0) ∧ (g1 ≠ s_) ∧ (s_ ≠ g1) ∧ (g2 ≠ s_) ∧ (s_ ≠ g2) ∧ (Below w.heap.size w w')) ?_ ?_
      rotate_left
      ·intro hCont
       refine two_ (i := 4) (j := 8) (Ni := some 31) (Nj := some 8) #[true, true, true, true, true, false, false, false, false, false, false] #[true, true, true, true, false, false, false, false, true, false, false] rfl rfl rfl rfl (two_of HT_.out (by kernel_rfl)) (by decide) (by decide) (fun K hK => ?_) (fun K hK => ?_)
       ·skip
        refine sqg func135 #[.agg #[.int .i64 x3, .int .i64 x4], .int .u8 (bt a1 x7_2)] ?_
        with_reducible refine (F67.c k2 x3 x4 (bt a1 x7_2) t2 t3 false _ A0.1).mono ?_
        rintro e w40 ⟨rfl, hb⟩
        refine ⟨_, rfl, ?_⟩
        replace B0 := sqT B0 hb
        replace B2 := sqT B2 hb
        replace B9 := sqT B9 hb
        replace HB := sqS (sqB3 HB E0 E1 E2) hb
        refine hK.out _ _ (sqk1 B9) (fun hHeld => ?_)
        clear hK K
        refine sqN (some 31) ?_
        refine sqP 5 (some 26) (h := ?_)
        refine sqP 6 (some 32) (h := ?_)
        refine sqP 7 (some 33) (h := ?_)
        refine sq1 8 (some 8) (h := fun K hK => ?_)
        refine box_step ?hg (N := 8) ?hd (cs := #[.int .i64 0, .int .i64 0]) (t := 31) ?hr ?_; (case hd => rfl); (case hg => rfl); (case hr => exact Z17)
        intro g3 hg w41 hbox hb
        have B10 := sqa (hbox)
        have GW0 := sqa ((sqG hg (sqB3 HB E0 E1 E2)))
        have E3 := sqa ((sqG hg (sqB3 HB E0 E1 E2)))
        replace HB := sqS (sqB3 HB E0 E1 E2) hb
        obtain ⟨N6, N7⟩ := sqM hg B0
        replace B0 := sqT B0 hb
        obtain ⟨N8, N9⟩ := sqM hg B2
        replace B2 := sqT B2 hb
        obtain ⟨N10, N11⟩ := sqM hg B9
        replace B9 := sqT B9 hb
        clear hb hbox hg
        refine hK.out _ _ (sqk1 B9) (fun hHeld => ?_)
        clear hK K
        refine sqN (some 8) ?_
        exact norm_ Z20 (hCont (g3) _ ⟨hHeld, (sqK B0), (sqK B2), (sqK B9), (sqK B10), GW0.1, E3.1, N6.1, N7.1, N8.1, N9.1, N10.1, N11.1, (sqB4 HB E0 E1 E2 E3)⟩)
       ·skip
        refine box_step ?hg (N := 8) ?hd (cs := #[.int .i64 0, .int .i64 0]) (t := 31) ?hr ?_; (case hd => rfl); (case hg => rfl); (case hr => exact Z17)
        intro g3 hg w40 hbox hb
        have B10 := sqa (hbox)
        have GW0 := sqa ((sqG hg (sqB3 HB E0 E1 E2)))
        have E3 := sqa ((sqG hg (sqB3 HB E0 E1 E2)))
        replace HB := sqS (sqB3 HB E0 E1 E2) hb
        obtain ⟨N6, N7⟩ := sqM hg B0
        replace B0 := sqT B0 hb
        obtain ⟨N8, N9⟩ := sqM hg B2
        replace B2 := sqT B2 hb
        obtain ⟨N10, N11⟩ := sqM hg B9
        replace B9 := sqT B9 hb
        clear hb hbox hg
        refine hK.out _ _ (sqk1 B9) (fun hHeld => ?_)
        clear hK K
        refine sqN (some 8) ?_
        refine sq1 4 (some 31) (h := fun K hK => ?_)
        refine sqg func135 #[.agg #[.int .i64 x3, .int .i64 x4], .int .u8 (bt a1 x7_2)] ?_
        with_reducible refine (F67.c k2 x3 x4 (bt a1 x7_2) t2 t3 false _ A0.1).mono ?_
        rintro e w41 ⟨rfl, hb⟩
        refine ⟨_, rfl, ?_⟩
        replace B0 := sqT B0 hb
        replace B2 := sqT B2 hb
        replace B9 := sqT B9 hb
        replace B10 := sqT B10 hb
        replace HB := sqS (sqB4 HB E0 E1 E2 E3) hb
        refine hK.out _ _ (sqk1 B9) (fun hHeld => ?_)
        clear hK K
        refine sqN (some 31) ?_
        refine sqP 5 (some 26) (h := ?_)
        refine sqP 6 (some 32) (h := ?_)
        refine sqP 7 (some 33) (h := ?_)
        exact norm_ Z20 (hCont (g3) _ ⟨hHeld, (sqK B0), (sqK B2), (sqK B9), (sqK B10), GW0.1, E3.1, N6.1, N7.1, N8.1, N9.1, N10.1, N11.1, (sqB4 HB E0 E1 E2 E3)⟩)
      rintro g3 w42 ⟨hS_, h0_, h1_, h2_, h3_, h4_, h5_, h6_, h7_, h8_, h9_, h0, h1, h2⟩
      replace B0 := sqa h0_
      replace B2 := sqa h1_
      replace B9 := sqa h2_
      replace B10 := sqa h3_
      replace GW0 := sqa h4_
      replace E3 := sqa h5_
      replace N6 := sqa h6_
      replace N7 := sqa h7_
      replace N8 := sqa h8_
      replace N9 := sqa h9_
      replace N10 := sqa h0
      replace N11 := sqa h1
      replace HB := sqa h2
      clear h0_ h1_ h2_ h3_ h4_ h5_ h6_ h7_ h8_ h9_ h0 h1 h2
      have hHeld : w42.cell? ⟨g2, 0, none⟩ = some (.int .i64 x3) ∧ w42.cell? ⟨g2, 1, none⟩ = some (.int .i64 x4) := hS_
      refine norm_ (a' := ?_) ?_ ?_
      rotate_left
      ·simp only [putAll, Act.put, List.setIfInBounds_toArray, List.set_cons_zero, List.set_cons_succ]
       rfl
      refine sq1 9 none (h := fun K hK => ?_)
      have := sqY2 B10
      have := sqn6 N6 N8 N10 N7 N9 N11
      refine skip_ (w1 := ?_) (by rfl) rfl ?_ ?_
      rotate_left
      ·go_simp
       rfl
      refine hK.out _ _ (sql1 N10 hHeld) (fun hHeld => ?_)
      clear hK K
      refine sqP 10 (some 9) (h := ?_)
      refine done_ (done_of HT_.out (by kernel_rfl)) ?_
      have := sqn6 N1 N0 N4 N5 N8 N9
      have := sqY2 B2
      try go_wp2
      refine sqE g1 31 #[.int .i64 0, .int .i64 0] (by refine sqPut (cs := #[.int .i64 0, .int .i64 x2]) ?_ 1; refine sqPut (cs := #[.int .i64 x1, .int .i64 x2]) ?_ 0; refine sqFar ?_ N8; refine sqFar ?_ N8; exact sqK B2) underlying31 ?_
      exact ⟨Z5, sqB4 HB E0 E1 E2 E3⟩
     obtain ⟨rfl, rfl, rfl⟩ := sqO3 H
     have := sqn4 N3 N2 N5 N4
     have := sqY2 B9
     have := sqn2 N1 N0
     have := sqY2 B2
     go_wp2
     refine sqE g1 31 #[.int .i64 x3, .int .i64 x4] (by refine sqPut (cs := #[.int .i64 x3, .int .i64 x2]) ?_ 1; refine sqPut (cs := #[.int .i64 x1, .int .i64 x2]) ?_ 0; exact sqK B2) underlying31 ?_
     exact ⟨Z5, sqB3 HB E0 E1 E2⟩

end Go.Proofs.YtofmlbgfcohhoaaGreatDoor.PFnDeskSay
