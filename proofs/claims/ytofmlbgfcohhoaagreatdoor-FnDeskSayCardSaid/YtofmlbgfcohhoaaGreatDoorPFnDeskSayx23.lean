import Derived.Test.YtofmlbgfcohhoaaGreatDoorPFnDeskSayx22
set_option maxHeartbeats 8000000
set_option maxRecDepth 100000
namespace Go.Proofs.YtofmlbgfcohhoaaGreatDoor.PFnDeskSay
open Go.RowKit Go.Proofs.YtofmlbgfcohhoaaGreatDoorW.PrintWords Go.Proofs.YtofmlbgfcohhoaaGreatDoorW.PrintLast Go.Proofs.YtofmlbgfcohhoaaGreatDoorW.PrintMore Go.Proofs.YtofmlbgfcohhoaaGreatDoor.Lib Go.Proofs.Tryz
attribute [local go_sem] max2_int min2_int max_two min_two max_three min_three max_four min_four   -- for this text's walks alone
set_option linter.unusedVariables false
set_option linter.unusedSimpArgs false

mutual
def F10.j0 : Nat → List ByteArray → List ByteArray → Bool → Int → Int → List (S31) → Option (Int × Int × (List (S31)) × List ByteArray)
 | 0, _, _, _, _, _, _ => none
 | k + 1, x1, x6, x0, x2, x3, x4 => if x0 = true then (some (0, 0, ([] : List (S31)), x6)) else ((F40.f x2 x3 x4).bind fun bt0 => (F10.l0 k x1 x6 0 bt0.1 bt0.2.1 bt0.2.2))
def F10.l0 : Nat → List ByteArray → List ByteArray → Int → Int → Int → List (S31) → Option (Int × Int × (List (S31)) × List ByteArray)
 | 0, _, _, _, _, _, _ => none
 | k + 1, x1, x6, x8, x0, x2, x3 => if x8 < (x1.length : Int) then (if 0 ≤ x8 then ((F13.f k x0 x2 x3 (rdOf ByteArray.empty x1 x8)).bind fun bt0 => (if x6.length < 8796093022208 then (F10.l0 k x1 (x6 ++ [bt0.2.2.2]) (wrap64 (x8 + 1)) bt0.1 bt0.2.1 bt0.2.2.1) else (none))) else (none)) else (some (x0, x2, x3, x6))
end
def F10.f (k : Nat) (a0_0 : Int) (a0_1 : Int) (l0_2 : List (S31)) (l1 : List ByteArray) : Option (Int × Int × (List (S31)) × List ByteArray) := (some (([] : List ByteArray) : List ByteArray)).bind fun y0 => ((F15.f k a0_0 a0_1 l0_2).bind fun t0 => (if t0 = true then (F10.j0 k l1 y0 (decide ((l1.length : Int) > 40)) a0_0 a0_1 l0_2) else (F10.j0 k l1 y0 true a0_0 a0_1 l0_2)))
def F10.T8 : Bool × List (List Nat × List Nat) := (true, [([], []), ([], []), ([], []), ([1, 2], [1, 2]), ([3], [3]), ([0, 4], [0, 4]), ([5], [5]), ([6], [6]), ([6], [6]), ([], []), ([9, 7, 5, 0, 1, 2, 3, 4, 5, 6, 7, 9], [7, 9]), ([8, 10, 0, 1, 2, 3, 4, 5, 6, 7, 8, 9, 10], [8])])
def F10.B8 : List Nat := [0, 0, 0, 6, 14, 31, 63, 127, 127, 0, 767, 2047]
theorem F10.tab8 : rtab .any (opsOf f46 8) = F10.T8 := by kernel_rfl
theorem F10.bits8 : waitsOk F10.T8.2 F10.B8 = true := by kernel_rfl
theorem F10.c (k : Nat) (a0_0 : Int) (a0_1 : Int) (A0_2 : Option Addr) (c0_2 : Nat) (l0_2 : List (S31)) (A1 : Option Addr) (c1 : Nat) (l1 : List ByteArray) (r1 : Int) (r2 : Int) (r3 : List (S31)) (r4 : List ByteArray) (w : World) (hr0_2 : Kd.C k31 w A0_2 l0_2.length l0_2) (hc0_2 : l0_2.length ≤ c0_2) (hr1 : Kd.C Kd.string w A1 l1.length l1) (hc1 : l1.length ≤ c1) (H : F10.f k a0_0 a0_1 l0_2 l1 = some (r1, r2, r3, r4)) :
  Calls prog 46 #[.agg #[.int .i64 a0_0, .int .i64 a0_1, .slice A0_2 l0_2.length c0_2], .slice A1 l1.length c1] w fun e w' => ∃ v2_ v3_ : Value, e = .returned (.tuple #[.agg #[.int .i64 r1, .int .i64 r2, v2_], v3_]) ∧ Kd.Q k31 31 w' w.heap.size (fun _ => True) v2_ r3 ∧ Kd.R Kd.string 9 w' w.heap.size (fun _ => True) v3_ r4 ∧ Below w.heap.size w w' := by
 have hu34 := underlying34
 have HR0_2 := sqa hr0_2
 have HC0_2 := sqa hc0_2
 clear hr0_2 hc0_2
 have HR1 := sqa hr1
 have HC1 := sqa hc1
 clear hr1 hc1
 have HB := sqh w
 unfold F10.f at H
 obtain ⟨y0, hy0⟩ : ∃ y_ : List ByteArray, y_ = (([] : List ByteArray)) := ⟨_, rfl⟩
 replace H : ((F15.f k a0_0 a0_1 l0_2).bind fun t0 => (if t0 = true then (F10.j0 k l1 y0 (decide ((l1.length : Int) > 40)) a0_0 a0_1 l0_2) else (F10.j0 k l1 y0 true a0_0 a0_1 l0_2))) = some (r1, r2, r3, r4) := sqW hy0 H
 have Ny0 := sqa hy0
 clear hy0
 have HC3 := sqa H
 clear H
 go_enter func46, ntmps46
 go_upto_region 2 with (first | ((with_reducible refine sqd 2 rfl ?_); (try (refine gate_guard (by rfl) ?_; dsimp only)); refine sqx0 w (sqB HB) #[.int .i64 a0_0, .int .i64 a0_1, .slice A0_2 l0_2.length c0_2] 34 fun g0 w4 B0 E0 HB => ?_) | ((with_reducible refine sqd 4 rfl ?_); (try (refine gate_guard (by rfl) ?_; dsimp only)); refine sqx1 w (sqB1 HB E0) #[.int .i64 0, .int .i64 0, .slice none 0 0] 34 B0 fun g1 w5 B2 E1 HB N0 N1 B0 => ?_) | ((with_reducible refine sqd 11 rfl ?_); (try (refine gate_guard (by rfl) ?_; dsimp only)); refine Kd.R_lit Kd.string _ 9 ?hg (N := 11) ?hd (xs := ([] : List ByteArray)) (inner := []) (ok := fun _ => True) (okp := fun _ => True) ?hr ?hp (fun _ hk => hk) trivial (Below.refl _ _) (Nat.le_refl _) (by simp) ?_; (case hd => rfl); (case hg => rfl); (case hr => exact Z17); (case hp => exact Z24); intro v0 w6 ho7 hb hg_ hnew_; clear hg_ hnew_; (first | rw [← Ny0.out] at ho7 | (simp only [Int.reduceToNat] at ho7; rw [← Ny0.out] at ho7)); have O0 := sqL ho7 (sqB2 HB E0 E1); obtain ⟨B0, B2⟩ := sqT2 hb B0 B2; replace HB := sqS (sqB2 HB E0 E1) hb; clear hb ho7))
 (try simp only [Act.put, List.setIfInBounds_toArray, List.set_cons_zero, List.set_cons_succ])
 go_cut [19] (fun v1 wc => ∃ (kq : Nat) (x0 : Bool), v1 = .bool x0 ∧ Aside0 (F10.j0 kq l1 y0 x0 a0_0 a0_1 l0_2 = some (r1, r2, r3, r4)) ∧ Aside0 (kq ≤ k) ∧ Aside0 (Kd.R Kd.string 9 wc w.heap.size (fun _ => True) v0 y0) ∧ Aside0 (wc.heap[g0]? = some (.cells #[.int .i64 a0_0, .int .i64 a0_1, (.slice A0_2 l0_2.length c0_2)] 34 (0, 0))) ∧ Aside0 (wc.heap[g1]? = some (.cells #[.int .i64 0, .int .i64 0, (.slice none 0 0)] 34 (0, 0))) ∧ Aside0 (Below w.heap.size w wc))
 case first =>
  have H := HC3.1
  clear HC3
  obtain ⟨t0, A8, H⟩ := sqD H
  obtain rfl | rfl := sqt t0
  ·rw [if_pos rfl] at H
   have H' := sqa H
   clear H
   have := sqn2 N0 N1
   have := sqY3 B0
   go_wp2_with (first | ((with_reducible refine sqc 30 rfl ?_); refine sqv (some 13) func30 (args := #[.agg #[.int .i64 a0_0, .int .i64 a0_1, .slice A0_2 l0_2.length c0_2]]) (F15.c k a0_0 a0_1 _ _ l0_2 true _ Z35 Z36 A8.1) fun w2 hb => ?_; replace O0 := sqU O0 hb; obtain ⟨B0, B2⟩ := sqT2 hb B0 B2; replace HB := sqS (sqB2 HB E0 E1) hb))
   go_meet
   case rel => exact ⟨_, (decide ((l1.length : Int) > 40)), Z1, H', ⟨Z11⟩, ⟨sqR O0⟩, ⟨sqK B0⟩, ⟨sqK B2⟩, ⟨sqB2 HB E0 E1⟩⟩
  rw [if_neg sqF] at H
  have H' := sqa H
  clear H
  have := sqn2 N0 N1
  have := sqY3 B0
  go_wp2_with (first | ((with_reducible refine sqc 30 rfl ?_); refine sqv (some 13) func30 (args := #[.agg #[.int .i64 a0_0, .int .i64 a0_1, .slice A0_2 l0_2.length c0_2]]) (F15.c k a0_0 a0_1 _ _ l0_2 false _ Z35 Z36 A8.1) fun w3 hb => ?_; replace O0 := sqU O0 hb; obtain ⟨B0, B2⟩ := sqT2 hb B0 B2; replace HB := sqS (sqB2 HB E0 E1) hb))
  go_meet
  case rel => exact ⟨_, (true), Z1, H', ⟨Z11⟩, ⟨sqR O0⟩, ⟨sqK B0⟩, ⟨sqK B2⟩, ⟨sqB2 HB E0 E1⟩⟩
 case rest =>
  clear HC3
  obtain ⟨kq, x0, rfl, HA, HJ2, O1, B0, B2, HB⟩ := hcut
  cases kq with
  | zero => exact absurd HA.out (by simp [F10.j0])
  | succ kj2 =>
   have H := HA.out
   clear HA
   simp only [F10.j0] at H
   obtain rfl | rfl := sqt x0
   ·rw [if_pos rfl] at H
    obtain ⟨rfl, rfl, rfl, rfl⟩ := sqO4 H
    have := sqn2 N1 N0
    have := sqY3 B2
    go_wp2
    refine sqE g1 34 #[.int .i64 0, .int .i64 0, .slice none 0 0] (Z46 B2) underlying34 ?_
    exact ⟨_, _, Z5, Kd.Q_of_R Z47, by (with_reducible repeat (first | apply Kd.R_alloc | apply Kd.R_drewN | apply Kd.R_drew)); exact Kd.R_mono (sqr3 O1.1 B2.1) (fun _ hk => trivial), sqB2 HB E0 E1⟩
   rw [if_neg sqF] at H
   obtain ⟨⟨t1, t2, t3⟩, A0, H⟩ := sqD H
   try dsimp only at H
   have H' := sqa H
   clear H
   have := sqn2 N0 N1
   have := sqY3 B0
   go_wp2_with (first | ((with_reducible refine sqc 56 rfl ?_); refine sqvo (some 23) func56 (args := #[.agg #[.int .i64 a0_0, .int .i64 a0_1, .slice A0_2 l0_2.length c0_2]]) (F40.c a0_0 a0_1 _ _ l0_2 t1 t2 t3 _ Z35 Z36 A0.1) fun v2 w7 ho0 hb => ?_; replace O1 := sqU O1 hb; have O2 := sqL ho0 (sqB2 HB E0 E1); obtain ⟨B0, B2⟩ := sqT2 hb B0 B2; replace HB := sqS (sqB2 HB E0 E1) hb; (try clear ho0)) | ((with_reducible refine sqd 7 rfl ?_); (try (refine gate_guard (by rfl) ?_; dsimp only)); refine sqx w (sqB2 HB E0 E1) #[.int .i64 0, .int .i64 0, .slice none 0 0] 34 fun gb686 hg w8 B9 E2 HB hb => ?_; replace O1 := sqU O1 hb; replace O2 := sqU O2 hb; obtain ⟨N2, N3⟩ := sqM hg B0; replace B0 := sqT B0 hb; obtain ⟨N4, N5⟩ := sqM hg B2; replace B2 := sqT B2 hb; clear hb hg; have := sqn4 N3 N2 N5 N4; have := sqY3 B9; obtain ⟨Ao0, co0, eo0⟩ := Kd.R_slice O2.1; subst eo0))
   go_loopg [6, 8] kj2 (fun kq v6 v8 w' => ∃ (x6_2 : List ByteArray) (x8_2 : Int) (x1 : Int) (x2 : Int) (x3 : List (S31)) (u687002 : Value), v8 = .int .i64 x8_2 ∧ Aside0 (F10.l0 kq l1 x6_2 x8_2 x1 x2 x3 = some (r1, r2, r3, r4)) ∧ Aside0 (kq ≤ kj2) ∧ Aside0 (Kd.R Kd.string 9 w' w.heap.size (fun _ => True) v6 x6_2) ∧ Aside0 (Kd.Q k31 31 w' w.heap.size (fun _ => True) u687002 x3) ∧ Aside0 (w'.heap[g0]? = some (.cells #[.int .i64 a0_0, .int .i64 a0_1, (.slice A0_2 l0_2.length c0_2)] 34 (0, 0))) ∧ Aside0 (w'.heap[g1]? = some (.cells #[.int .i64 0, .int .i64 0, (.slice none 0 0)] 34 (0, 0))) ∧ Aside0 (w'.heap[gb686]? = some (.cells #[.int .i64 x1, .int .i64 x2, u687002] 34 (0, 0))) ∧ Aside0 (Below w.heap.size w w'))
   case atStart => exact ⟨(y0), (0), (t1), (t2), (t3), (.slice Ao0 t3.length co0), Z1, H', ⟨Nat.le_refl _⟩, ⟨Z68 O1 B9⟩, ⟨Kd.Q_of_R (Z68 O2 B9)⟩, ⟨Z38 N2 B0⟩, ⟨Z38 N4 B2⟩, ⟨by refine sqPut (cs := #[.int .i64 t1, .int .i64 t2, .slice none 0 0]) ?_ 2; refine sqPut (cs := #[.int .i64 t1, .int .i64 0, .slice none 0 0]) ?_ 1; refine sqPut (cs := #[.int .i64 0, .int .i64 0, .slice none 0 0]) ?_ 0; exact sqK B9⟩, ⟨sqB3 HB E0 E1 E2⟩⟩
   case round =>
    clear H'
    obtain ⟨x6_2, x8_2, x1, x2, x3, u687002, rfl, HA, HK2, O1, O3, B0, B2, B9, HB⟩ := hrel
    cases gk with
    | zero => exact absurd HA.out (by simp [F10.l0])
    | succ k2 =>
     have H := HA.out
     clear HA
     simp only [F10.l0] at H
     obtain ⟨c3, H⟩ | ⟨c3, H⟩ := sqi3 H
     ·obtain ⟨c5, H⟩ := sqJ2 H
      obtain ⟨⟨t688, t689, t690, t4⟩, A2, H⟩ := sqD H
      try dsimp only at H
      obtain ⟨c6, H⟩ := sqI H
      have LMc0 := sqa c6
      clear c6
      obtain ⟨y1, hy1⟩ : ∃ y_ : List ByteArray, y_ = (x6_2 ++ [t4]) := ⟨_, rfl⟩
      replace H : (F10.l0 k2 l1 y1 (wrap64 (x8_2 + 1)) t688 t689 t690) = some (r1, r2, r3, r4) := sqW hy1 H
      have Ny1 := sqa hy1
      clear hy1
      have H' := sqa H
      clear H
      obtain ⟨Ao1, co1, eo1, _⟩ := Kd.Q_slice O3.1
      subst eo1
      try go_wp2
      replace O1 := sqa (Kd.R_drew O1.1)
      replace O3 := sqa (Kd.Q_drew O3.1)
      replace B0 := sqa (blk_drew B0.1)
      replace B2 := sqa (blk_drew B2.1)
      replace B9 := sqa (blk_drew B9.1)
      replace HB := sqa (below_drew1 HB.1)
      have p0 : 0 ≤ (x8_2 : Int) := of_decide_eq_true Z16
      have q0 : x8_2 < (l1.length : Int) := of_decide_eq_true Z16
      obtain ⟨ad0, e0, hx0⟩ := Kd.at_string HR1.1 x8_2 p0 q0
      have hw687_0 := hx0
      cases e0
      replace hx0 := (HB.1.cell (World.block_lt_of_cell? w _ hx0)).trans hx0
      replace p0 := eq_true p0
      replace q0 := eq_true q0
      refine start_ (n := 12) (S := fun w' => w'.cell? ⟨gb686, 0, none⟩ = some (.int .i64 x1) ∧ w'.cell? ⟨gb686, 1, none⟩ = some (.int .i64 x2) ∧ w'.cell? ⟨gb686, 2, none⟩ = some (.slice Ao1 x3.length co1) ∧ w'.cell? (ad0.add (x8_2).toNat) = some (.string (rdOf ByteArray.empty l1 x8_2))) (ds := []) #[false, false, false, false, false, false, false, false, false, false, false, false] (by kernel_rfl) rfl rfl ⟨(blk_cell B9.1 0).trans rfl, (blk_cell B9.1 1).trans rfl, (blk_cell B9.1 2).trans rfl, ((HB.1.cell (World.block_lt_of_cell? w _ hw687_0)).trans hw687_0)⟩ (fun hHeld => ?_); refine with_tabW F10.tab8 F10.bits8 (fun HT_ HW_ => ?_)
      generalize wr.drew = w9 at O1 O3 B0 B2 B9 HB hx0 hHeld ⊢
      refine sqP 1 (some 32) (h := ?_)
      refine sqP 2 (some 33) (h := ?_)
      refine sqP 3 (some 34) (h := ?_)
      refine sqQ 0 (some 31) hHeld (h := ?_)
      refine sqQ 4 (some 35) hHeld (h := ?_)
      refine join_ (σ := Value × Nat) 2 #[true, true, true, true, true, true, true, true, true, true, false, false] (fun s_ => [(36, .tuple #[.agg #[.int .i64 t688, .int .i64 t689, s_.1], .string t4]), (9, .pointer (some ⟨s_.2, 0, none⟩)), (30, .tuple #[.agg #[.int .i64 t688, .int .i64 t689, s_.1], .string t4]), (37, .agg #[.int .i64 t688, .int .i64 t689, s_.1]), (38, .string t4)]) (fun s_ w' => (w'.cell? ⟨gb686, 0, none⟩ = some (.int .i64 x1) ∧ w'.cell? ⟨gb686, 1, none⟩ = some (.int .i64 x2) ∧ w'.cell? ⟨gb686, 2, none⟩ = some (.slice Ao1 x3.length co1) ∧ w'.cell? (ad0.add (x8_2).toNat) = some (.string (rdOf ByteArray.empty l1 x8_2))) ∧ (Kd.Q k31 31 w' w.heap.size (fun k_ => some k_ ≠ (.slice Ao1 x3.length co1 : Value).ownBlock) s_.1 t690) ∧ (Kd.R Kd.string 9 w' w.heap.size (fun _ => True) u6 x6_2) ∧ (Kd.Q k31 31 w' w.heap.size (fun k_ => some k_ ≠ (s_.1 : Value).ownBlock) (.slice Ao1 x3.length co1) x3) ∧ (w'.heap[g0]? = some (.cells #[.int .i64 a0_0, .int .i64 a0_1, .slice A0_2 l0_2.length c0_2] 34 (0, 0))) ∧ (w'.heap[g1]? = some (.cells #[.int .i64 0, .int .i64 0, .slice none 0 0] 34 (0, 0))) ∧ (w'.heap[gb686]? = some (.cells #[.int .i64 x1, .int .i64 x2, .slice Ao1 x3.length co1] 34 (0, 0))) ∧ (w'.heap[s_.2]? = some (.cells #[.int .i64 0, .int .i64 0, .slice none 0 0] 34 (0, 0))) ∧ (w.heap.size ≤ s_.2) ∧ (w.heap.size ≤ s_.2) ∧ (g0 ≠ s_.2) ∧ (s_.2 ≠ g0) ∧ (g1 ≠ s_.2) ∧ (s_.2 ≠ g1) ∧ (gb686 ≠ s_.2) ∧ (s_.2 ≠ gb686) ∧ (Below w.heap.size w w')) ?_ ?_
      rotate_left
      ·intro hCont
       refine two_ (i := 5) (j := 9) (Ni := some 36) (Nj := some 9) #[true, true, true, true, true, true, false, false, false, false, false, false] #[true, true, true, true, true, false, false, false, false, true, false, false] rfl rfl rfl rfl (two_of HT_.out (by kernel_rfl)) (by decide) (by decide) (fun K hK => ?_) (fun K hK => ?_)
       ·skip
        refine sqg func43 #[.agg #[.int .i64 x1, .int .i64 x2, .slice Ao1 x3.length co1], .string (rdOf ByteArray.empty l1 x8_2)] ?_
        with_reducible refine (F13.c k2 x1 x2 _ _ x3 (rdOf ByteArray.empty l1 x8_2) t688 t689 t690 t4 _ ?side1 ?side2 A2.1).mono ?_
        (case side1 => exact Z69 O3)
        (case side2 => exact Z70 O3)
        rintro e w34 ⟨v3, rfl, ho0, hb⟩
        refine ⟨_, rfl, ?_⟩
        replace O1 := sqU O1 hb
        have O4 := sqa (Kd.Q_lower (Kd.Q_new' ho0 (Kd.Q_lt (Z40 O3))) (below_size (sqB3 HB E0 E1 E2)))
        replace O3 := sqa (Kd.Q_elder' (Z40 O3) (Kd.Q_base ho0) hb)
        replace B0 := sqT B0 hb
        replace B2 := sqT B2 hb
        replace B9 := sqT B9 hb
        replace HB := sqS (sqB3 HB E0 E1 E2) hb
        refine hK.out _ _ ⟨(blk_cell B9.1 0).trans rfl, (blk_cell B9.1 1).trans rfl, (blk_cell B9.1 2).trans rfl, ((HB.1.cell (World.block_lt_of_cell? w _ hw687_0)).trans hw687_0)⟩ (fun hHeld => ?_)
        clear hK K
        refine sqN (some 36) ?_
        refine sqP 6 (some 30) (h := ?_)
        refine sqP 7 (some 37) (h := ?_)
        refine sqP 8 (some 38) (h := ?_)
        refine sq1 9 (some 9) (h := fun K hK => ?_)
        refine box_step ?hg (N := 9) ?hd (cs := #[.int .i64 0, .int .i64 0, .slice none 0 0]) (t := 34) ?hr ?_; (case hd => rfl); (case hg => rfl); (case hr => exact Z17)
        intro gb694 hg w35 hbox hb
        replace O1 := sqU O1 hb
        replace O3 := sqa (Kd.Q_below (Z40 O3) hb)
        replace O4 := sqa (Kd.Q_below (Z40 O4) hb)
        have B10 := sqa (hbox)
        have GW0 := sqa ((sqG hg (sqB3 HB E0 E1 E2)))
        have E3 := sqa ((sqG hg (sqB3 HB E0 E1 E2)))
        replace HB := sqS (sqB3 HB E0 E1 E2) hb
        obtain ⟨N6, N7⟩ := sqM hg B0
        replace B0 := sqT B0 hb
        obtain ⟨N8, N9⟩ := sqM hg B2
        replace B2 := sqT B2 hb
        obtain ⟨N10, N11⟩ := sqM hg B9
        replace B9 := sqT B9 hb
        clear hb hbox hg
        refine hK.out _ _ ⟨(blk_cell B9.1 0).trans rfl, (blk_cell B9.1 1).trans rfl, (blk_cell B9.1 2).trans rfl, ((HB.1.cell (World.block_lt_of_cell? w _ hw687_0)).trans hw687_0)⟩ (fun hHeld => ?_)
        clear hK K
        refine sqN (some 9) ?_
        exact norm_ Z20 (hCont (v3, gb694) _ ⟨hHeld, (Z71 O4), (sqR O1), (Z71 O3), (sqK B0), (sqK B2), (sqK B9), (sqK B10), GW0.1, E3.1, N6.1, N7.1, N8.1, N9.1, N10.1, N11.1, (sqB4 HB E0 E1 E2 E3)⟩)
       ·skip
        refine box_step ?hg (N := 9) ?hd (cs := #[.int .i64 0, .int .i64 0, .slice none 0 0]) (t := 34) ?hr ?_; (case hd => rfl); (case hg => rfl); (case hr => exact Z17)
        intro gb694 hg w34 hbox hb
        replace O1 := sqU O1 hb
        replace O3 := sqa (Kd.Q_below (Z40 O3) hb)
        have B10 := sqa (hbox)
        have GW0 := sqa ((sqG hg (sqB3 HB E0 E1 E2)))
        have E3 := sqa ((sqG hg (sqB3 HB E0 E1 E2)))
        replace HB := sqS (sqB3 HB E0 E1 E2) hb
        obtain ⟨N6, N7⟩ := sqM hg B0
        replace B0 := sqT B0 hb
        obtain ⟨N8, N9⟩ := sqM hg B2
        replace B2 := sqT B2 hb
        obtain ⟨N10, N11⟩ := sqM hg B9
        replace B9 := sqT B9 hb
        clear hb hbox hg
        refine hK.out _ _ ⟨(blk_cell B9.1 0).trans rfl, (blk_cell B9.1 1).trans rfl, (blk_cell B9.1 2).trans rfl, ((HB.1.cell (World.block_lt_of_cell? w _ hw687_0)).trans hw687_0)⟩ (fun hHeld => ?_)
        clear hK K
        refine sqN (some 9) ?_
        refine sq1 5 (some 36) (h := fun K hK => ?_)
        refine sqg func43 #[.agg #[.int .i64 x1, .int .i64 x2, .slice Ao1 x3.length co1], .string (rdOf ByteArray.empty l1 x8_2)] ?_
        with_reducible refine (F13.c k2 x1 x2 _ _ x3 (rdOf ByteArray.empty l1 x8_2) t688 t689 t690 t4 _ ?side1 ?side2 A2.1).mono ?_
        (case side1 => exact Z69 O3)
        (case side2 => exact Z70 O3)
        rintro e w35 ⟨v3, rfl, ho0, hb⟩
        refine ⟨_, rfl, ?_⟩
        replace O1 := sqU O1 hb
        have O4 := sqa (Kd.Q_lower (Kd.Q_new' ho0 (Kd.Q_lt (Z40 O3))) (below_size (sqB4 HB E0 E1 E2 E3)))
        replace O3 := sqa (Kd.Q_elder' (Z40 O3) (Kd.Q_base ho0) hb)
        replace B0 := sqT B0 hb
        replace B2 := sqT B2 hb
        replace B9 := sqT B9 hb
        replace B10 := sqT B10 hb
        replace HB := sqS (sqB4 HB E0 E1 E2 E3) hb
        refine hK.out _ _ ⟨(blk_cell B9.1 0).trans rfl, (blk_cell B9.1 1).trans rfl, (blk_cell B9.1 2).trans rfl, ((HB.1.cell (World.block_lt_of_cell? w _ hw687_0)).trans hw687_0)⟩ (fun hHeld => ?_)
        clear hK K
        refine sqN (some 36) ?_
        refine sqP 6 (some 30) (h := ?_)
        refine sqP 7 (some 37) (h := ?_)
        refine sqP 8 (some 38) (h := ?_)
        exact norm_ Z20 (hCont (v3, gb694) _ ⟨hHeld, (Z71 O4), (sqR O1), (Z71 O3), (sqK B0), (sqK B2), (sqK B9), (sqK B10), GW0.1, E3.1, N6.1, N7.1, N8.1, N9.1, N10.1, N11.1, (sqB4 HB E0 E1 E2 E3)⟩)
      rintro ⟨v3, gb694⟩ w36 ⟨hS_, h0_, h1_, h2_, h3_, h4_, h5_, h6_, h7_, h8_, h9_, h0, h1, h2, h3, h4, h5⟩
      replace O4 : Aside0 (Kd.Q k31 31 w36 w.heap.size (fun k_ => some k_ ≠ (.slice Ao1 x3.length co1 : Value).ownBlock) v3 t690) := ⟨h0_⟩
      replace O1 : Aside0 (Kd.R Kd.string 9 w36 w.heap.size (fun _ => True) u6 x6_2) := ⟨h1_⟩
      replace O3 : Aside0 (Kd.Q k31 31 w36 w.heap.size (fun k_ => some k_ ≠ (v3 : Value).ownBlock) (.slice Ao1 x3.length co1) x3) := ⟨h2_⟩
      replace B0 : Aside0 (w36.heap[g0]? = some (.cells #[.int .i64 a0_0, .int .i64 a0_1, .slice A0_2 l0_2.length c0_2] 34 (0, 0))) := ⟨h3_⟩
      replace B2 : Aside0 (w36.heap[g1]? = some (.cells #[.int .i64 0, .int .i64 0, .slice none 0 0] 34 (0, 0))) := ⟨h4_⟩
      replace B9 : Aside0 (w36.heap[gb686]? = some (.cells #[.int .i64 x1, .int .i64 x2, .slice Ao1 x3.length co1] 34 (0, 0))) := ⟨h5_⟩
      replace B10 : Aside0 (w36.heap[gb694]? = some (.cells #[.int .i64 0, .int .i64 0, .slice none 0 0] 34 (0, 0))) := ⟨h6_⟩
      replace GW0 : Aside0 (w.heap.size ≤ gb694) := ⟨h7_⟩
      replace E3 : Aside0 (w.heap.size ≤ gb694) := ⟨h8_⟩
      replace N6 : Aside0 (g0 ≠ gb694) := ⟨h9_⟩
      replace N7 : Aside0 (gb694 ≠ g0) := ⟨h0⟩
      replace N8 : Aside0 (g1 ≠ gb694) := ⟨h1⟩
      replace N9 : Aside0 (gb694 ≠ g1) := ⟨h2⟩
      replace N10 : Aside0 (gb686 ≠ gb694) := ⟨h3⟩
      replace N11 : Aside0 (gb694 ≠ gb686) := ⟨h4⟩
      replace HB : Aside0 (Below w.heap.size w w36) := ⟨h5⟩
      clear h0_ h1_ h2_ h3_ h4_ h5_ h6_ h7_ h8_ h9_ h0 h1 h2 h3 h4 h5
      have hHeld : w36.cell? ⟨gb686, 0, none⟩ = some (.int .i64 x1) ∧ w36.cell? ⟨gb686, 1, none⟩ = some (.int .i64 x2) ∧ w36.cell? ⟨gb686, 2, none⟩ = some (.slice Ao1 x3.length co1) ∧ w36.cell? (ad0.add (x8_2).toNat) = some (.string (rdOf ByteArray.empty l1 x8_2)) := hS_
      obtain ⟨Ao39, co39, eo2, _⟩ := Kd.Q_slice O4.1
      (first | subst eo2 | (injection eo2 with f1_ f2_ f3_; have f4_ := f1_.symm; have f5_ := f3_.symm; clear f1_ f2_ f3_; subst f4_; subst f5_))
      refine norm_ (a' := ?_) ?_ ?_
      rotate_left
      ·simp only [putAll, Act.put, List.setIfInBounds_toArray, List.set_cons_zero, List.set_cons_succ]
       rfl
      refine sq1 10 none (h := fun K hK => ?_)
      have := sqY3 B10
      have := sqn6 N6 N8 N10 N7 N9 N11
      refine skip_ (w1 := ?_) (by rfl) rfl ?_ ?_
      rotate_left
      ·go_simp
       rfl
      refine hK.out _ _ ⟨((cell_far (p := ⟨gb694, _, none⟩) N10.1 _).trans (((cell_far (p := ⟨gb694, _, none⟩) N10.1 _).trans (((cell_far (p := ⟨gb694, _, none⟩) N10.1 _).trans (hHeld.1)))))), ((cell_far (p := ⟨gb694, _, none⟩) N10.1 _).trans (((cell_far (p := ⟨gb694, _, none⟩) N10.1 _).trans (((cell_far (p := ⟨gb694, _, none⟩) N10.1 _).trans (hHeld.2.1)))))), ((cell_far (p := ⟨gb694, _, none⟩) N10.1 _).trans (((cell_far (p := ⟨gb694, _, none⟩) N10.1 _).trans (((cell_far (p := ⟨gb694, _, none⟩) N10.1 _).trans (hHeld.2.2.1)))))), ((cell_far (p := ⟨gb694, _, none⟩) (Z171 GW0) _).trans (((cell_far (p := ⟨gb694, _, none⟩) (Z171 GW0) _).trans (((cell_far (p := ⟨gb694, _, none⟩) (Z171 GW0) _).trans (hHeld.2.2.2))))))⟩ (fun hHeld => ?_)
      clear hK K
      refine sqP 11 (some 10) (h := ?_)
      refine done_ (done_of HT_.out (by kernel_rfl)) ?_
      have := sqn6 N7 N6 N9 N8 N11 N10
      have := sqY3 B10
      have := sqn4 N3 N2 N5 N4
      have := sqY3 B9
      try go_wp2_with (first | ((with_reducible refine gate_builtin (b := .append) (xs := #[.tmp 40, .tmp 42]) rfl ?_); (try (refine gate_guard (by rfl) ?_; dsimp only)); at_builtin; refine Kd.R_append Kd.string (w0 := w) w.heap.size rfl (.tmp 40) (.tmp 42) 73 9 (.string ⟨#[]⟩) 16 rfl underlying73 info9 rfl (by decide) (by omega) u6 x6_2 t4 [.string t4] (fun _ => True) (fun _ => False) rfl Z17 ?aP (fun _ hk => hk.elim) ?aF ?aO ?aB ?aS ?aL ?_; (case aP => exact rfl); (case aB => exact (sqB4 HB E0 E1 E2 E3)); (case aF => exact Z25); (case aO => exact (by (with_reducible repeat (first | apply Kd.R_alloc | apply Kd.R_drewN | apply Kd.R_drew)); exact Kd.R_mono (Kd.R_far (p := ⟨gb686, 2, none⟩) (Kd.R_far (p := ⟨gb686, 1, none⟩) (Kd.R_far (p := ⟨gb686, 0, none⟩) (Kd.R_far (p := ⟨gb694, 2, none⟩) (Kd.R_far (p := ⟨gb694, 1, none⟩) (Kd.R_far (p := ⟨gb694, 0, none⟩) (Kd.R_types (Kd.R_types O1.1 B10.1 (by decide)) B9.1 (by decide)) (fun _ hk => hk.1.2) (.int .i64 t688)) (fun _ hk => hk.1.2) (.int .i64 t689)) (fun _ hk => hk.1.2) (.slice Ao39 t690.length co39)) (fun _ hk => hk.2) (.int .i64 t688)) (fun _ hk => hk.2) (.int .i64 t689)) (fun _ hk => hk.2) (.slice Ao39 t690.length co39)) (fun _ hk => trivial))); (case aS => exact (below_size (sqB4 HB E0 E1 E2 E3))); (case aL => exact Z2 LMc0); intro v4 w48 ho hb hg hat; rw [← Ny1.out] at ho; replace O3 := sqa (Kd.Q_over' (Z73 O3 B10 B9) (Kd.R_typed (Z74 O1 B10 B9)) (by decide) hg); replace B0 := sqa (blk_grown (g := g0) (o := .cells #[.int .i64 a0_0, .int .i64 a0_1, .slice A0_2 l0_2.length c0_2] 34 (0, 0)) (Z75 N2 N6 B0) hg (Kd.R_ne O1.1 B0.1 (by decide))); replace B2 := sqa (blk_grown (g := g1) (o := .cells #[.int .i64 0, .int .i64 0, .slice none 0 0] 34 (0, 0)) (Z75 N4 N8 B2) hg (Kd.R_ne O1.1 B2.1 (by decide))); replace O4 := sqa (Kd.Q_over' (Z73 O4 B10 B9) (Kd.R_typed (Z74 O1 B10 B9)) (by decide) hg); replace B9 := sqa (blk_grown (g := gb686) (o := .cells #[.int .i64 t688, .int .i64 t689, .slice Ao39 t690.length co39] 34 (0, 0)) (by refine sqPut (cs := #[.int .i64 t688, .int .i64 t689, .slice Ao1 x3.length co1]) ?_ 2; refine sqPut (cs := #[.int .i64 t688, .int .i64 x2, .slice Ao1 x3.length co1]) ?_ 1; refine sqPut (cs := #[.int .i64 x1, .int .i64 x2, .slice Ao1 x3.length co1]) ?_ 0; refine sqFar ?_ N10; refine sqFar ?_ N10; refine sqFar ?_ N10; exact sqK B9) hg (Kd.R_ne O1.1 B9.1 (by decide))); replace B10 := sqa (blk_grown (g := gb694) (o := .cells #[.int .i64 t688, .int .i64 t689, .slice Ao39 t690.length co39] 34 (0, 0)) (by refine sqFar ?_ N11; refine sqFar ?_ N11; refine sqFar ?_ N11; refine sqPut (cs := #[.int .i64 t688, .int .i64 t689, .slice none 0 0]) ?_ 2; refine sqPut (cs := #[.int .i64 t688, .int .i64 0, .slice none 0 0]) ?_ 1; refine sqPut (cs := #[.int .i64 0, .int .i64 0, .slice none 0 0]) ?_ 0; exact sqK B10) hg (Kd.R_ne O1.1 B10.1 (by decide))); replace HB := sqa (hb); have O5 := sqa (ho); clear O1; clear ho hb hg hat))
      go_roundg k2
      case measure => have := HJ2.out; have := HK2.out; omega
      case rel => exact ⟨(y1), (wrap64 (x8_2 + 1)), (t688), (t689), (t690), (.slice Ao39 t690.length co39), Z1, H', ⟨Z21 HK2⟩, ⟨sqR O5⟩, ⟨by (with_reducible repeat (first | apply Kd.Q_alloc | apply Kd.Q_drewN | apply Kd.Q_drew)); exact Kd.Q_mono O4.1 (fun _ hk => trivial)⟩, ⟨sqK B0⟩, ⟨sqK B2⟩, ⟨sqK B9⟩, ⟨sqB4 HB E0 E1 E2 E3⟩⟩
     obtain ⟨rfl, rfl, rfl, rfl⟩ := sqO4 H
     have := sqn4 N3 N2 N5 N4
     have := sqY3 B9
     have := sqn2 N1 N0
     have := sqY3 B2
     obtain ⟨Ao2, co2, eo3, _⟩ := Kd.Q_slice O3.1
     subst eo3
     go_wp2
     refine sqE g1 34 #[.int .i64 x1, .int .i64 x2, .slice Ao2 x3.length co2] (by refine sqPut (cs := #[.int .i64 x1, .int .i64 x2, .slice none 0 0]) ?_ 2; refine sqPut (cs := #[.int .i64 x1, .int .i64 0, .slice none 0 0]) ?_ 1; refine sqPut (cs := #[.int .i64 0, .int .i64 0, .slice none 0 0]) ?_ 0; exact sqK B2) underlying34 ?_
     exact ⟨_, _, Z5, by (with_reducible repeat (first | apply Kd.Q_alloc | apply Kd.Q_drewN | apply Kd.Q_drew)); exact Kd.Q_mono (sqq3 O3.1 B2.1) (fun _ hk => trivial), by (with_reducible repeat (first | apply Kd.R_alloc | apply Kd.R_drewN | apply Kd.R_drew)); exact Kd.R_mono (sqr3 O1.1 B2.1) (fun _ hk => trivial), sqB3 HB E0 E1 E2⟩

end Go.Proofs.YtofmlbgfcohhoaaGreatDoor.PFnDeskSay
