import Derived.Test.YtofmlbgfcohhoaaGreatDoorPFnExactDeskSayx14
set_option maxHeartbeats 8000000
set_option maxRecDepth 100000
namespace Go.Proofs.YtofmlbgfcohhoaaGreatDoor.PFnExactDeskSay
open Go.RowKit Go.Proofs.YtofmlbgfcohhoaaGreatDoorW.PrintWords Go.Proofs.YtofmlbgfcohhoaaGreatDoorW.PrintLast Go.Proofs.YtofmlbgfcohhoaaGreatDoorW.PrintMore Go.Proofs.YtofmlbgfcohhoaaGreatDoor.Lib Go.Proofs.Tryz
attribute [local go_sem] max2_int min2_int max_two min_two max_three min_three max_four min_four   -- for this text's walks alone
set_option linter.unusedVariables false
set_option linter.unusedSimpArgs false

/-! ### spec_DeskSay: function 46 -/
mutual
def spec_DeskSay.j0 : Nat → List ByteArray → List ByteArray → Bool → Int → Int → List (S31) → Option (Int × Int × (List (S31)) × List ByteArray)
 | 0, _, _, _, _, _, _ => none
 | k + 1, x1, x6, x19, x0, x2, x3 => if x19 = true then (some (0, 0, ([] : List (S31)), x6)) else ((spec_l11Copy.f x0 x2 x3).bind fun bt0 => (spec_DeskSay.l0 k x1 x6 0 bt0.1 bt0.2.1 bt0.2.2))
def spec_DeskSay.l0 : Nat → List ByteArray → List ByteArray → Int → Int → Int → List (S31) → Option (Int × Int × (List (S31)) × List ByteArray)
 | 0, _, _, _, _, _, _ => none
 | k + 1, x1, x6, x8, x0, x2, x3 => if x8 < (x1.length : Int) then (if 0 ≤ x8 then ((spec_DeskLine.f k x0 x2 x3 (rdOf ByteArray.empty x1 x8)).bind fun bt0 => (if x6.length < 8796093022208 then (spec_DeskSay.l0 k x1 (x6 ++ [bt0.2.2.2]) (wrap64 (x8 + 1)) bt0.1 bt0.2.1 bt0.2.2.1) else (none))) else (none)) else (some (x0, x2, x3, x6))
end
def spec_DeskSay.f (k : Nat) (a0_0 : Int) (a0_1 : Int) (l0_2 : List (S31)) (l1 : List ByteArray) : Option (Int × Int × (List (S31)) × List ByteArray) := (some (([] : List ByteArray) : List ByteArray)).bind fun y0 => ((spec_DeskOk.f k a0_0 a0_1 l0_2).bind fun t0 => (if t0 = true then (spec_DeskSay.j0 k l1 y0 (decide ((l1.length : Int) > 40)) a0_0 a0_1 l0_2) else (spec_DeskSay.j0 k l1 y0 true a0_0 a0_1 l0_2)))
abbrev spec_DeskSay.M (k : Nat) : Prop := (∀ y0 y1 y2 y3 y4 y5, LeO (spec_DeskSay.j0 k y0 y1 y2 y3 y4 y5) (spec_DeskSay.j0 (k + 1) y0 y1 y2 y3 y4 y5)) ∧ (∀ y0 y1 y2 y3 y4 y5, LeO (spec_DeskSay.l0 k y0 y1 y2 y3 y4 y5) (spec_DeskSay.l0 (k + 1) y0 y1 y2 y3 y4 y5))
theorem spec_DeskSay.mono_t : ∀ k, spec_DeskSay.M k → spec_DeskSay.M (k + 1) ∧ ∀ a0 a1 a2 a3, LeO (spec_DeskSay.f k a0 a1 a2 a3) (spec_DeskSay.f (k + 1) a0 a1 a2 a3) := by
  rintro k ⟨ih0, ih1⟩
  refine ⟨⟨?_, ?_⟩, ?_⟩ <;> intros <;> (first | unfold spec_DeskSay.j0 | unfold spec_DeskSay.l0 | unfold spec_DeskSay.f) <;> repeat' (with_reducible first | exact ih0 _ _ _ _ _ _ | exact ih1 _ _ _ _ _ _ | exact spec_DeskLine.mono _ _ _ _ _ | exact spec_DeskOk.mono _ _ _ _ | exact LeO.refl _ | exact LeO.none _ | refine LeO.ite ?_ ?_ | refine LeO.bind ?_ fun _ => ?_)
theorem spec_DeskSay.mono_l : ∀ k, spec_DeskSay.M k
 | 0 => ⟨fun _ _ _ _ _ _ r h => by simp [spec_DeskSay.j0] at h, fun _ _ _ _ _ _ r h => by simp [spec_DeskSay.l0] at h⟩
 | k + 1 => (spec_DeskSay.mono_t k (spec_DeskSay.mono_l k)).1
theorem spec_DeskSay.mono a0 a1 a2 a3 k : LeO (spec_DeskSay.f k a0 a1 a2 a3) (spec_DeskSay.f (k + 1) a0 a1 a2 a3) := (spec_DeskSay.mono_t k (spec_DeskSay.mono_l k)).2 a0 a1 a2 a3
def spec_DeskSay.T8 : Bool × List (List Nat × List Nat) := (true, [([], []), ([], []), ([], []), ([1, 2], [1, 2]), ([3], [3]), ([0, 4], [0, 4]), ([5], [5]), ([6], [6]), ([6], [6]), ([], []), ([9, 7, 5, 0, 1, 2, 3, 4, 5, 6, 7, 9], [7, 9]), ([8, 10, 0, 1, 2, 3, 4, 5, 6, 7, 8, 9, 10], [8])])
def spec_DeskSay.B8 : List Nat := [0, 0, 0, 6, 14, 31, 63, 127, 127, 0, 767, 2047]
theorem spec_DeskSay.tab8 : rtab .any (opsOf f46 8) = spec_DeskSay.T8 := by kernel_rfl
theorem spec_DeskSay.bits8 : waitsOk spec_DeskSay.T8.2 spec_DeskSay.B8 = true := by kernel_rfl
theorem spec_DeskSay.calls (k : Nat) (a0_0 : Int) (a0_1 : Int) (A0_2 : Option Addr) (c0_2 : Nat) (l0_2 : List (S31)) (A1 : Option Addr) (c1 : Nat) (l1 : List ByteArray) (r1 : Int) (r2 : Int) (r3 : List (S31)) (r4 : List ByteArray) (w : World) (hr0_2 : Kd.C k31 w A0_2 l0_2.length l0_2) (hc0_2 : l0_2.length ≤ c0_2) (hr1 : Kd.C Kd.string w A1 l1.length l1) (hc1 : l1.length ≤ c1) (H : spec_DeskSay.f k a0_0 a0_1 l0_2 l1 = some (r1, r2, r3, r4)) :
  Calls prog 46 #[.agg #[.int .i64 a0_0, .int .i64 a0_1, .slice A0_2 l0_2.length c0_2], .slice A1 l1.length c1] w fun e w' => ∃ v2_ v3_ : Value, e = .returned (.tuple #[.agg #[.int .i64 r1, .int .i64 r2, v2_], v3_]) ∧ Kd.Q k31 31 w' w.heap.size (fun _ => True) v2_ r3 ∧ Kd.R Kd.string 9 w' w.heap.size (fun _ => True) v3_ r4 ∧ Below w.heap.size w w' := by
 have hu34 := underlying34
 have HR0_2 := sqa hr0_2
 have HC0_2 := sqa hc0_2
 clear hr0_2 hc0_2
 have HR1 := sqa hr1
 have HC1 := sqa hc1
 clear hr1 hc1
 have HB := sqh w
 unfold spec_DeskSay.f at H
 obtain ⟨y0, hy0⟩ : ∃ y_ : List ByteArray, y_ = (([] : List ByteArray)) := ⟨_, rfl⟩
 replace H : ((spec_DeskOk.f k a0_0 a0_1 l0_2).bind fun t0 => (if t0 = true then (spec_DeskSay.j0 k l1 y0 (decide ((l1.length : Int) > 40)) a0_0 a0_1 l0_2) else (spec_DeskSay.j0 k l1 y0 true a0_0 a0_1 l0_2))) = some (r1, r2, r3, r4) := sqW hy0 H
 have Ny0 := sqa hy0
 clear hy0
 have HC3 := sqa H
 clear H
 go_enter func46, ntmps46
 go_upto_region 2 with (first | ((with_reducible refine sqd 2 rfl ?_); (try (refine gate_guard (by rfl) ?_; dsimp only)); refine sqBx w (sqB HB) (cs := #[.int .i64 a0_0, .int .i64 a0_1, .slice A0_2 l0_2.length c0_2]) (t := 34) ?_; intro g0 hg w4 B0 E0 HB hb; clear hb hg) | ((with_reducible refine sqd 4 rfl ?_); (try (refine gate_guard (by rfl) ?_; dsimp only)); refine sqBx w (sqB1 HB E0) (cs := #[.int .i64 0, .int .i64 0, .slice none 0 0]) (t := 34) ?_; intro g1 hg w5 B2 E1 HB hb; obtain ⟨N0, N1⟩ := sqM hg B0; replace B0 := sqT B0 hb; clear hb hg) | ((with_reducible refine sqd 11 rfl ?_); (try (refine gate_guard (by rfl) ?_; dsimp only)); refine Kd.R_lit Kd.string _ 9 ?hg (N := 11) ?hd (xs := ([] : List ByteArray)) (inner := []) (ok := fun _ => True) (okp := fun _ => True) ?hr ?hp (fun _ hk => hk) trivial (Below.refl _ _) (Nat.le_refl _) (by simp) ?_; (case hd => rfl); (case hg => rfl); (case hr => exact Z10); (case hp => exact Z36); intro v0 w6 ho7 hb hg_ hnew_; clear hg_ hnew_; (first | rw [← Ny0.out] at ho7 | (simp only [Int.reduceToNat] at ho7; rw [← Ny0.out] at ho7)); have O0 := sqL ho7 (sqB2 HB E0 E1); replace B0 := sqT B0 hb; replace B2 := sqT B2 hb; replace HB := sqS (sqB2 HB E0 E1) hb; clear hb ho7))
 (try simp only [Act.put, List.setIfInBounds_toArray, List.set_cons_zero, List.set_cons_succ])
 go_cut [19] (fun v19 wc => ∃ (kq : Nat) (x19_2 : Bool), v19 = .bool x19_2 ∧ Aside0 (spec_DeskSay.j0 kq l1 y0 x19_2 a0_0 a0_1 l0_2 = some (r1, r2, r3, r4)) ∧ Aside0 (kq ≤ k) ∧ Aside0 (Kd.R Kd.string 9 wc w.heap.size (fun _ => True) v0 y0) ∧ Aside0 (wc.heap[g0]? = some (.cells #[.int .i64 a0_0, .int .i64 a0_1, (.slice A0_2 l0_2.length c0_2)] 34 (0, 0))) ∧ Aside0 (wc.heap[g1]? = some (.cells #[.int .i64 0, .int .i64 0, (.slice none 0 0)] 34 (0, 0))) ∧ Aside0 (Below w.heap.size w wc))
 case first =>
  have H := HC3.1
  clear HC3
  obtain ⟨t0, A8, H⟩ := sqD H
  by_cases c9 : t0 = true
  ·subst c9
   rw [if_pos rfl] at H
   have H' := sqa H
   clear H
   have := N0.1
   have := N1.1
   obtain ⟨_, _, _, _, _, _⟩ := sqY3 B0
   go_wp2_with (first | ((with_reducible refine sqc 30 rfl ?_); refine sqC (some 13) func30 #[.agg #[.int .i64 a0_0, .int .i64 a0_1, .slice A0_2 l0_2.length c0_2]] ?_; (with_reducible refine (spec_DeskOk.calls k a0_0 a0_1 _ _ l0_2 true _ ?side1 ?side2 A8.1).mono ?_); (case side1 => exact Z2); (case side2 => exact Z3); refine sqV fun w12 hb => ?_; replace O0 := sqU O0 hb; replace B0 := sqT B0 hb; replace B2 := sqT B2 hb; replace HB := sqS (sqB2 HB E0 E1) hb; (try clear hb)))
   go_meet
   case rel => exact ⟨_, (decide ((l1.length : Int) > 40)), Z4, H', ⟨Z5⟩, ⟨sqR O0⟩, ⟨sqK B0⟩, ⟨sqK B2⟩, ⟨sqB2 HB E0 E1⟩⟩
  obtain rfl := sqb c9
  rw [if_neg sqF] at H
  have H' := sqa H
  clear H
  have := N0.1
  have := N1.1
  obtain ⟨_, _, _, _, _, _⟩ := sqY3 B0
  go_wp2_with (first | ((with_reducible refine sqc 30 rfl ?_); refine sqC (some 13) func30 #[.agg #[.int .i64 a0_0, .int .i64 a0_1, .slice A0_2 l0_2.length c0_2]] ?_; (with_reducible refine (spec_DeskOk.calls k a0_0 a0_1 _ _ l0_2 false _ ?side1 ?side2 A8.1).mono ?_); (case side1 => exact Z2); (case side2 => exact Z3); refine sqV fun w15 hb => ?_; replace O0 := sqU O0 hb; replace B0 := sqT B0 hb; replace B2 := sqT B2 hb; replace HB := sqS (sqB2 HB E0 E1) hb; (try clear hb)))
  go_meet
  case rel => exact ⟨_, (true), Z4, H', ⟨Z5⟩, ⟨sqR O0⟩, ⟨sqK B0⟩, ⟨sqK B2⟩, ⟨sqB2 HB E0 E1⟩⟩
 case rest =>
  clear HC3
  obtain ⟨kq, x19_2, rfl, HA, HJ2, O1, B0, B2, HB⟩ := hcut
  cases kq with
  | zero => exact absurd HA.out (by simp [spec_DeskSay.j0])
  | succ kj2 =>
   have H := HA.out
   clear HA
   simp only [spec_DeskSay.j0] at H
   by_cases c16 : x19_2 = true
   ·subst c16
    rw [if_pos rfl] at H
    obtain ⟨rfl, rfl, rfl, rfl⟩ := sqO4 H
    have := N1.1
    have := N0.1
    obtain ⟨_, _, _, _, _, _⟩ := sqY3 B2
    go_wp2
    refine sqE g1 34 #[.int .i64 0, .int .i64 0, .slice none 0 0] (Z20 B2) underlying34 ?_
    exact ⟨_, _, Z16, Kd.Q_of_R Z21, by (with_reducible repeat (first | apply Kd.R_alloc | apply Kd.R_drewN | apply Kd.R_drew)); exact Kd.R_mono (sqr3 O1.1 B2.1) (fun _ hk => trivial), sqB2 HB E0 E1⟩
   obtain rfl := sqb c16
   rw [if_neg sqF] at H
   obtain ⟨⟨t1, t2, t3⟩, A19, H⟩ := sqD H
   try dsimp only at H
   have H' := sqa H
   clear H
   have := N0.1
   have := N1.1
   obtain ⟨_, _, _, _, _, _⟩ := sqY3 B0
   go_wp2_with (first | ((with_reducible refine sqc 56 rfl ?_); refine sqC (some 23) func56 #[.agg #[.int .i64 a0_0, .int .i64 a0_1, .slice A0_2 l0_2.length c0_2]] ?_; (with_reducible refine (spec_l11Copy.calls a0_0 a0_1 _ _ l0_2 t1 t2 t3 _ ?side1 ?side2 A19.1).mono ?_); (case side1 => exact Z2); (case side2 => exact Z3); rintro e w22 ⟨v1, rfl, ho0, hb⟩; refine ⟨_, rfl, ?_⟩; replace O1 := sqU O1 hb; have O2 := sqL ho0 (sqB2 HB E0 E1); replace B0 := sqT B0 hb; replace B2 := sqT B2 hb; replace HB := sqS (sqB2 HB E0 E1) hb; (try clear hb); (try clear ho0)) | ((with_reducible refine sqd 7 rfl ?_); (try (refine gate_guard (by rfl) ?_; dsimp only)); refine sqBx w (sqB2 HB E0 E1) (cs := #[.int .i64 0, .int .i64 0, .slice none 0 0]) (t := 34) ?_; intro gb458 hg w23 B9 E2 HB hb; replace O1 := sqU O1 hb; replace O2 := sqU O2 hb; obtain ⟨N2, N3⟩ := sqM hg B0; replace B0 := sqT B0 hb; obtain ⟨N4, N5⟩ := sqM hg B2; replace B2 := sqT B2 hb; clear hb hg; have := N3.1; have := N2.1; have := N5.1; have := N4.1; obtain ⟨_, _, _, _, _, _⟩ := sqY3 B9; obtain ⟨Ao27, co27, eo27⟩ := Kd.R_slice O2.1; subst eo27))
   go_loopg [6, 8] kj2 (fun kq v6 v8 w' => ∃ (x6_2 : List ByteArray) (x8_2 : Int) (x0 : Int) (x1 : Int) (x2 : List (S31)) (u459002 : Value), v8 = .int .i64 x8_2 ∧ Aside0 (spec_DeskSay.l0 kq l1 x6_2 x8_2 x0 x1 x2 = some (r1, r2, r3, r4)) ∧ Aside0 (kq ≤ kj2) ∧ Aside0 (Kd.R Kd.string 9 w' w.heap.size (fun _ => True) v6 x6_2) ∧ Aside0 (Kd.Q k31 31 w' w.heap.size (fun _ => True) u459002 x2) ∧ Aside0 (w'.heap[g0]? = some (.cells #[.int .i64 a0_0, .int .i64 a0_1, (.slice A0_2 l0_2.length c0_2)] 34 (0, 0))) ∧ Aside0 (w'.heap[g1]? = some (.cells #[.int .i64 0, .int .i64 0, (.slice none 0 0)] 34 (0, 0))) ∧ Aside0 (w'.heap[gb458]? = some (.cells #[.int .i64 x0, .int .i64 x1, u459002] 34 (0, 0))) ∧ Aside0 (Below w.heap.size w w'))
   case atStart => exact ⟨(y0), (0), (t1), (t2), (t3), (.slice Ao27 t3.length co27), Z4, H', ⟨Nat.le_refl _⟩, ⟨Z37 O1 B9⟩, ⟨Kd.Q_of_R (Z37 O2 B9)⟩, ⟨Z7 N2 B0⟩, ⟨Z7 N4 B2⟩, ⟨by refine sqPut (cs := #[.int .i64 t1, .int .i64 t2, .slice none 0 0]) ?_ 2; refine sqPut (cs := #[.int .i64 t1, .int .i64 0, .slice none 0 0]) ?_ 1; refine sqPut (cs := #[.int .i64 0, .int .i64 0, .slice none 0 0]) ?_ 0; exact sqK B9⟩, ⟨sqB3 HB E0 E1 E2⟩⟩
   case round =>
    clear H'
    obtain ⟨x6_2, x8_2, x0, x1, x2, u459002, rfl, HA, HK2, O1, O3, B0, B2, B9, HB⟩ := hrel
    cases gk with
    | zero => exact absurd HA.out (by simp [spec_DeskSay.l0])
    | succ k2 =>
     have H := HA.out
     clear HA
     simp only [spec_DeskSay.l0] at H
     by_cases c28 : x8_2 < (l1.length : Int)
     ·rw [if_pos c28] at H
      have c28b0 : decide (x8_2 < (l1.length : Int)) = true := decide_eq_true c28
      clear c28
      obtain ⟨c29, H⟩ := sqI H
      have c29b0 : decide (0 ≤ x8_2) = true := decide_eq_true c29
      clear c29
      obtain ⟨⟨t460, t461, t462, t4⟩, A30, H⟩ := sqD H
      try dsimp only at H
      obtain ⟨c31, H⟩ := sqI H
      have LMc31 := sqa c31
      clear c31
      obtain ⟨y1, hy1⟩ : ∃ y_ : List ByteArray, y_ = (x6_2 ++ [t4]) := ⟨_, rfl⟩
      replace H : (spec_DeskSay.l0 k2 l1 y1 (wrap64 (x8_2 + 1)) t460 t461 t462) = some (r1, r2, r3, r4) := sqW hy1 H
      have Ny1 := sqa hy1
      clear hy1
      have H' := sqa H
      clear H
      obtain ⟨Ao32, co32, eo32, _⟩ := Kd.Q_slice O3.1
      subst eo32
      try go_wp2
      replace O1 := sqa (Kd.R_drew O1.1)
      replace O3 := sqa (Kd.Q_drew O3.1)
      replace B0 := sqa (blk_drew B0.1)
      replace B2 := sqa (blk_drew B2.1)
      replace B9 := sqa (blk_drew B9.1)
      replace HB := sqa (below_drew1 HB.1)
      have p0 : 0 ≤ (x8_2 : Int) := of_decide_eq_true Z9
      have q0 : x8_2 < (l1.length : Int) := of_decide_eq_true Z9
      obtain ⟨ad0, e0, hx0⟩ := Kd.at_string HR1.1 x8_2 p0 q0
      have hw459_0 := hx0
      cases e0
      replace hx0 := (HB.1.cell (World.block_lt_of_cell? w _ hx0)).trans hx0
      replace p0 := eq_true p0
      replace q0 := eq_true q0
      refine start_ (n := 12) (S := fun w' => w'.cell? ⟨gb458, 0, none⟩ = some (.int .i64 x0) ∧ w'.cell? ⟨gb458, 1, none⟩ = some (.int .i64 x1) ∧ w'.cell? ⟨gb458, 2, none⟩ = some (.slice Ao32 x2.length co32) ∧ w'.cell? (ad0.add (x8_2).toNat) = some (.string (rdOf ByteArray.empty l1 x8_2))) (ds := []) #[false, false, false, false, false, false, false, false, false, false, false, false] (by kernel_rfl) rfl rfl ⟨(blk_cell B9.1 0).trans rfl, (blk_cell B9.1 1).trans rfl, (blk_cell B9.1 2).trans rfl, ((HB.1.cell (World.block_lt_of_cell? w _ hw459_0)).trans hw459_0)⟩ (fun hHeld => ?_); refine with_tabW spec_DeskSay.tab8 spec_DeskSay.bits8 (fun HT_ HW_ => ?_)
      generalize wr.drew = w33 at O1 O3 B0 B2 B9 HB hx0 hHeld ⊢
      refine sqP 1 (some 32) (h := ?_)
      refine sqP 2 (some 33) (h := ?_)
      refine sqP 3 (some 34) (h := ?_)
      refine sqQ 0 (some 31) hHeld (h := ?_)
      refine sqQ 4 (some 35) hHeld (h := ?_)
      refine join_ (σ := Value × Nat) 2 #[true, true, true, true, true, true, true, true, true, true, false, false] (fun s_ => [(36, .tuple #[.agg #[.int .i64 t460, .int .i64 t461, s_.1], .string t4]), (9, .pointer (some ⟨s_.2, 0, none⟩)), (30, .tuple #[.agg #[.int .i64 t460, .int .i64 t461, s_.1], .string t4]), (37, .agg #[.int .i64 t460, .int .i64 t461, s_.1]), (38, .string t4)]) (fun s_ w' => (w'.cell? ⟨gb458, 0, none⟩ = some (.int .i64 x0) ∧ w'.cell? ⟨gb458, 1, none⟩ = some (.int .i64 x1) ∧ w'.cell? ⟨gb458, 2, none⟩ = some (.slice Ao32 x2.length co32) ∧ w'.cell? (ad0.add (x8_2).toNat) = some (.string (rdOf ByteArray.empty l1 x8_2))) ∧ (Kd.Q k31 31 w' w.heap.size (fun k_ => some k_ ≠ (.slice Ao32 x2.length co32 : Value).ownBlock) s_.1 t462) ∧ (Kd.Q k31 31 w' w.heap.size (fun k_ => some k_ ≠ (s_.1 : Value).ownBlock) (.slice Ao32 x2.length co32) x2) ∧ (Kd.R Kd.string 9 w' w.heap.size (fun _ => True) u6 x6_2) ∧ (w'.heap[g0]? = some (.cells #[.int .i64 a0_0, .int .i64 a0_1, .slice A0_2 l0_2.length c0_2] 34 (0, 0))) ∧ (w'.heap[g1]? = some (.cells #[.int .i64 0, .int .i64 0, .slice none 0 0] 34 (0, 0))) ∧ (w'.heap[gb458]? = some (.cells #[.int .i64 x0, .int .i64 x1, .slice Ao32 x2.length co32] 34 (0, 0))) ∧ (w'.heap[s_.2]? = some (.cells #[.int .i64 0, .int .i64 0, .slice none 0 0] 34 (0, 0))) ∧ (w.heap.size ≤ s_.2) ∧ (w.heap.size ≤ s_.2) ∧ (g0 ≠ s_.2) ∧ (s_.2 ≠ g0) ∧ (g1 ≠ s_.2) ∧ (s_.2 ≠ g1) ∧ (gb458 ≠ s_.2) ∧ (s_.2 ≠ gb458) ∧ (Below w.heap.size w w')) ?_ ?_
      rotate_left
      ·intro hCont
       refine two_ (i := 5) (j := 9) (Ni := some 36) (Nj := some 9) #[true, true, true, true, true, true, false, false, false, false, false, false] #[true, true, true, true, true, false, false, false, false, true, false, false] rfl rfl rfl rfl (two_of HT_.out (by kernel_rfl)) (by decide) (by decide) (fun K hK => ?_) (fun K hK => ?_)
       ·skip
        refine goes_ func43 (by kernel_rfl) rfl #[.agg #[.int .i64 x0, .int .i64 x1, .slice Ao32 x2.length co32], .string (rdOf ByteArray.empty l1 x8_2)] (by rfl) rfl rfl sqA ?_
        with_reducible refine (spec_DeskLine.calls k2 x0 x1 _ _ x2 (rdOf ByteArray.empty l1 x8_2) t460 t461 t462 t4 _ ?side1 ?side2 A30.1).mono ?_
        (case side1 => exact Z38 O3)
        (case side2 => exact Z39 O3)
        rintro e w34 ⟨v2, rfl, ho0, hb⟩
        refine ⟨_, rfl, ?_⟩
        replace O1 := sqU O1 hb
        have O4 := sqa (Kd.Q_lower (Kd.Q_new' ho0 (Kd.Q_lt (Z12 O3))) (below_size (sqB3 HB E0 E1 E2)))
        replace O3 := sqa (Kd.Q_elder' (Z12 O3) (Kd.Q_base ho0) hb)
        replace B0 := sqT B0 hb
        replace B2 := sqT B2 hb
        replace B9 := sqT B9 hb
        replace HB := sqS (sqB3 HB E0 E1 E2) hb
        (try clear hb)
        (try clear hb2)
        (try clear hk)
        (try clear hi)
        (try clear ho0)
        refine hK.out _ _ ⟨(blk_cell B9.1 0).trans rfl, (blk_cell B9.1 1).trans rfl, (blk_cell B9.1 2).trans rfl, ((HB.1.cell (World.block_lt_of_cell? w _ hw459_0)).trans hw459_0)⟩ (fun hHeld => ?_)
        clear hK K
        refine sqN (some 36) ?_
        refine sqP 6 (some 30) (h := ?_)
        refine sqP 7 (some 37) (h := ?_)
        refine sqP 8 (some 38) (h := ?_)
        refine one_ (i := 9) (N := some 9) #[true, true, true, true, true, true, true, true, true, true, false, false] rfl rfl (one_of HT_.out (by kernel_rfl)) (by decide) (fun K hK => ?_)
        refine box_step ?hg (N := 9) ?hd (cs := #[.int .i64 0, .int .i64 0, .slice none 0 0]) (t := 34) ?hr ?_; (case hd => rfl); (case hg => rfl); (case hr => exact Z10)
        intro gb466 hg w35 hbox hb
        replace O1 := sqU O1 hb
        replace O3 := sqa (Kd.Q_below (Z12 O3) hb)
        replace O4 := sqa (Kd.Q_below (Z12 O4) hb)
        have B10 := sqa (hbox)
        have GW0 := sqa ((sqG hg (sqB3 HB E0 E1 E2)))
        have E3 := sqa ((sqG hg (sqB3 HB E0 E1 E2)))
        replace HB := sqS (sqB3 HB E0 E1 E2) hb
        obtain ⟨N6, N7⟩ := sqM hg B0
        replace B0 := sqT B0 hb
        obtain ⟨N8, N9⟩ := sqM hg B2
        replace B2 := sqT B2 hb
        obtain ⟨N10, N11⟩ := sqM hg B9
        replace B9 := sqT B9 hb
        clear hb hbox hg
        refine hK.out _ _ ⟨(blk_cell B9.1 0).trans rfl, (blk_cell B9.1 1).trans rfl, (blk_cell B9.1 2).trans rfl, ((HB.1.cell (World.block_lt_of_cell? w _ hw459_0)).trans hw459_0)⟩ (fun hHeld => ?_)
        clear hK K
        refine sqN (some 9) ?_
        exact norm_ Z42 (hCont (v2, gb466) _ ⟨hHeld, (Z43 O4), (Z43 O3), (sqR O1), (sqK B0), (sqK B2), (sqK B9), (sqK B10), GW0.1, E3.1, N6.1, N7.1, N8.1, N9.1, N10.1, N11.1, (sqB4 HB E0 E1 E2 E3)⟩)
       ·skip
        refine box_step ?hg (N := 9) ?hd (cs := #[.int .i64 0, .int .i64 0, .slice none 0 0]) (t := 34) ?hr ?_; (case hd => rfl); (case hg => rfl); (case hr => exact Z10)
        intro gb466 hg w34 hbox hb
        replace O1 := sqU O1 hb
        replace O3 := sqa (Kd.Q_below (Z12 O3) hb)
        have B10 := sqa (hbox)
        have GW0 := sqa ((sqG hg (sqB3 HB E0 E1 E2)))
        have E3 := sqa ((sqG hg (sqB3 HB E0 E1 E2)))
        replace HB := sqS (sqB3 HB E0 E1 E2) hb
        obtain ⟨N6, N7⟩ := sqM hg B0
        replace B0 := sqT B0 hb
        obtain ⟨N8, N9⟩ := sqM hg B2
        replace B2 := sqT B2 hb
        obtain ⟨N10, N11⟩ := sqM hg B9
        replace B9 := sqT B9 hb
        clear hb hbox hg
        refine hK.out _ _ ⟨(blk_cell B9.1 0).trans rfl, (blk_cell B9.1 1).trans rfl, (blk_cell B9.1 2).trans rfl, ((HB.1.cell (World.block_lt_of_cell? w _ hw459_0)).trans hw459_0)⟩ (fun hHeld => ?_)
        clear hK K
        refine sqN (some 9) ?_
        refine one_ (i := 5) (N := some 36) #[true, true, true, true, true, true, false, false, false, true, false, false] rfl rfl (one_of HT_.out (by kernel_rfl)) (by decide) (fun K hK => ?_)
        refine goes_ func43 (by kernel_rfl) rfl #[.agg #[.int .i64 x0, .int .i64 x1, .slice Ao32 x2.length co32], .string (rdOf ByteArray.empty l1 x8_2)] (by rfl) rfl rfl sqA ?_
        with_reducible refine (spec_DeskLine.calls k2 x0 x1 _ _ x2 (rdOf ByteArray.empty l1 x8_2) t460 t461 t462 t4 _ ?side1 ?side2 A30.1).mono ?_
        (case side1 => exact Z38 O3)
        (case side2 => exact Z39 O3)
        rintro e w35 ⟨v2, rfl, ho0, hb⟩
        refine ⟨_, rfl, ?_⟩
        replace O1 := sqU O1 hb
        have O4 := sqa (Kd.Q_lower (Kd.Q_new' ho0 (Kd.Q_lt (Z12 O3))) (below_size (sqB4 HB E0 E1 E2 E3)))
        replace O3 := sqa (Kd.Q_elder' (Z12 O3) (Kd.Q_base ho0) hb)
        replace B0 := sqT B0 hb
        replace B2 := sqT B2 hb
        replace B9 := sqT B9 hb
        replace B10 := sqT B10 hb
        replace HB := sqS (sqB4 HB E0 E1 E2 E3) hb
        (try clear hb)
        (try clear hb2)
        (try clear hk)
        (try clear hi)
        (try clear ho0)
        refine hK.out _ _ ⟨(blk_cell B9.1 0).trans rfl, (blk_cell B9.1 1).trans rfl, (blk_cell B9.1 2).trans rfl, ((HB.1.cell (World.block_lt_of_cell? w _ hw459_0)).trans hw459_0)⟩ (fun hHeld => ?_)
        clear hK K
        refine sqN (some 36) ?_
        refine sqP 6 (some 30) (h := ?_)
        refine sqP 7 (some 37) (h := ?_)
        refine sqP 8 (some 38) (h := ?_)
        exact norm_ Z42 (hCont (v2, gb466) _ ⟨hHeld, (Z43 O4), (Z43 O3), (sqR O1), (sqK B0), (sqK B2), (sqK B9), (sqK B10), GW0.1, E3.1, N6.1, N7.1, N8.1, N9.1, N10.1, N11.1, (sqB4 HB E0 E1 E2 E3)⟩)
      rintro ⟨v2, gb466⟩ w36 ⟨hS_, h0_, h1_, h2_, h3_, h4_, h5_, h6_, h7_, h8_, h9_, h10_, h11_, h12_, h13_, h14_, h15_⟩
      replace O4 : Aside0 (Kd.Q k31 31 w36 w.heap.size (fun k_ => some k_ ≠ (.slice Ao32 x2.length co32 : Value).ownBlock) v2 t462) := ⟨h0_⟩
      replace O3 : Aside0 (Kd.Q k31 31 w36 w.heap.size (fun k_ => some k_ ≠ (v2 : Value).ownBlock) (.slice Ao32 x2.length co32) x2) := ⟨h1_⟩
      replace O1 : Aside0 (Kd.R Kd.string 9 w36 w.heap.size (fun _ => True) u6 x6_2) := ⟨h2_⟩
      replace B0 : Aside0 (w36.heap[g0]? = some (.cells #[.int .i64 a0_0, .int .i64 a0_1, .slice A0_2 l0_2.length c0_2] 34 (0, 0))) := ⟨h3_⟩
      replace B2 : Aside0 (w36.heap[g1]? = some (.cells #[.int .i64 0, .int .i64 0, .slice none 0 0] 34 (0, 0))) := ⟨h4_⟩
      replace B9 : Aside0 (w36.heap[gb458]? = some (.cells #[.int .i64 x0, .int .i64 x1, .slice Ao32 x2.length co32] 34 (0, 0))) := ⟨h5_⟩
      replace B10 : Aside0 (w36.heap[gb466]? = some (.cells #[.int .i64 0, .int .i64 0, .slice none 0 0] 34 (0, 0))) := ⟨h6_⟩
      replace GW0 : Aside0 (w.heap.size ≤ gb466) := ⟨h7_⟩
      replace E3 : Aside0 (w.heap.size ≤ gb466) := ⟨h8_⟩
      replace N6 : Aside0 (g0 ≠ gb466) := ⟨h9_⟩
      replace N7 : Aside0 (gb466 ≠ g0) := ⟨h10_⟩
      replace N8 : Aside0 (g1 ≠ gb466) := ⟨h11_⟩
      replace N9 : Aside0 (gb466 ≠ g1) := ⟨h12_⟩
      replace N10 : Aside0 (gb458 ≠ gb466) := ⟨h13_⟩
      replace N11 : Aside0 (gb466 ≠ gb458) := ⟨h14_⟩
      replace HB : Aside0 (Below w.heap.size w w36) := ⟨h15_⟩
      clear h0_ h1_ h2_ h3_ h4_ h5_ h6_ h7_ h8_ h9_ h10_ h11_ h12_ h13_ h14_ h15_
      have hHeld : w36.cell? ⟨gb458, 0, none⟩ = some (.int .i64 x0) ∧ w36.cell? ⟨gb458, 1, none⟩ = some (.int .i64 x1) ∧ w36.cell? ⟨gb458, 2, none⟩ = some (.slice Ao32 x2.length co32) ∧ w36.cell? (ad0.add (x8_2).toNat) = some (.string (rdOf ByteArray.empty l1 x8_2)) := hS_
      obtain ⟨Ao39, co39, eo39, _⟩ := Kd.Q_slice O4.1
      (first | subst eo39 | (injection eo39 with f1_ f2_ f3_; have f4_ := f1_.symm; have f5_ := f3_.symm; clear f1_ f2_ f3_; subst f4_; subst f5_))
      refine norm_ (a' := ?_) ?_ ?_
      rotate_left
      ·simp only [putAll, Act.put, List.setIfInBounds_toArray, List.set_cons_zero, List.set_cons_succ]
       rfl
      refine one_ (i := 10) (N := none) #[true, true, true, true, true, true, true, true, true, true, true, false] rfl rfl (one_of HT_.out (by kernel_rfl)) (by decide) (fun K hK => ?_)
      have hs37 : w36.cell? ⟨gb466, 0, none⟩ = some (.int .i64 0) := (blk_cell B10.1 0).trans rfl
      have hfs37 := blk_frozen B10.1 0
      have hns37_0 := N6.1
      have hns37_1 := N8.1
      have hns37_2 := N10.1
      have hms37_0 := N7.1
      have hms37_1 := N9.1
      have hms37_2 := N11.1
      have hs38 : w36.cell? ⟨gb466, 1, none⟩ = some (.int .i64 0) := (blk_cell B10.1 1).trans rfl
      have hfs38 := blk_frozen B10.1 1
      have hs40 : w36.cell? ⟨gb466, 2, none⟩ = some (.slice none 0 0) := (blk_cell B10.1 2).trans rfl
      have hfs40 := blk_frozen B10.1 2
      refine skip_ (w1 := ?_) (by rfl) rfl ?_ ?_
      rotate_left
      ·go_simp
       rfl
      refine hK.out _ _ ⟨((cell_far (p := ⟨gb466, _, none⟩) N10.1 _).trans (((cell_far (p := ⟨gb466, _, none⟩) N10.1 _).trans (((cell_far (p := ⟨gb466, _, none⟩) N10.1 _).trans (hHeld.1)))))), ((cell_far (p := ⟨gb466, _, none⟩) N10.1 _).trans (((cell_far (p := ⟨gb466, _, none⟩) N10.1 _).trans (((cell_far (p := ⟨gb466, _, none⟩) N10.1 _).trans (hHeld.2.1)))))), ((cell_far (p := ⟨gb466, _, none⟩) N10.1 _).trans (((cell_far (p := ⟨gb466, _, none⟩) N10.1 _).trans (((cell_far (p := ⟨gb466, _, none⟩) N10.1 _).trans (hHeld.2.2.1)))))), ((cell_far (p := ⟨gb466, _, none⟩) (Z131 GW0) _).trans (((cell_far (p := ⟨gb466, _, none⟩) (Z131 GW0) _).trans (((cell_far (p := ⟨gb466, _, none⟩) (Z131 GW0) _).trans (hHeld.2.2.2))))))⟩ (fun hHeld => ?_)
      clear hK K
      refine sqP 11 (some 10) (h := ?_)
      refine done_ (done_of HT_.out (by kernel_rfl)) ?_
      have := N7.1
      have := N6.1
      have := N9.1
      have := N8.1
      have := N11.1
      have := N10.1
      obtain ⟨_, _, _, _, _, _⟩ := sqY3 B10
      have := N3.1
      have := N2.1
      have := N5.1
      have := N4.1
      obtain ⟨_, _, _, _, _, _⟩ := sqY3 B9
      try go_wp2_with (first | ((with_reducible refine gate_builtin (b := .append) (xs := #[.tmp 40, .tmp 42]) rfl ?_); (try (refine gate_guard (by rfl) ?_; dsimp only)); at_builtin; refine Kd.R_append Kd.string (w0 := w) w.heap.size rfl (.tmp 40) (.tmp 42) 73 9 (.string ⟨#[]⟩) 16 rfl underlying73 info9 rfl (by decide) (by omega) u6 x6_2 t4 [.string t4] (fun _ => True) (fun _ => False) rfl Z10 ?aP (fun _ hk => hk.elim) ?aF ?aO ?aB ?aS ?aL ?_; (case aP => exact rfl); (case aB => exact (sqB4 HB E0 E1 E2 E3)); (case aF => exact Z45); (case aO => exact (by (with_reducible repeat (first | apply Kd.R_alloc | apply Kd.R_drewN | apply Kd.R_drew)); exact Kd.R_mono (Kd.R_far (p := ⟨gb458, 2, none⟩) (Kd.R_far (p := ⟨gb458, 1, none⟩) (Kd.R_far (p := ⟨gb458, 0, none⟩) (Kd.R_far (p := ⟨gb466, 2, none⟩) (Kd.R_far (p := ⟨gb466, 1, none⟩) (Kd.R_far (p := ⟨gb466, 0, none⟩) (Kd.R_types (Kd.R_types O1.1 B10.1 (by decide)) B9.1 (by decide)) (fun _ hk => hk.1.2) (.int .i64 t460)) (fun _ hk => hk.1.2) (.int .i64 t461)) (fun _ hk => hk.1.2) (.slice Ao39 t462.length co39)) (fun _ hk => hk.2) (.int .i64 t460)) (fun _ hk => hk.2) (.int .i64 t461)) (fun _ hk => hk.2) (.slice Ao39 t462.length co39)) (fun _ hk => trivial))); (case aS => exact (below_size (sqB4 HB E0 E1 E2 E3))); (case aL => exact Z17 LMc31); intro v3 w48 ho hb hg hat; rw [← Ny1.out] at ho; replace O3 := sqa (Kd.Q_over' (Z46 O3 B10 B9) (Kd.R_typed (Z47 O1 B10 B9)) (by decide) hg); replace B0 := sqa (blk_grown (g := g0) (o := .cells #[.int .i64 a0_0, .int .i64 a0_1, .slice A0_2 l0_2.length c0_2] 34 (0, 0)) (Z48 N2 N6 B0) hg (Kd.R_ne O1.1 B0.1 (by decide))); replace B2 := sqa (blk_grown (g := g1) (o := .cells #[.int .i64 0, .int .i64 0, .slice none 0 0] 34 (0, 0)) (Z48 N4 N8 B2) hg (Kd.R_ne O1.1 B2.1 (by decide))); replace O4 := sqa (Kd.Q_over' (Z46 O4 B10 B9) (Kd.R_typed (Z47 O1 B10 B9)) (by decide) hg); replace B9 := sqa (blk_grown (g := gb458) (o := .cells #[.int .i64 t460, .int .i64 t461, .slice Ao39 t462.length co39] 34 (0, 0)) (by refine sqPut (cs := #[.int .i64 t460, .int .i64 t461, .slice Ao32 x2.length co32]) ?_ 2; refine sqPut (cs := #[.int .i64 t460, .int .i64 x1, .slice Ao32 x2.length co32]) ?_ 1; refine sqPut (cs := #[.int .i64 x0, .int .i64 x1, .slice Ao32 x2.length co32]) ?_ 0; refine sqFar ?_ N10; refine sqFar ?_ N10; refine sqFar ?_ N10; exact sqK B9) hg (Kd.R_ne O1.1 B9.1 (by decide))); replace B10 := sqa (blk_grown (g := gb466) (o := .cells #[.int .i64 t460, .int .i64 t461, .slice Ao39 t462.length co39] 34 (0, 0)) (by refine sqFar ?_ N11; refine sqFar ?_ N11; refine sqFar ?_ N11; refine sqPut (cs := #[.int .i64 t460, .int .i64 t461, .slice none 0 0]) ?_ 2; refine sqPut (cs := #[.int .i64 t460, .int .i64 0, .slice none 0 0]) ?_ 1; refine sqPut (cs := #[.int .i64 0, .int .i64 0, .slice none 0 0]) ?_ 0; exact sqK B10) hg (Kd.R_ne O1.1 B10.1 (by decide))); replace HB := sqa (hb); have O5 := sqa (ho); clear O1; clear ho hb hg hat))
      go_roundg k2
      case measure => have := HJ2.out; have := HK2.out; omega
      case rel => exact ⟨(y1), (wrap64 (x8_2 + 1)), (t460), (t461), (t462), (.slice Ao39 t462.length co39), Z4, H', ⟨Z49 HK2⟩, ⟨sqR O5⟩, ⟨by (with_reducible repeat (first | apply Kd.Q_alloc | apply Kd.Q_drewN | apply Kd.Q_drew)); exact Kd.Q_mono O4.1 (fun _ hk => trivial)⟩, ⟨sqK B0⟩, ⟨sqK B2⟩, ⟨sqK B9⟩, ⟨sqB4 HB E0 E1 E2 E3⟩⟩
     rw [if_neg c28] at H
     have c28b0 : decide (x8_2 < (l1.length : Int)) = false := decide_eq_false c28
     clear c28
     obtain ⟨rfl, rfl, rfl, rfl⟩ := sqO4 H
     have := N3.1
     have := N2.1
     have := N5.1
     have := N4.1
     obtain ⟨_, _, _, _, _, _⟩ := sqY3 B9
     have := N1.1
     have := N0.1
     obtain ⟨_, _, _, _, _, _⟩ := sqY3 B2
     obtain ⟨Ao54, co54, eo54, _⟩ := Kd.Q_slice O3.1
     subst eo54
     go_wp2
     refine sqE g1 34 #[.int .i64 x0, .int .i64 x1, .slice Ao54 x2.length co54] (by refine sqPut (cs := #[.int .i64 x0, .int .i64 x1, .slice none 0 0]) ?_ 2; refine sqPut (cs := #[.int .i64 x0, .int .i64 0, .slice none 0 0]) ?_ 1; refine sqPut (cs := #[.int .i64 0, .int .i64 0, .slice none 0 0]) ?_ 0; exact sqK B2) underlying34 ?_
     exact ⟨_, _, Z16, by (with_reducible repeat (first | apply Kd.Q_alloc | apply Kd.Q_drewN | apply Kd.Q_drew)); exact Kd.Q_mono (sqq3 O3.1 B2.1) (fun _ hk => trivial), by (with_reducible repeat (first | apply Kd.R_alloc | apply Kd.R_drewN | apply Kd.R_drew)); exact Kd.R_mono (sqr3 O1.1 B2.1) (fun _ hk => trivial), sqB3 HB E0 E1 E2⟩

/-! ### laws_toStringS: function 47 -/
def laws_toStringS.l0 : Nat → List ByteArray → List ByteArray → Int → Option (List ByteArray)
 | 0, _, _, _ => none
 | k + 1, x0, x3, x4 => if x4 < (x0.length : Int) then (if 0 ≤ x4 then (if x4 < (x3.length : Int) then (laws_toStringS.l0 k x0 (x3.set (x4 : Int).toNat (rdOf ByteArray.empty x0 x4)) (wrap64 (x4 + 1))) else (none)) else (none)) else (some x3)
def laws_toStringS.f (k : Nat) (l0 : List ByteArray) : Option (List ByteArray) := if 0 ≤ (l0.length : Int) then (if ((l0.length : Int) : Int).toNat ≤ 17592186044416 then (laws_toStringS.l0 k l0 (List.replicate ((l0.length : Int) : Int).toNat (⟨#[]⟩ : ByteArray)) 0) else (none)) else (none)
abbrev laws_toStringS.M (k : Nat) : Prop := (∀ y0 y1 y2, LeO (laws_toStringS.l0 k y0 y1 y2) (laws_toStringS.l0 (k + 1) y0 y1 y2))
theorem laws_toStringS.mono_t : ∀ k, laws_toStringS.M k → laws_toStringS.M (k + 1) ∧ ∀ a0, LeO (laws_toStringS.f k a0) (laws_toStringS.f (k + 1) a0) := by
  rintro k ih0
  refine ⟨?_, ?_⟩ <;> (try unfold laws_toStringS.M) <;> intros <;> (first | unfold laws_toStringS.l0 | unfold laws_toStringS.f) <;> repeat' (with_reducible first | exact ih0 _ _ _ | exact LeO.refl _ | exact LeO.none _ | refine LeO.ite ?_ ?_ | refine LeO.bind ?_ fun _ => ?_)
theorem laws_toStringS.mono_l : ∀ k, laws_toStringS.M k
 | 0 => fun _ _ _ r h => by simp [laws_toStringS.l0] at h
 | k + 1 => (laws_toStringS.mono_t k (laws_toStringS.mono_l k)).1
theorem laws_toStringS.mono a0 k : LeO (laws_toStringS.f k a0) (laws_toStringS.f (k + 1) a0) := (laws_toStringS.mono_t k (laws_toStringS.mono_l k)).2 a0
theorem laws_toStringS.calls (k : Nat) (A0 : Option Addr) (c0 : Nat) (l0 : List ByteArray) (r : List ByteArray) (w : World) (hr0 : Kd.C Kd.string w A0 l0.length l0) (hc0 : l0.length ≤ c0) (H : laws_toStringS.f k l0 = some r) :
  Calls prog 47 #[.slice A0 l0.length c0] w fun e w' => ∃ v0_ : Value, e = .returned (v0_) ∧ Kd.R Kd.string 9 w' w.heap.size (fun _ => True) v0_ r ∧ Below w.heap.size w w' := by
 have HR0 := sqa hr0
 have HC0 := sqa hc0
 clear hr0 hc0
 have HB := sqh w
 unfold laws_toStringS.f at H
 obtain ⟨c2, H⟩ := sqI H
 have c2b0 := eq_true c2
 have c2b1 : decide (0 ≤ (l0.length : Int)) = true := decide_eq_true c2
 clear c2
 obtain ⟨c3, H⟩ := sqI H
 have c3b0 := eq_true c3
 have c3b1 : decide (((l0.length : Int) : Int).toNat ≤ 17592186044416) = true := decide_eq_true c3
 clear c3
 obtain ⟨y0, hy0⟩ : ∃ y_ : List ByteArray, y_ = (List.replicate ((l0.length : Int) : Int).toNat (⟨#[]⟩ : ByteArray)) := ⟨_, rfl⟩
 replace H : (laws_toStringS.l0 k l0 y0 0) = some r := sqW hy0 H
 have Ny0 := sqa hy0
 clear hy0
 have H' := sqa H
 clear H
 go_enter func47, ntmps47
 go_wp2_with (first | ((with_reducible refine sqd 7 rfl ?_); refine Kd.R_make Kd.string _ 9 rfl (N := 7) rfl 73 _ _ rfl (l0.length : Int) rfl rfl underlying73 (.string ⟨#[]⟩) 16 info9 rfl (by decide) (by omega) (⟨#[]⟩ : ByteArray) (ok := fun _ => True) (okp := fun _ => True) rfl (fun _ hk => hk) trivial (of_decide_eq_true Z9) (Nat.le_trans (Nat.mul_le_mul_right _ (of_decide_eq_true Z9 : (l0.length : Int).toNat ≤ 17592186044416)) (by omega)) (Below.refl _ _) (Nat.le_refl _) ?_; intro v0 w4 ho5 hb hg_ hnew_; clear hg_ hnew_; (first | rw [← Ny0.out] at ho5 | (simp only [Int.reduceToNat] at ho5; rw [← Ny0.out] at ho5)); have O0 := sqL ho5 (sqB HB); replace HB := sqS (sqB HB) hb; clear hb ho5))
 go_loopg [4] k (fun kq v4 w' => ∃ (x3_1 : List ByteArray) (x4_1 : Int), v4 = .int .i64 x4_1 ∧ Aside0 (laws_toStringS.l0 kq l0 x3_1 x4_1 = some r) ∧ Aside0 (kq ≤ k) ∧ Aside0 (Kd.R Kd.string 9 w' w.heap.size (fun _ => True) v0 x3_1) ∧ Aside0 (Below w.heap.size w w'))
 case atStart => exact ⟨(y0), (0), Z4, H', ⟨Nat.le_refl _⟩, ⟨sqR O0⟩, ⟨sqB HB⟩⟩
 case round =>
  clear H'
  obtain ⟨x3_1, x4_1, rfl, HA, HK1, O1, HB⟩ := hrel
  cases gk with
  | zero => exact absurd HA.out (by simp [laws_toStringS.l0])
  | succ k1 =>
   have H := HA.out
   clear HA
   simp only [laws_toStringS.l0] at H
   by_cases c6 : x4_1 < (l0.length : Int)
   ·rw [if_pos c6] at H
    have c6b0 : decide (x4_1 < (l0.length : Int)) = true := decide_eq_true c6
    clear c6
    obtain ⟨c7, H⟩ := sqI H
    have c7b0 : decide (0 ≤ x4_1) = true := decide_eq_true c7
    clear c7
    obtain ⟨c8, H⟩ := sqI H
    have c8b0 : decide (x4_1 < (x3_1.length : Int)) = true := decide_eq_true c8
    clear c8
    obtain ⟨y1, hy1⟩ : ∃ y_ : List ByteArray, y_ = (x3_1.set (x4_1 : Int).toNat (rdOf ByteArray.empty l0 x4_1)) := ⟨_, rfl⟩
    replace H : (laws_toStringS.l0 k1 l0 y1 (wrap64 (x4_1 + 1))) = some r := sqW hy1 H
    have Ny1 := sqa hy1
    clear hy1
    have H' := sqa H
    clear H
    have p0 : 0 ≤ (x4_1 : Int) := of_decide_eq_true Z9
    have q0 : x4_1 < (l0.length : Int) := of_decide_eq_true Z9
    obtain ⟨ad0, e0, hx0⟩ := Kd.at_string HR0.1 x4_1 p0 q0
    cases e0
    replace hx0 := (HB.1.cell (World.block_lt_of_cell? w _ hx0)).trans hx0
    replace p0 := eq_true p0
    replace q0 := eq_true q0
    have p9 : 0 ≤ (x4_1 : Int) := of_decide_eq_true Z9
    have q9 : (x4_1 : Int) < ((x3_1.length : Int) : Int) := of_decide_eq_true Z9
    obtain ⟨go9, co9, eo9, g0, gl9, cl9, HG9⟩ := Kd.R_form O1.1 (by omega)
    (first | cases eo9 | (injection eo9 with ea_ en_ ec_; (first | subst ea_ | (injection ea_ with ea_; subst ea_)); subst ec_; clear en_))
    have GB9 := sqa g0
    have GG9 := sqa HG9
    clear g0 gl9 HG9
    obtain ⟨hx9_0, hf9_0⟩ := Kd.R_celln (⟨#[]⟩ : ByteArray) O1.1 (x4_1 : Int) p9 q9
    replace p9 := eq_true p9
    replace q9 := eq_true q9
    have HP10 := Kd.R_putg O1.1 (x4_1 : Int) (rdOf ByteArray.empty l0 x4_1)
    go_wp2_with (first | ((with_reducible refine gate_store (t := 9) (p := 20) rfl ?_); refine store_event (t := 9) (p := 20) (v := ?vo_w11) (w1 := (wr.setCell ⟨go9, (x4_1 : Int).toNat, none⟩ (.string (rdOf ByteArray.empty l0 x4_1)))) ?hg ?ho ?hn ?hr ?_; (case ho => rfl); (case hg => rfl); (case hn => rfl); (case hr => exact Z10); intro w11 hw; have hg : wr.grownBy w11 (some go9) := (by rw [hw]; exact HP10.2); have hp_ : Kd.R Kd.string 9 w11 w.heap.size (fun _ => True) (.slice (some ⟨go9, 0, none⟩) x3_1.length co9) y1 := (by rw [hw, Ny1.out]; exact HP10.1); clear HP10; replace O1 := sqa (hp_); replace HB := sqa ((by rw [hw]; exact below_set (HB.1) GB9.out : Below w.heap.size w w11)); clear hg hw hp_))
    go_roundg k1
    case measure => have := HK1.out; omega
    case rel => exact ⟨(y1), (wrap64 (x4_1 + 1)), Z4, H', ⟨Z17 HK1⟩, ⟨sqR O1⟩, ⟨sqB HB⟩⟩
   rw [if_neg c6] at H
   have c6b0 : decide (x4_1 < (l0.length : Int)) = false := decide_eq_false c6
   clear c6
   obtain rfl := sqo H
   go_wp2
   go_ret
   exact ⟨_, Z16, Z50 O1, sqB HB⟩

end Go.Proofs.YtofmlbgfcohhoaaGreatDoor.PFnExactDeskSay
