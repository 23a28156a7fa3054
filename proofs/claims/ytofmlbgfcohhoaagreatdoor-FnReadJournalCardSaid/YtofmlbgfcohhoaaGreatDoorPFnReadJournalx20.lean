import Derived.Test.YtofmlbgfcohhoaaGreatDoorPFnReadJournalx15
import Derived.Test.YtofmlbgfcohhoaaGreatDoorPFnReadJournalx18
set_option maxHeartbeats 8000000
set_option maxRecDepth 100000
namespace Go.Proofs.YtofmlbgfcohhoaaGreatDoor.PFnReadJournal
open Go.RowKit Go.Proofs.YtofmlbgfcohhoaaGreatDoorW.PrintWords Go.Proofs.YtofmlbgfcohhoaaGreatDoorW.PrintLast Go.Proofs.YtofmlbgfcohhoaaGreatDoorW.PrintMore Go.Proofs.YtofmlbgfcohhoaaGreatDoor.Lib Go.Proofs.Tryz
attribute [local go_sem] max2_int min2_int max_two min_two max_three min_three max_four min_four
set_option linter.unusedVariables false
set_option linter.unusedSimpArgs false

section
attribute [local go_sem high] eqA38
mutual
def F12.j0 : Nat → List (S38) → Bool → Int → Int → List (S31) → Option (Int × Int × (List (S31)) × Int)
 | 0, _, _, _, _, _ => none
 | k + 1, x1, x0, x2, x3, x4 => if x0 = true then (some (0, 0, ([] : List (S31)), 0)) else ((F44.f x2 x3 x4).bind fun bt0 => (F12.l0 k 0 x1 (x1.length : Int) 0 bt0.1 bt0.2.1 bt0.2.2))
def F12.l0 : Nat → Int → List (S38) → Int → Int → Int → Int → List (S31) → Option (Int × Int × (List (S31)) × Int)
 | 0, _, _, _, _, _, _, _ => none
 | k + 1, x6, x0, x1, x2, x3, x4, x5 => if x2 < x1 then (if 0 ≤ x2 then (if x2 < (x0.length : Int) then ((F17.f k x3 x4 x5 ((rd_T38 x0 x2).f0) ((rd_T38 x0 x2).f1)).bind fun bt0 => (if bt0.2.2.2 = true then (F12.l0 k (wrap64 (x6 + 1)) x0 x1 (wrap64 (x2 + 1)) bt0.1 bt0.2.1 bt0.2.2.1) else (F12.l0 k x6 x0 x1 (wrap64 (x2 + 1)) x3 x4 x5))) else (none)) else (none)) else (some (x3, x4, x5, x6))
end
def F12.f (k : Nat) (a0_0 : Int) (a0_1 : Int) (l0_2 : List (S31)) (l1 : List (S38)) : Option (Int × Int × (List (S31)) × Int) := (F47.f k a0_0 a0_1 l0_2).bind fun t0 => (if t0 = true then (F12.j0 k l1 (decide ((l1.length : Int) > 40)) a0_0 a0_1 l0_2) else (F12.j0 k l1 true a0_0 a0_1 l0_2))
abbrev F12.M (k : Nat) : Prop := (∀ y0 y1 y2 y3 y4, LeO (F12.j0 k y0 y1 y2 y3 y4) (F12.j0 (k + 1) y0 y1 y2 y3 y4)) ∧ (∀ y0 y1 y2 y3 y4 y5 y6, LeO (F12.l0 k y0 y1 y2 y3 y4 y5 y6) (F12.l0 (k + 1) y0 y1 y2 y3 y4 y5 y6))
theorem F12.mt : ∀ k, F12.M k → F12.M (k + 1) ∧ ∀ a0 a1 a2 a3, LeO (F12.f k a0 a1 a2 a3) (F12.f (k + 1) a0 a1 a2 a3) := by
  rintro k ⟨ih0, ih1⟩
  refine ⟨⟨?_, ?_⟩, ?_⟩ <;> intros <;> (first | unfold F12.j0 | unfold F12.l0 | unfold F12.f) <;> repeat' (with_reducible first | exact ih0 _ _ _ _ _ | exact ih1 _ _ _ _ _ _ _ | exact F17.m _ _ _ _ _ _ | exact F47.m _ _ _ _ | exact LeO.refl _ | exact LeO.none _ | refine LeO.ite ?_ ?_ | refine LeO.bind ?_ fun _ => ?_)
theorem F12.ml : ∀ k, F12.M k
 | 0 => ⟨fun _ _ _ _ _ r h => by simp [F12.j0] at h, fun _ _ _ _ _ _ _ r h => by simp [F12.l0] at h⟩
 | k + 1 => (F12.mt k (F12.ml k)).1
theorem F12.m a0 a1 a2 a3 k : LeO (F12.f k a0 a1 a2 a3) (F12.f (k + 1) a0 a1 a2 a3) := (F12.mt k (F12.ml k)).2 a0 a1 a2 a3
theorem F12.c (k : Nat) (a0_0 : Int) (a0_1 : Int) (A0_2 : Option Addr) (c0_2 : Nat) (l0_2 : List (S31)) (A1 : Option Addr) (c1 : Nat) (l1 : List (S38)) (r1 : Int) (r2 : Int) (r3 : List (S31)) (r4 : Int) (w : World) (hG : Glob w) (hr0_2 : Kd.C k31 w A0_2 l0_2.length l0_2) (hc0_2 : l0_2.length ≤ c0_2) (hr1 : Kd.C k38 w A1 l1.length l1) (hc1 : l1.length ≤ c1) (H : F12.f k a0_0 a0_1 l0_2 l1 = some (r1, r2, r3, r4)) :
  Calls prog 28 #[.agg #[.int .i64 a0_0, .int .i64 a0_1, .slice A0_2 l0_2.length c0_2], .slice A1 l1.length c1] w fun e w' => ∃ v2_ : Value, e = .returned (.tuple #[.agg #[.int .i64 r1, .int .i64 r2, v2_], .int .i64 r4]) ∧ Kd.R k31 31 w' w.heap.size (fun _ => True) v2_ r3 ∧ Below w.heap.size w w' := by
 have hu34 := underlying34
 have hu38 := underlying38
 have HR0_2 := sqa hr0_2
 have HC0_2 := sqa hc0_2
 clear hr0_2 hc0_2
 have HR1 := sqa hr1
 have HC1 := sqa hc1
 clear hr1 hc1
 have HB := sqh w
 unfold F12.f at H
 have HC3 := sqa H
 clear H
 go_enter func28, ntmps28
 go_upto_region 1 with (first | ((with_reducible refine sqd 2 rfl ?_); (try (refine gate_guard (by rfl) ?_; dsimp only)); refine sqBx w (sqB HB) (cs := #[.int .i64 a0_0, .int .i64 a0_1, .slice A0_2 l0_2.length c0_2]) (t := 34) ?_; intro g0 hg w4 B0 E0 HB hb; clear hb hg) | ((with_reducible refine sqd 4 rfl ?_); (try (refine gate_guard (by rfl) ?_; dsimp only)); refine sqBx w (sqB1 HB E0) (cs := #[.int .i64 0, .int .i64 0, .slice none 0 0]) (t := 34) ?_; intro g1 hg w5 B2 E1 HB hb; obtain ⟨N0, N1⟩ := sqM hg B0; replace B0 := sqT B0 hb; clear hb hg))
 (try simp only [Act.put, List.setIfInBounds_toArray, List.set_cons_zero, List.set_cons_succ])
 go_cut [18] (fun v0 wc => ∃ (kq : Nat) (x0 : Bool), v0 = .bool x0 ∧ Aside0 (F12.j0 kq l1 x0 a0_0 a0_1 l0_2 = some (r1, r2, r3, r4)) ∧ Aside0 (kq ≤ k) ∧ Aside0 (wc.heap[g0]? = some (.cells #[.int .i64 a0_0, .int .i64 a0_1, (.slice A0_2 l0_2.length c0_2)] 34 (0, 0))) ∧ Aside0 (wc.heap[g1]? = some (.cells #[.int .i64 0, .int .i64 0, (.slice none 0 0)] 34 (0, 0))) ∧ Aside0 (Below w.heap.size w wc))
 case first =>
  have H := HC3.1
  clear HC3
  obtain ⟨t0, A6, H⟩ := sqD H
  by_cases c7 : t0 = true
  ·subst c7
   rw [if_pos rfl] at H
   have H' := sqa H
   clear H
   have := sqn2 N0 N1
   have := sqY3 B0
   go_wp2_with (first | ((with_reducible refine sqc 60 rfl ?_); refine sqC (some 12) func60 #[.agg #[.int .i64 a0_0, .int .i64 a0_1, .slice A0_2 l0_2.length c0_2]] ?_; (with_reducible refine (F47.c k a0_0 a0_1 _ _ l0_2 true _ ?side1 ?side2 A6.1).mono ?_); (case side1 => exact Z1); (case side2 => exact HC0_2.1); refine sqV fun w0 hb => ?_; obtain ⟨B0, B2⟩ := sqT2 hb B0 B2; replace HB := sqS (sqB2 HB E0 E1) hb))
   go_meet
   case rel => exact ⟨_, (decide ((l1.length : Int) > 40)), Z2, H', ⟨Z3⟩, ⟨sqK B0⟩, ⟨sqK B2⟩, ⟨sqB2 HB E0 E1⟩⟩
  obtain rfl := sqb c7
  rw [if_neg sqF] at H
  have H' := sqa H
  clear H
  have := sqn2 N0 N1
  have := sqY3 B0
  go_wp2_with (first | ((with_reducible refine sqc 60 rfl ?_); refine sqC (some 12) func60 #[.agg #[.int .i64 a0_0, .int .i64 a0_1, .slice A0_2 l0_2.length c0_2]] ?_; (with_reducible refine (F47.c k a0_0 a0_1 _ _ l0_2 false _ ?side1 ?side2 A6.1).mono ?_); (case side1 => exact Z1); (case side2 => exact HC0_2.1); refine sqV fun w1 hb => ?_; obtain ⟨B0, B2⟩ := sqT2 hb B0 B2; replace HB := sqS (sqB2 HB E0 E1) hb))
  go_meet
  case rel => exact ⟨_, (true), Z2, H', ⟨Z3⟩, ⟨sqK B0⟩, ⟨sqK B2⟩, ⟨sqB2 HB E0 E1⟩⟩
 case rest =>
  clear HC3
  obtain ⟨kq, x0, rfl, HA, HJ2, B0, B2, HB⟩ := hcut
  cases kq with
  | zero => exact absurd HA.out (by simp [F12.j0])
  | succ kj2 =>
   have H := HA.out
   clear HA
   simp only [F12.j0] at H
   by_cases c0 : x0 = true
   ·subst c0
    rw [if_pos rfl] at H
    obtain ⟨rfl, rfl, rfl, rfl⟩ := sqO4 H
    have := sqn2 N1 N0
    have := sqY3 B2
    go_wp2
    refine sqE g1 34 #[.int .i64 0, .int .i64 0, .slice none 0 0] (Z18 B2) underlying34 ?_
    exact ⟨_, Z14, Z19, sqB2 HB E0 E1⟩
   obtain rfl := sqb c0
   rw [if_neg sqF] at H
   obtain ⟨⟨t1, t2, t3⟩, A0, H⟩ := sqD H
   try dsimp only at H
   have H' := sqa H
   clear H
   have := sqn2 N0 N1
   have := sqY3 B0
   go_wp2_with (first | ((with_reducible refine sqc 76 rfl ?_); refine sqC (some 21) func76 #[.agg #[.int .i64 a0_0, .int .i64 a0_1, .slice A0_2 l0_2.length c0_2]] ?_; (with_reducible refine (F44.c a0_0 a0_1 _ _ l0_2 t1 t2 t3 _ ?side1 ?side2 A0.1).mono ?_); (case side1 => exact Z1); (case side2 => exact HC0_2.1); rintro e w2 ⟨v1, rfl, ho0, hb⟩; refine ⟨_, rfl, ?_⟩; have O0 := sqL ho0 (sqB2 HB E0 E1); obtain ⟨B0, B2⟩ := sqT2 hb B0 B2; replace HB := sqS (sqB2 HB E0 E1) hb; (try clear ho0); have := sqY3 B0; obtain ⟨Ao0, co0, eo0⟩ := Kd.R_slice O0.1; subst eo0))
   go_loopg [6, 24] kj2 (fun kq v6 v24 w' => ∃ (x6_2 : Int) (x24_2 : Int) (x1 : Int) (x2 : Int) (x3 : List (S31)) (u519002 : Value), v6 = .int .i64 x6_2 ∧ v24 = .int .i64 x24_2 ∧ Aside0 (F12.l0 kq x6_2 l1 (l1.length : Int) x24_2 x1 x2 x3 = some (r1, r2, r3, r4)) ∧ Aside0 (kq ≤ kj2) ∧ Aside0 (Kd.R k31 31 w' w.heap.size (fun _ => True) u519002 x3) ∧ Aside0 (w'.heap[g0]? = some (.cells #[.int .i64 x1, .int .i64 x2, u519002] 34 (0, 0))) ∧ Aside0 (w'.heap[g1]? = some (.cells #[.int .i64 0, .int .i64 0, (.slice none 0 0)] 34 (0, 0))) ∧ Aside0 (Below w.heap.size w w'))
   case atStart => exact ⟨(0), (0), (t1), (t2), (t3), (.slice Ao0 t3.length co0), Z2, Z2, H', ⟨Nat.le_refl _⟩, ⟨by (with_reducible repeat (first | apply Kd.R_alloc | apply Kd.R_drewN | apply Kd.R_drew)); exact Kd.R_mono (sqr3 O0.1 B0.1) (fun _ hk => trivial)⟩, ⟨by refine sqPut (cs := #[.int .i64 t1, .int .i64 t2, .slice A0_2 l0_2.length c0_2]) ?_ 2; refine sqPut (cs := #[.int .i64 t1, .int .i64 a0_1, .slice A0_2 l0_2.length c0_2]) ?_ 1; refine sqPut (cs := #[.int .i64 a0_0, .int .i64 a0_1, .slice A0_2 l0_2.length c0_2]) ?_ 0; exact sqK B0⟩, ⟨Z5 N1 B2⟩, ⟨sqB2 HB E0 E1⟩⟩
   case round =>
    clear H'
    obtain ⟨x6_2, x24_2, x1, x2, x3, u519002, rfl, rfl, HA, HK2, O1, B0, B2, HB⟩ := hrel
    cases gk with
    | zero => exact absurd HA.out (by simp [F12.l0])
    | succ k2 =>
     have H := HA.out
     clear HA
     simp only [F12.l0] at H
     by_cases c2 : x24_2 < (l1.length : Int)
     ·rw [if_pos c2] at H
      have c3 : decide (x24_2 < (l1.length : Int)) = true := decide_eq_true c2
      clear c2
      obtain ⟨c4, H⟩ := sqI H
      have c5 : decide (0 ≤ x24_2) = true := decide_eq_true c4
      clear c4
      obtain ⟨c6, H⟩ := sqI H
      have c8 : decide (x24_2 < (l1.length : Int)) = true := decide_eq_true c6
      clear c6
      obtain ⟨⟨t4, t5, t6, t7⟩, A2, H⟩ := sqD H
      try dsimp only at H
      by_cases c9 : t7 = true
      ·subst c9
       rw [if_pos rfl] at H
       have H' := sqa H
       clear H
       have p0 : 0 ≤ (x24_2 : Int) := of_decide_eq_true Z7
       have q0 : x24_2 < (l1.length : Int) := of_decide_eq_true Z7
       obtain ⟨ad0, e0, hx0, hx1⟩ := at_T38 HR1.1 x24_2 p0 q0
       cases e0
       replace hx0 := (HB.1.cell (World.block_lt_of_cell? w _ hx0)).trans hx0
       replace hx1 := (HB.1.cell (World.block_lt_of_cell? w _ hx1)).trans hx1
       replace p0 := eq_true p0
       replace q0 := eq_true q0
       go_wp2_with (first | ((with_reducible refine sqd 8 rfl ?_); (try (refine gate_guard (by rfl) ?_; dsimp only)); refine sqBx w (sqB2 HB E0 E1) (cs := #[.int .i64 0, .string (⟨#[]⟩ : ByteArray)]) (t := 38) ?_; intro g2 hg w3 B8 E2 HB hb; replace O1 := sqU O1 hb; obtain ⟨N2, N3⟩ := sqM hg B0; replace B0 := sqT B0 hb; obtain ⟨N4, N5⟩ := sqM hg B2; replace B2 := sqT B2 hb; clear hb hg; have := sqn4 N3 N2 N5 N4; have := sqY2 B8; have := sqn2 N0 N1; have := sqY3 B0; obtain ⟨Ao1, co1, eo1⟩ := Kd.R_slice O1.1; subst eo1) | ((with_reducible refine sqc 61 rfl ?_); refine sqC (some 31) func61 #[.agg #[.int .i64 x1, .int .i64 x2, .slice Ao1 x3.length co1], .agg #[.int .i64 ((rd_T38 l1 x24_2).f0), .string ((rd_T38 l1 x24_2).f1)]] ?_; (with_reducible refine (F17.c k2 x1 x2 _ _ x3 ((rd_T38 l1 x24_2).f0) ((rd_T38 l1 x24_2).f1) t4 t5 t6 true _ ?sideG ?side1 ?side2 A2.1).mono ?_); (case sideG => exact Z49 E0 E1 E2); (case side1 => refine (Kd.R_reads' (e := 31) (base := w.heap.size) (ok := fun k_ => True) (n := x3.length) (c := co1) ?_).2.2; exact (Z50 O1 B8)); (case side2 => exact Z48 O1); rintro e w6 ⟨v2, rfl, ho0, hb⟩; refine ⟨_, rfl, ?_⟩; have O2 := sqa (Kd.R_lower (Kd.R_new' ho0 (Kd.R_lt (Z50 O1 B8))) (below_size (sqB3 HB E0 E1 E2))); replace O1 := sqa (Kd.R_elder' (Z50 O1 B8) (Kd.R_base ho0) hb); replace B0 := sqH N2 B0 hb; replace B2 := sqH N4 B2 hb; replace B8 := sqa (blk_below (g := g2) (o := .cells #[.int .i64 ((rd_T38 l1 x24_2).f0), .string ((rd_T38 l1 x24_2).f1)] 38 (0, 0)) (Z51 B8) hb); replace HB := sqS (sqB3 HB E0 E1 E2) hb; (try clear ho0)) | ((with_reducible refine sqd 9 rfl ?_); (try (refine gate_guard (by rfl) ?_; dsimp only)); refine sqBx w (sqB3 HB E0 E1 E2) (cs := #[.int .i64 0, .int .i64 0, .slice none 0 0]) (t := 34) ?_; intro g3 hg w7 B9 E3 HB hb; replace O1 := sqU O1 hb; replace O2 := sqU O2 hb; obtain ⟨N6, N7⟩ := sqM hg B0; replace B0 := sqT B0 hb; obtain ⟨N8, N9⟩ := sqM hg B2; replace B2 := sqT B2 hb; obtain ⟨N10, N11⟩ := sqM hg B8; replace B8 := sqT B8 hb; clear hb hg; have := sqn6 N7 N6 N9 N8 N11 N10; have := sqY3 B9; obtain ⟨Ao2, co2, eo2⟩ := Kd.R_slice O2.1; subst eo2; have := sqY3 B0))
       go_roundg k2
       case measure => have := HJ2.out; have := HK2.out; omega
       case rel => exact ⟨(wrap64 (x6_2 + 1)), (wrap64 (x24_2 + 1)), (t4), (t5), (t6), (.slice Ao2 t6.length co2), Z2, Z2, H', ⟨Z52 HK2⟩, ⟨by (with_reducible repeat (first | apply Kd.R_alloc | apply Kd.R_drewN | apply Kd.R_drew)); exact Kd.R_mono (Kd.R_far (p := ⟨g0, 2, none⟩) (Kd.R_far (p := ⟨g0, 1, none⟩) (Kd.R_far (p := ⟨g0, 0, none⟩) (Kd.R_far (p := ⟨g3, 2, none⟩) (Kd.R_far (p := ⟨g3, 1, none⟩) (Kd.R_far (p := ⟨g3, 0, none⟩) (Kd.R_types (Kd.R_types O2.1 B9.1 (by decide)) B0.1 (by decide)) (fun _ hk => hk.1.2) (.int .i64 t4)) (fun _ hk => hk.1.2) (.int .i64 t5)) (fun _ hk => hk.1.2) (.slice Ao2 t6.length co2)) (fun _ hk => hk.2) (.int .i64 t4)) (fun _ hk => hk.2) (.int .i64 t5)) (fun _ hk => hk.2) (.slice Ao2 t6.length co2)) (fun _ hk => trivial)⟩, ⟨by refine sqPut (cs := #[.int .i64 t4, .int .i64 t5, .slice Ao1 x3.length co1]) ?_ 2; refine sqPut (cs := #[.int .i64 t4, .int .i64 x2, .slice Ao1 x3.length co1]) ?_ 1; refine sqPut (cs := #[.int .i64 x1, .int .i64 x2, .slice Ao1 x3.length co1]) ?_ 0; refine sqFar ?_ N6; refine sqFar ?_ N6; refine sqFar ?_ N6; exact sqK B0⟩, ⟨Z53 N1 N8 B2⟩, ⟨sqB4 HB E0 E1 E2 E3⟩⟩
      obtain rfl := sqb c9
      rw [if_neg sqF] at H
      have H' := sqa H
      clear H
      have p0 : 0 ≤ (x24_2 : Int) := of_decide_eq_true Z7
      have q0 : x24_2 < (l1.length : Int) := of_decide_eq_true Z7
      obtain ⟨ad0, e0, hx0, hx1⟩ := at_T38 HR1.1 x24_2 p0 q0
      cases e0
      replace hx0 := (HB.1.cell (World.block_lt_of_cell? w _ hx0)).trans hx0
      replace hx1 := (HB.1.cell (World.block_lt_of_cell? w _ hx1)).trans hx1
      replace p0 := eq_true p0
      replace q0 := eq_true q0
      go_wp2_with (first | ((with_reducible refine sqd 8 rfl ?_); (try (refine gate_guard (by rfl) ?_; dsimp only)); refine sqBx w (sqB2 HB E0 E1) (cs := #[.int .i64 0, .string (⟨#[]⟩ : ByteArray)]) (t := 38) ?_; intro g2 hg w8 B8 E2 HB hb; replace O1 := sqU O1 hb; obtain ⟨N2, N3⟩ := sqM hg B0; replace B0 := sqT B0 hb; obtain ⟨N4, N5⟩ := sqM hg B2; replace B2 := sqT B2 hb; clear hb hg; have := sqn4 N3 N2 N5 N4; have := sqY2 B8; have := sqn2 N0 N1; have := sqY3 B0; obtain ⟨Ao3, co3, eo3⟩ := Kd.R_slice O1.1; subst eo3) | ((with_reducible refine sqc 61 rfl ?_); refine sqC (some 31) func61 #[.agg #[.int .i64 x1, .int .i64 x2, .slice Ao3 x3.length co3], .agg #[.int .i64 ((rd_T38 l1 x24_2).f0), .string ((rd_T38 l1 x24_2).f1)]] ?_; (with_reducible refine (F17.c k2 x1 x2 _ _ x3 ((rd_T38 l1 x24_2).f0) ((rd_T38 l1 x24_2).f1) t4 t5 t6 false _ ?sideG ?side1 ?side2 A2.1).mono ?_); (case sideG => exact Z49 E0 E1 E2); (case side1 => refine (Kd.R_reads' (e := 31) (base := w.heap.size) (ok := fun k_ => True) (n := x3.length) (c := co3) ?_).2.2; exact (Z50 O1 B8)); (case side2 => exact Z48 O1); rintro e w9 ⟨v2, rfl, ho0, hb⟩; refine ⟨_, rfl, ?_⟩; have O2 := sqa (Kd.R_lower (Kd.R_new' ho0 (Kd.R_lt (Z50 O1 B8))) (below_size (sqB3 HB E0 E1 E2))); replace O1 := sqa (Kd.R_elder' (Z50 O1 B8) (Kd.R_base ho0) hb); replace B0 := sqH N2 B0 hb; replace B2 := sqH N4 B2 hb; replace B8 := sqa (blk_below (g := g2) (o := .cells #[.int .i64 ((rd_T38 l1 x24_2).f0), .string ((rd_T38 l1 x24_2).f1)] 38 (0, 0)) (Z51 B8) hb); replace HB := sqS (sqB3 HB E0 E1 E2) hb; (try clear ho0)) | ((with_reducible refine sqd 9 rfl ?_); (try (refine gate_guard (by rfl) ?_; dsimp only)); refine sqBx w (sqB3 HB E0 E1 E2) (cs := #[.int .i64 0, .int .i64 0, .slice none 0 0]) (t := 34) ?_; intro g3 hg w51 B9 E3 HB hb; replace O1 := sqU O1 hb; replace O2 := sqU O2 hb; obtain ⟨N6, N7⟩ := sqM hg B0; replace B0 := sqT B0 hb; obtain ⟨N8, N9⟩ := sqM hg B2; replace B2 := sqT B2 hb; obtain ⟨N10, N11⟩ := sqM hg B8; replace B8 := sqT B8 hb; clear hb hg; have := sqn6 N7 N6 N9 N8 N11 N10; have := sqY3 B9; obtain ⟨Ao4, co4, eo4⟩ := Kd.R_slice O2.1; subst eo4))
      go_roundg k2
      case measure => have := HJ2.out; have := HK2.out; omega
      case rel => exact ⟨(x6_2), (wrap64 (x24_2 + 1)), (x1), (x2), (x3), (.slice Ao3 x3.length co3), Z2, Z2, H', ⟨Z52 HK2⟩, ⟨by (with_reducible repeat (first | apply Kd.R_alloc | apply Kd.R_drewN | apply Kd.R_drew)); exact Kd.R_mono (sqr3 O1.1 B9.1) (fun _ hk => trivial)⟩, ⟨Z5 N6 B0⟩, ⟨Z5 N8 B2⟩, ⟨sqB4 HB E0 E1 E2 E3⟩⟩
     rw [if_neg c2] at H
     have c3 : decide (x24_2 < (l1.length : Int)) = false := decide_eq_false c2
     clear c2
     obtain ⟨rfl, rfl, rfl, rfl⟩ := sqO4 H
     have := sqn2 N0 N1
     have := sqY3 B0
     have := sqY3 B2
     obtain ⟨Ao5, co5, eo5⟩ := Kd.R_slice O1.1
     subst eo5
     go_wp2
     refine sqE g1 34 #[.int .i64 x1, .int .i64 x2, .slice Ao5 x3.length co5] (by refine sqPut (cs := #[.int .i64 x1, .int .i64 x2, .slice none 0 0]) ?_ 2; refine sqPut (cs := #[.int .i64 x1, .int .i64 0, .slice none 0 0]) ?_ 1; refine sqPut (cs := #[.int .i64 0, .int .i64 0, .slice none 0 0]) ?_ 0; exact sqK B2) underlying34 ?_
     exact ⟨_, Z14, by (with_reducible repeat (first | apply Kd.R_alloc | apply Kd.R_drewN | apply Kd.R_drew)); exact Kd.R_mono (sqr3 O1.1 B2.1) (fun _ hk => trivial), sqB2 HB E0 E1⟩

mutual
def F9.j0 : Nat → Bool → Bool → Int → ByteArray → Option (ByteArray)
 | 0, _, _, _, _ => none
 | k + 1, x4, x0, x1, x2 => if x0 = true then (if 6 + x2.size ≤ 9223372036854775807 then (some ((⟨#[100, 97, 110, 99, 101, 32]⟩ : ByteArray) ++ x2)) else (none)) else (if x1 = 1 then (F9.j1 k x4 x1 x2) else (F9.j1 k false x1 x2))
def F9.j1 : Nat → Bool → Int → ByteArray → Option (ByteArray)
 | 0, _, _, _ => none
 | k + 1, x0, x1, x2 => if x0 = true then (if 5 + x2.size ≤ 9223372036854775807 then (some ((⟨#[116, 97, 107, 101, 32]⟩ : ByteArray) ++ x2)) else (none)) else (if (x1 == 2 && (x2.toList == ([] : List UInt8))) = true then (some (⟨#[109, 105, 114, 114, 111, 114]⟩ : ByteArray)) else (if (x1 == 3 && (x2.toList == ([] : List UInt8))) = true then (some (⟨#[117, 110, 116, 105, 101]⟩ : ByteArray)) else (if (x1 == 4 && (x2.toList == ([] : List UInt8))) = true then (some (⟨#[98, 97, 99, 107]⟩ : ByteArray)) else (some (⟨#[]⟩ : ByteArray)))))
end
def F9.f (k : Nat) (a0_0 : Int) (a0_1 : ByteArray) : Option (ByteArray) := (F59.f k a0_1).bind fun bt0 => (if a0_0 = 0 then ((F20.f k a0_1).bind fun t0 => (F9.j0 k bt0.2.2 t0 a0_0 a0_1)) else (F9.j0 k bt0.2.2 false a0_0 a0_1))
abbrev F9.M (k : Nat) : Prop := (∀ y0 y1 y2 y3, LeO (F9.j0 k y0 y1 y2 y3) (F9.j0 (k + 1) y0 y1 y2 y3)) ∧ (∀ y0 y1 y2, LeO (F9.j1 k y0 y1 y2) (F9.j1 (k + 1) y0 y1 y2))
theorem F9.mt : ∀ k, F9.M k → F9.M (k + 1) ∧ ∀ a0 a1, LeO (F9.f k a0 a1) (F9.f (k + 1) a0 a1) := by
  rintro k ⟨ih0, ih1⟩
  refine ⟨⟨?_, ?_⟩, ?_⟩ <;> intros <;> (first | unfold F9.j0 | unfold F9.j1 | unfold F9.f) <;> repeat' (with_reducible first | exact ih0 _ _ _ _ | exact ih1 _ _ _ | exact F20.m _ _ | exact F59.m _ _ | exact LeO.refl _ | exact LeO.none _ | refine LeO.ite ?_ ?_ | refine LeO.bind ?_ fun _ => ?_)
theorem F9.ml : ∀ k, F9.M k
 | 0 => ⟨fun _ _ _ _ r h => by simp [F9.j0] at h, fun _ _ _ r h => by simp [F9.j1] at h⟩
 | k + 1 => (F9.mt k (F9.ml k)).1
theorem F9.m a0 a1 k : LeO (F9.f k a0 a1) (F9.f (k + 1) a0 a1) := (F9.mt k (F9.ml k)).2 a0 a1
theorem F9.c (k : Nat) (a0_0 : Int) (a0_1 : ByteArray) (r : ByteArray) (w : World) (H : F9.f k a0_0 a0_1 = some r) :
  Calls prog 122 #[.agg #[.int .i64 a0_0, .string a0_1]] w fun e w' => e = .returned (.string r) ∧ Below w.heap.size w w' := by
 have hu38 := underlying38
 have hu31 := underlying31
 have HB := sqh w
 unfold F9.f at H
 obtain ⟨⟨t536, t0, t1⟩, A2, H⟩ := sqD H
 try dsimp only at H
 have HC3 := sqa H
 clear H
 go_enter func122, ntmps122
 go_upto_region 2 with (first | ((with_reducible refine sqd 1 rfl ?_); refine sqBx w (sqB HB) (cs := #[.int .i64 a0_0, .string a0_1]) (t := 38) ?_; intro g0 hg w4 B0 E0 HB hb; clear hb hg; have := sqY2 B0) | ((with_reducible refine sqc 107 rfl ?_); refine sqC (some 8) func107 #[.string a0_1] ?_; (with_reducible refine (F59.c k a0_1 t536 t0 t1 _ A2.1).mono ?_); refine sqV fun w6 hb => ?_; replace B0 := sqT B0 hb; replace HB := sqS (sqB1 HB E0) hb) | ((with_reducible refine sqd 3 rfl ?_); refine sqBx w (sqB1 HB E0) (cs := #[.int .i64 0, .int .i64 0]) (t := 31) ?_; intro g1 hg w7 B2 E1 HB hb; obtain ⟨N0, N1⟩ := sqM hg B0; replace B0 := sqT B0 hb; clear hb hg; have := sqn2 N1 N0; have := sqY2 B2))
 (try simp only [Act.put, List.setIfInBounds_toArray, List.set_cons_zero, List.set_cons_succ])
 go_cut [11] (fun v0 wc => ∃ (kq : Nat) (x0 : Bool), v0 = .bool x0 ∧ Aside0 (F9.j0 kq t1 x0 a0_0 a0_1 = some r) ∧ Aside0 (kq ≤ k) ∧ Aside0 (wc.heap[g0]? = some (.cells #[.int .i64 a0_0, .string a0_1] 38 (0, 0))) ∧ Aside0 (wc.heap[g1]? = some (.cells #[.int .i64 t536, .int .i64 t0] 31 (0, 0))) ∧ Aside0 (Below w.heap.size w wc))
 case first =>
  have H := HC3.1
  clear HC3
  by_cases c10 : a0_0 = 0
  ·rw [if_pos c10] at H
   have c0 := sqe1 c10
   have c1 := sqn0 c10
   clear c10
   (first | rw [c0] | (simp only [i64_w, i32_w]; rw [c0]) | skip)
   obtain ⟨t2, A0, H⟩ := sqD H
   have H' := sqa H
   clear H
   have := sqn2 N0 N1
   have := sqY2 B0
   go_wp2_with (first | (go_at_call 134; (with_reducible refine (F20.c k a0_1 t2 _ A0.1).mono ?_); rintro e w' ⟨rfl, ⟨nd, rfl⟩⟩))
   go_meet
   case rel => exact ⟨_, (t2), Z2, H', ⟨Z3⟩, ⟨Z9 N0 B0⟩, ⟨Z54 B2⟩, ⟨sqB2 HB E0 E1⟩⟩
  rw [if_neg c10] at H
  have c0 := sqe0 c10
  have c1 := sqn1 c10
  (first | rw [c0] | (simp only [i64_w, i32_w]; rw [c0]) | skip)
  have H' := sqa H
  clear H
  have := sqn2 N0 N1
  have := sqY2 B0
  go_wp2
  go_meet
  case rel => exact ⟨_, (false), Z2, H', ⟨Z3⟩, ⟨Z9 N0 B0⟩, ⟨Z54 B2⟩, ⟨sqB2 HB E0 E1⟩⟩
 case rest =>
  clear HC3
  obtain ⟨kq, x0, rfl, HA, HJ2, B0, B2, HB⟩ := hcut
  cases kq with
  | zero => exact absurd HA.out (by simp [F9.j0])
  | succ kj2 =>
   have H := HA.out
   clear HA
   simp only [F9.j0] at H
   by_cases c2 : x0 = true
   ·subst c2
    rw [if_pos rfl] at H
    obtain ⟨c3, H⟩ := sqI H
    have c4 := eq_true c3
    have c5 : decide (6 + a0_1.size ≤ 9223372036854775807) = true := decide_eq_true c3
    try have c6 : (9223372036854775807 < 6 + a0_1.size) = False := eq_false (Nat.not_lt.2 c3)
    obtain rfl := sqo H
    have := sqn2 N0 N1
    have := sqY2 B0
    go_wp2
    go_ret
    exact ⟨Z14, sqB2 HB E0 E1⟩
   obtain rfl := sqb c2
   rw [if_neg sqF] at H
   have HC0 := sqa H
   clear H
   go_upto_region 4 with (fail)
   go_cut [23] (fun v1 wc => ∃ (kq : Nat) (x1 : Bool), v1 = .bool x1 ∧ Aside0 (F9.j1 kq x1 a0_0 a0_1 = some r) ∧ Aside0 (kq ≤ kj2) ∧ Aside0 (wc.heap[g0]? = some (.cells #[.int .i64 a0_0, .string a0_1] 38 (0, 0))) ∧ Aside0 (wc.heap[g1]? = some (.cells #[.int .i64 t536, .int .i64 t0] 31 (0, 0))) ∧ Aside0 (Below w.heap.size w wc))
   case first =>
    have H := HC0.1
    clear HC0
    by_cases c21 : a0_0 = 1
    ·rw [if_pos c21] at H
     have c7 := sqe1 c21
     have c8 := sqn0 c21
     clear c21
     (first | rw [c7] | (simp only [i64_w, i32_w]; rw [c7]) | skip)
     have H' := sqa H
     clear H
     have := sqn2 N0 N1
     have := sqY2 B0
     go_wp2
     go_meet
     case rel => exact ⟨_, (t1), Z2, H', ⟨Z55⟩, ⟨sqK B0⟩, ⟨sqK B2⟩, ⟨sqB2 HB E0 E1⟩⟩
    rw [if_neg c21] at H
    have c7 := sqe0 c21
    have c8 := sqn1 c21
    (first | rw [c7] | (simp only [i64_w, i32_w]; rw [c7]) | skip)
    have H' := sqa H
    clear H
    have := sqn2 N0 N1
    have := sqY2 B0
    go_wp2
    go_meet
    case rel => exact ⟨_, (false), Z2, H', ⟨Z55⟩, ⟨sqK B0⟩, ⟨sqK B2⟩, ⟨sqB2 HB E0 E1⟩⟩
   case rest =>
    clear HC0
    obtain ⟨kq, x1, rfl, HA, HJ0, B0, B2, HB⟩ := hcut
    cases kq with
    | zero => exact absurd HA.out (by simp [F9.j1])
    | succ kj0 =>
     have H := HA.out
     clear HA
     simp only [F9.j1] at H
     by_cases c9 : x1 = true
     ·subst c9
      rw [if_pos rfl] at H
      obtain ⟨c27, H⟩ := sqI H
      have c12 := eq_true c27
      have c13 : decide (5 + a0_1.size ≤ 9223372036854775807) = true := decide_eq_true c27
      try have c14 : (9223372036854775807 < 5 + a0_1.size) = False := eq_false (Nat.not_lt.2 c27)
      obtain rfl := sqo H
      have := sqn2 N0 N1
      have := sqY2 B0
      go_wp2
      go_ret
      exact ⟨Z14, sqB2 HB E0 E1⟩
     obtain rfl := sqb c9
     rw [if_neg sqF] at H
     by_cases c30 : (a0_0 == 2 && (a0_1.toList == ([] : List UInt8))) = true
     ·rw [if_pos c30] at H
      have c18 : (a0_0 == 2 && (a0_1.toList == ([] : List UInt8))) = true := c30
      try have c19 : (a0_0 == 2 && a0_1.toList.isEmpty) = true := by (have h_ := c18; (repeat rw [sqy] at h_); exact h_)
      (try (have c20 : decide (a0_0 = 2 && (a0_1.toList == ([] : List UInt8))) = true := by simpa using c30))
      (try (have c22 : (a0_0 == 2 && (a0_1.toList == ([] : List UInt8))) = true := by simpa using c30))
      clear c30
      obtain rfl := sqo H
      have := sqn2 N0 N1
      have := sqY2 B0
      go_wp2
      go_ret
      exact ⟨Z14, sqB2 HB E0 E1⟩
     rw [if_neg c30] at H
     have c18 : (a0_0 == 2 && (a0_1.toList == ([] : List UInt8))) = false := by simpa using c30
     try have c19 : (a0_0 == 2 && a0_1.toList.isEmpty) = false := by (have h_ := c18; (repeat rw [sqy] at h_); exact h_)
     (try (have c20 : decide (a0_0 = 2 && (a0_1.toList == ([] : List UInt8))) = false := by simpa using c30))
     (try (have c22 : (a0_0 == 2 && (a0_1.toList == ([] : List UInt8))) = false := by simpa using c30))
     (try (have c23 : ¬ (a0_0 = 2 && (a0_1.toList == ([] : List UInt8))) := by simpa using c30))
     clear c30
     by_cases c33 : (a0_0 == 3 && (a0_1.toList == ([] : List UInt8))) = true
     ·rw [if_pos c33] at H
      have c25 : (a0_0 == 3 && (a0_1.toList == ([] : List UInt8))) = true := c33
      try have c28 : (a0_0 == 3 && a0_1.toList.isEmpty) = true := by (have h_ := c25; (repeat rw [sqy] at h_); exact h_)
      (try (have c29 : decide (a0_0 = 3 && (a0_1.toList == ([] : List UInt8))) = true := by simpa using c33))
      (try (have c31 : (a0_0 == 3 && (a0_1.toList == ([] : List UInt8))) = true := by simpa using c33))
      clear c33
      obtain rfl := sqo H
      have := sqn2 N0 N1
      have := sqY2 B0
      go_wp2
      go_ret
      exact ⟨Z14, sqB2 HB E0 E1⟩
     rw [if_neg c33] at H
     have c25 : (a0_0 == 3 && (a0_1.toList == ([] : List UInt8))) = false := by simpa using c33
     try have c28 : (a0_0 == 3 && a0_1.toList.isEmpty) = false := by (have h_ := c25; (repeat rw [sqy] at h_); exact h_)
     (try (have c29 : decide (a0_0 = 3 && (a0_1.toList == ([] : List UInt8))) = false := by simpa using c33))
     (try (have c31 : (a0_0 == 3 && (a0_1.toList == ([] : List UInt8))) = false := by simpa using c33))
     (try (have c32 : ¬ (a0_0 = 3 && (a0_1.toList == ([] : List UInt8))) := by simpa using c33))
     clear c33
     by_cases c36 : (a0_0 == 4 && (a0_1.toList == ([] : List UInt8))) = true
     ·rw [if_pos c36] at H
      have c35 : (a0_0 == 4 && (a0_1.toList == ([] : List UInt8))) = true := c36
      try have c37 : (a0_0 == 4 && a0_1.toList.isEmpty) = true := by (have h_ := c35; (repeat rw [sqy] at h_); exact h_)
      (try (have c38 : decide (a0_0 = 4 && (a0_1.toList == ([] : List UInt8))) = true := by simpa using c36))
      (try (have c39 : (a0_0 == 4 && (a0_1.toList == ([] : List UInt8))) = true := by simpa using c36))
      clear c36
      obtain rfl := sqo H
      have := sqn2 N0 N1
      have := sqY2 B0
      go_wp2
      go_ret
      exact ⟨Z14, sqB2 HB E0 E1⟩
     rw [if_neg c36] at H
     have c35 : (a0_0 == 4 && (a0_1.toList == ([] : List UInt8))) = false := by simpa using c36
     try have c37 : (a0_0 == 4 && a0_1.toList.isEmpty) = false := by (have h_ := c35; (repeat rw [sqy] at h_); exact h_)
     (try (have c38 : decide (a0_0 = 4 && (a0_1.toList == ([] : List UInt8))) = false := by simpa using c36))
     (try (have c39 : (a0_0 == 4 && (a0_1.toList == ([] : List UInt8))) = false := by simpa using c36))
     (try (have c40 : ¬ (a0_0 = 4 && (a0_1.toList == ([] : List UInt8))) := by simpa using c36))
     clear c36
     obtain rfl := sqo H
     have := sqn2 N0 N1
     have := sqY2 B0
     go_wp2
     go_ret
     exact ⟨Z14, sqB2 HB E0 E1⟩

def F30.l0 : Nat → List (S38) → ByteArray → Int → Option (ByteArray)
 | 0, _, _, _ => none
 | k + 1, x0, x3, x4 => if x4 < (x0.length : Int) then (if 0 ≤ x4 then ((F9.f k ((rd_T38 x0 x4).f0) ((rd_T38 x0 x4).f1)).bind fun t0 => (if t0.toList = ([] : List UInt8) then (some (⟨#[]⟩ : ByteArray)) else ((F9.f k ((rd_T38 x0 x4).f0) ((rd_T38 x0 x4).f1)).bind fun t1 => (if x3.size + t1.size ≤ 9223372036854775807 then (if (x3 ++ t1).size + 1 ≤ 9223372036854775807 then (F30.l0 k x0 ((x3 ++ t1) ++ (⟨#[10]⟩ : ByteArray)) (wrap64 (x4 + 1))) else (none)) else (none))))) else (none)) else (some x3)
def F30.f (k : Nat) (l0 : List (S38)) : Option (ByteArray) := F30.l0 k l0 (⟨#[]⟩ : ByteArray) 0
abbrev F30.M (k : Nat) : Prop := (∀ y0 y1 y2, LeO (F30.l0 k y0 y1 y2) (F30.l0 (k + 1) y0 y1 y2))
theorem F30.mt : ∀ k, F30.M k → F30.M (k + 1) ∧ ∀ a0, LeO (F30.f k a0) (F30.f (k + 1) a0) := by
  rintro k ih0
  refine ⟨?_, ?_⟩ <;> (try unfold F30.M) <;> intros <;> (first | unfold F30.l0 | unfold F30.f) <;> repeat' (with_reducible first | exact ih0 _ _ _ | exact F9.m _ _ _ | exact LeO.refl _ | exact LeO.none _ | refine LeO.ite ?_ ?_ | refine LeO.bind ?_ fun _ => ?_)
theorem F30.ml : ∀ k, F30.M k
 | 0 => fun _ _ _ r h => by simp [F30.l0] at h
 | k + 1 => (F30.mt k (F30.ml k)).1
theorem F30.m a0 k : LeO (F30.f k a0) (F30.f (k + 1) a0) := (F30.mt k (F30.ml k)).2 a0
theorem F30.c (k : Nat) (A0 : Option Addr) (c0 : Nat) (l0 : List (S38)) (r : ByteArray) (w : World) (hr0 : Kd.C k38 w A0 l0.length l0) (hc0 : l0.length ≤ c0) (H : F30.f k l0 = some r) :
  Calls prog 80 #[.slice A0 l0.length c0] w fun e w' => e = .returned (.string r) ∧ Below w.heap.size w w' := by
 have hu38 := underlying38
 have HR0 := sqa hr0
 have HC0 := sqa hc0
 clear hr0 hc0
 have HB := sqh w
 unfold F30.f at H
 have H' := sqa H
 clear H
 go_enter func80, ntmps80
 go_wp2
 go_loopg [3, 4] k (fun kq v3 v4 w' => ∃ (x3_1 : ByteArray) (x4_1 : Int), v3 = .string x3_1 ∧ v4 = .int .i64 x4_1 ∧ Aside0 (F30.l0 kq l0 x3_1 x4_1 = some r) ∧ Aside0 (kq ≤ k) ∧ Aside0 (Below w.heap.size w w'))
 case atStart => exact ⟨((⟨#[]⟩ : ByteArray)), (0), Z2, Z2, H', ⟨Nat.le_refl _⟩, ⟨sqB HB⟩⟩
 case round =>
  clear H'
  obtain ⟨x3_1, x4_1, rfl, rfl, HA, HK1, HB⟩ := hrel
  cases gk with
  | zero => exact absurd HA.out (by simp [F30.l0])
  | succ k1 =>
   have H := HA.out
   clear HA
   simp only [F30.l0] at H
   by_cases c2 : x4_1 < (l0.length : Int)
   ·rw [if_pos c2] at H
    have c2b0 : decide (x4_1 < (l0.length : Int)) = true := decide_eq_true c2
    clear c2
    obtain ⟨c3, H⟩ := sqI H
    have c3b0 : decide (0 ≤ x4_1) = true := decide_eq_true c3
    clear c3
    obtain ⟨t0, A4, H⟩ := sqD H
    by_cases c5 : t0.toList = ([] : List UInt8)
    ·rw [if_pos c5] at H
     have c5b0 : (t0.toList == ([] : List UInt8)) = true := sqe1 c5
     try have c5b8 : t0.toList.isEmpty = true := by (have h_ := c5b0; (repeat rw [sqy] at h_); exact h_)
     have c5b1 : (t0.toList != ([] : List UInt8)) = false := sqn0 c5
     clear c5
     obtain rfl := sqo H
     have p0 : 0 ≤ (x4_1 : Int) := of_decide_eq_true Z7
     have q0 : x4_1 < (l0.length : Int) := of_decide_eq_true Z7
     obtain ⟨ad0, e0, hx0, hx1⟩ := at_T38 HR0.1 x4_1 p0 q0
     cases e0
     replace hx0 := (HB.1.cell (World.block_lt_of_cell? w _ hx0)).trans hx0
     replace hx1 := (HB.1.cell (World.block_lt_of_cell? w _ hx1)).trans hx1
     replace p0 := eq_true p0
     replace q0 := eq_true q0
     go_wp2_with (first | ((with_reducible refine sqc 122 rfl ?_); refine sqC (some 15) func122 #[.agg #[.int .i64 ((rd_T38 l0 x4_1).f0), .string ((rd_T38 l0 x4_1).f1)]] ?_; (with_reducible refine (F9.c k1 ((rd_T38 l0 x4_1).f0) ((rd_T38 l0 x4_1).f1) t0 _ A4.1).mono ?_); refine sqV fun w6 hb => ?_; replace HB := sqS (sqB HB) hb))
     go_ret
     exact ⟨Z14, sqB HB⟩
    rw [if_neg c5] at H
    have c5b0 : (t0.toList == ([] : List UInt8)) = false := sqe0 c5
    try have c5b8 : t0.toList.isEmpty = false := by (have h_ := c5b0; (repeat rw [sqy] at h_); exact h_)
    have c5b1 : (t0.toList != ([] : List UInt8)) = true := sqn1 c5
    obtain ⟨t1, A7, H⟩ := sqD H
    obtain ⟨c8, H⟩ := sqI H
    have c8b0 := eq_true c8
    have c8b1 : decide (x3_1.size + t1.size ≤ 9223372036854775807) = true := decide_eq_true c8
    try have c8b2 : (9223372036854775807 < x3_1.size + t1.size) = False := eq_false (Nat.not_lt.2 c8)
    obtain ⟨c9, H⟩ := sqI H
    have c9b0 := eq_true c9
    have c9b1 : decide ((x3_1 ++ t1).size + 1 ≤ 9223372036854775807) = true := decide_eq_true c9
    try have c9b2 : (9223372036854775807 < (x3_1 ++ t1).size + 1) = False := eq_false (Nat.not_lt.2 c9)
    try have c9b7 : (9223372036854775807 < x3_1.size + t1.size + 1) = False := by (have h_ := c9b2; (repeat rw [ByteArray.size_append] at h_); exact h_)
    have H' := sqa H
    clear H
    have p0 : 0 ≤ (x4_1 : Int) := of_decide_eq_true Z7
    have q0 : x4_1 < (l0.length : Int) := of_decide_eq_true Z7
    obtain ⟨ad0, e0, hx0, hx1⟩ := at_T38 HR0.1 x4_1 p0 q0
    cases e0
    replace hx0 := (HB.1.cell (World.block_lt_of_cell? w _ hx0)).trans hx0
    replace hx1 := (HB.1.cell (World.block_lt_of_cell? w _ hx1)).trans hx1
    replace p0 := eq_true p0
    replace q0 := eq_true q0
    go_wp2_with (first | ((with_reducible refine sqc 122 rfl ?_); refine sqC (some 15) func122 #[.agg #[.int .i64 ((rd_T38 l0 x4_1).f0), .string ((rd_T38 l0 x4_1).f1)]] ?_; (with_reducible refine (F9.c k1 ((rd_T38 l0 x4_1).f0) ((rd_T38 l0 x4_1).f1) t0 _ A4.1).mono ?_); refine sqV fun w0 hb => ?_; replace HB := sqS (sqB HB) hb; have p1 : 0 ≤ (x4_1 : Int) := of_decide_eq_true Z7; have q1 : x4_1 < (l0.length : Int) := of_decide_eq_true Z7; obtain ⟨ad1, e1, hx2, hx3⟩ := at_T38 HR0.1 x4_1 p1 q1; obtain rfl : ad0 = ad1 := (by injection e1); replace hx2 := (HB.1.cell (World.block_lt_of_cell? w _ hx2)).trans hx2; replace hx3 := (HB.1.cell (World.block_lt_of_cell? w _ hx3)).trans hx3; replace p1 := eq_true p1; replace q1 := eq_true q1) | ((with_reducible refine sqc 122 rfl ?_); refine sqC (some 22) func122 #[.agg #[.int .i64 ((rd_T38 l0 x4_1).f0), .string ((rd_T38 l0 x4_1).f1)]] ?_; (with_reducible refine (F9.c k1 ((rd_T38 l0 x4_1).f0) ((rd_T38 l0 x4_1).f1) t1 _ A7.1).mono ?_); refine sqV fun w1 hb => ?_; replace HB := sqS (sqB HB) hb))
    go_roundg k1
    case measure => have := HK1.out; omega
    case rel => exact ⟨((x3_1 ++ t1) ++ (⟨#[10]⟩ : ByteArray)), (wrap64 (x4_1 + 1)), Z2, Z2, H', ⟨Z15 HK1⟩, ⟨sqB HB⟩⟩
   rw [if_neg c2] at H
   have c2b0 : decide (x4_1 < (l0.length : Int)) = false := decide_eq_false c2
   clear c2
   obtain rfl := sqo H
   go_wp2
   go_ret
   exact ⟨Z14, sqB HB⟩
end
end Go.Proofs.YtofmlbgfcohhoaaGreatDoor.PFnReadJournal
