import Derived.Test.YtofmlbgfcohhoaaGreatDoorPFnReadJournalx16
import Derived.Test.YtofmlbgfcohhoaaGreatDoorPFnReadJournalx0
set_option maxHeartbeats 8000000
set_option maxRecDepth 100000
namespace Go.Proofs.YtofmlbgfcohhoaaGreatDoor.PFnReadJournal
open Go.RowKit Go.Proofs.YtofmlbgfcohhoaaGreatDoorW.PrintWords Go.Proofs.YtofmlbgfcohhoaaGreatDoorW.PrintLast Go.Proofs.YtofmlbgfcohhoaaGreatDoorW.PrintMore Go.Proofs.YtofmlbgfcohhoaaGreatDoor.Lib Go.Proofs.Tryz
attribute [local go_sem] max2_int min2_int max_two min_two max_three min_three max_four min_four
set_option linter.unusedVariables false
set_option linter.unusedSimpArgs false

def F42.j0 : Nat → Bool → Int → Int → Int → ByteArray → Option (Int × Int × Bool)
 | 0, _, _, _, _, _ => none
 | k + 1, x0, x1, x2, x3, x4 => if x0 = true then ((F83.f x1 x2).bind fun bt0 => (some (bt0.1, bt0.2, true))) else (if x3 = 3 then (if x4.toList = ([] : List UInt8) then ((F50.f k x1 x2 12).bind fun t0 => (some (0, 1, t0))) else (some (0, 0, false))) else (some (0, 0, false)))
def F42.f (k : Nat) (a0_0 : Int) (a0_1 : Int) (a1_0 : Int) (a1_1 : ByteArray) : Option (Int × Int × Bool) := if a1_0 = 0 then ((F69.f k a0_0 a0_1 a1_1).bind fun bt0 => (some (bt0.1, bt0.2.1, bt0.2.2))) else (if a1_0 = 1 then ((F21.f k a1_1).bind fun bt1 => (some (bt1.1, bt1.2.1, bt1.2.2))) else (if a1_0 = 2 then (F42.j0 k (a1_1.toList == ([] : List UInt8)) a0_0 a0_1 a1_0 a1_1) else (F42.j0 k false a0_0 a0_1 a1_0 a1_1)))
abbrev F42.M (k : Nat) : Prop := (∀ y0 y1 y2 y3 y4, LeO (F42.j0 k y0 y1 y2 y3 y4) (F42.j0 (k + 1) y0 y1 y2 y3 y4))
theorem F42.mt : ∀ k, F42.M k → F42.M (k + 1) ∧ ∀ a0 a1 a2 a3, LeO (F42.f k a0 a1 a2 a3) (F42.f (k + 1) a0 a1 a2 a3) := by
  rintro k ih0
  refine ⟨?_, ?_⟩ <;> (try unfold F42.M) <;> intros <;> (first | unfold F42.j0 | unfold F42.f) <;> repeat' (with_reducible first | exact ih0 _ _ _ _ _ | exact F69.m _ _ _ _ | exact F21.m _ _ | exact F50.m _ _ _ _ | exact LeO.refl _ | exact LeO.none _ | refine LeO.ite ?_ ?_ | refine LeO.bind ?_ fun _ => ?_)
theorem F42.ml : ∀ k, F42.M k
 | 0 => fun _ _ _ _ _ r h => by simp [F42.j0] at h
 | k + 1 => (F42.mt k (F42.ml k)).1
theorem F42.m a0 a1 a2 a3 k : LeO (F42.f k a0 a1 a2 a3) (F42.f (k + 1) a0 a1 a2 a3) := (F42.mt k (F42.ml k)).2 a0 a1 a2 a3
theorem F42.c (k : Nat) (a0_0 : Int) (a0_1 : Int) (a1_0 : Int) (a1_1 : ByteArray) (r1 : Int) (r2 : Int) (r3 : Bool) (w : World) (hG : Glob w) (H : F42.f k a0_0 a0_1 a1_0 a1_1 = some (r1, r2, r3)) :
  Calls prog 111 #[.agg #[.int .i64 a0_0, .int .i64 a0_1], .agg #[.int .i64 a1_0, .string a1_1]] w fun e w' => e = .returned (.tuple #[.agg #[.int .i64 r1, .int .i64 r2], .bool r3]) ∧ Below w.heap.size w w' := by
 have hu31 := underlying31
 have hu38 := underlying38
 have HB := sqh w
 unfold F42.f at H
 by_cases c3 : a1_0 = 0
 ·rw [if_pos c3] at H
  have c3b0 : (a1_0 == 0) = true := sqe1 c3
  have c3b1 : (a1_0 != 0) = false := sqn0 c3
  clear c3
  obtain ⟨⟨t0, t1, t2⟩, A4, H⟩ := sqD H
  try dsimp only at H
  obtain ⟨rfl, rfl, rfl⟩ := sqO3 H
  go_enter func111, ntmps111
  go_wp2_with (first | ((with_reducible refine sqd 2 rfl ?_); refine sqBx w (sqB HB) (cs := #[.int .i64 a0_0, .int .i64 a0_1]) (t := 31) ?_; intro g0 hg w5 B0 E0 HB hb; clear hb hg) | ((with_reducible refine sqd 3 rfl ?_); refine sqBx w (sqB1 HB E0) (cs := #[.int .i64 a1_0, .string a1_1]) (t := 38) ?_; intro g1 hg w6 B2 E1 HB hb; obtain ⟨N0, N1⟩ := sqM hg B0; replace B0 := sqT B0 hb; clear hb hg) | ((with_reducible refine sqd 4 rfl ?_); refine sqBx w (sqB2 HB E0 E1) (cs := #[.int .i64 0, .int .i64 0]) (t := 31) ?_; intro g2 hg w7 B8 E2 HB hb; obtain ⟨N2, N3⟩ := sqM hg B0; replace B0 := sqT B0 hb; obtain ⟨N4, N5⟩ := sqM hg B2; replace B2 := sqT B2 hb; clear hb hg; have := sqn4 N1 N0 N4 N5; have := sqY2 B2; have := sqn2 N2 N3; have := sqY2 B0) | ((with_reducible refine sqc 25 rfl ?_); refine sqC (some 13) func25 #[.agg #[.int .i64 a0_0, .int .i64 a0_1], .string a1_1] ?_; (with_reducible refine (F69.c k a0_0 a0_1 a1_1 t0 t1 t2 _ A4.1).mono ?_); refine sqV fun w0 hb => ?_; obtain ⟨B0, B2, B8⟩ := sqT3 hb B0 B2 B8; replace HB := sqS (sqB3 HB E0 E1 E2) hb; have := sqY2 B8))
  refine sqE g2 31 #[.int .i64 t0, .int .i64 t1] (by refine sqPut (cs := #[.int .i64 t0, .int .i64 0]) ?_ 1; refine sqPut (cs := #[.int .i64 0, .int .i64 0]) ?_ 0; exact sqK B8) underlying31 ?_
  exact ⟨Z14, sqB3 HB E0 E1 E2⟩
 rw [if_neg c3] at H
 have c3b0 : (a1_0 == 0) = false := sqe0 c3
 have c3b1 : (a1_0 != 0) = true := sqn1 c3
 by_cases c0 : a1_0 = 1
 ·rw [if_pos c0] at H
  have c1 := sqe1 c0
  have c2 := sqn0 c0
  clear c0
  obtain ⟨⟨t3, t4, t5⟩, A0, H⟩ := sqD H
  try dsimp only at H
  obtain ⟨rfl, rfl, rfl⟩ := sqO3 H
  go_enter func111, ntmps111
  go_wp2_with (first | ((with_reducible refine sqd 2 rfl ?_); refine sqBx w (sqB HB) (cs := #[.int .i64 a0_0, .int .i64 a0_1]) (t := 31) ?_; intro g0 hg w1 B0 E0 HB hb; clear hb hg) | ((with_reducible refine sqd 3 rfl ?_); refine sqBx w (sqB1 HB E0) (cs := #[.int .i64 a1_0, .string a1_1]) (t := 38) ?_; intro g1 hg w2 B2 E1 HB hb; obtain ⟨N0, N1⟩ := sqM hg B0; replace B0 := sqT B0 hb; clear hb hg) | ((with_reducible refine sqd 4 rfl ?_); refine sqBx w (sqB2 HB E0 E1) (cs := #[.int .i64 0, .int .i64 0]) (t := 31) ?_; intro g2 hg w3 B8 E2 HB hb; obtain ⟨N2, N3⟩ := sqM hg B0; replace B0 := sqT B0 hb; obtain ⟨N4, N5⟩ := sqM hg B2; replace B2 := sqT B2 hb; clear hb hg; have := sqn4 N1 N0 N4 N5; have := sqY2 B2) | ((with_reducible refine sqc 126 rfl ?_); refine sqC (some 22) func126 #[.string a1_1] ?_; (with_reducible refine (F21.c k a1_1 t3 t4 t5 _ ?sideG A0.1).mono ?_); (case sideG => exact Z49 E0 E1 E2); refine sqV fun w4 hb => ?_; obtain ⟨B0, B2, B8⟩ := sqT3 hb B0 B2 B8; replace HB := sqS (sqB3 HB E0 E1 E2) hb; have := sqn2 N3 N2; have := sqY2 B8))
  refine sqE g2 31 #[.int .i64 t3, .int .i64 t4] (by refine sqPut (cs := #[.int .i64 t3, .int .i64 0]) ?_ 1; refine sqPut (cs := #[.int .i64 0, .int .i64 0]) ?_ 0; exact sqK B8) underlying31 ?_
  exact ⟨Z14, sqB3 HB E0 E1 E2⟩
 rw [if_neg c0] at H
 have c1 := sqe0 c0
 have c2 := sqn1 c0
 have HC0 := sqa H
 clear H
 go_enter func111, ntmps111
 go_upto_region 5 with (first | ((with_reducible refine sqd 2 rfl ?_); refine sqBx w (sqB HB) (cs := #[.int .i64 a0_0, .int .i64 a0_1]) (t := 31) ?_; intro g0 hg w8 B0 E0 HB hb; clear hb hg) | ((with_reducible refine sqd 3 rfl ?_); refine sqBx w (sqB1 HB E0) (cs := #[.int .i64 a1_0, .string a1_1]) (t := 38) ?_; intro g1 hg w9 B2 E1 HB hb; obtain ⟨N0, N1⟩ := sqM hg B0; replace B0 := sqT B0 hb; clear hb hg) | ((with_reducible refine sqd 4 rfl ?_); refine sqBx w (sqB2 HB E0 E1) (cs := #[.int .i64 0, .int .i64 0]) (t := 31) ?_; intro g2 hg w29 B8 E2 HB hb; obtain ⟨N2, N3⟩ := sqM hg B0; replace B0 := sqT B0 hb; obtain ⟨N4, N5⟩ := sqM hg B2; replace B2 := sqT B2 hb; clear hb hg; have := sqn4 N1 N0 N4 N5; have := sqY2 B2))
 (try simp only [Act.put, List.setIfInBounds_toArray, List.set_cons_zero, List.set_cons_succ])
 go_cut [25] (fun v0 wc => ∃ (kq : Nat) (x0 : Bool), v0 = .bool x0 ∧ Aside0 (F42.j0 kq x0 a0_0 a0_1 a1_0 a1_1 = some (r1, r2, r3)) ∧ Aside0 (kq ≤ k) ∧ Aside0 (wc.heap[g0]? = some (.cells #[.int .i64 a0_0, .int .i64 a0_1] 31 (0, 0))) ∧ Aside0 (wc.heap[g1]? = some (.cells #[.int .i64 a1_0, .string a1_1] 38 (0, 0))) ∧ Aside0 (wc.heap[g2]? = some (.cells #[.int .i64 0, .int .i64 0] 31 (0, 0))) ∧ Aside0 (Below w.heap.size w wc))
 case first =>
  have H := HC0.1
  clear HC0
  by_cases c4 : a1_0 = 2
  ·rw [if_pos c4] at H
   have c5 := sqe1 c4
   have c6 := sqn0 c4
   clear c4
   (first | rw [c5] | (simp only [i64_w, i32_w]; rw [c5]) | skip)
   have H' := sqa H
   clear H
   have := sqn4 N1 N0 N4 N5
   have := sqY2 B2
   go_wp2
   go_meet
   case rel => exact ⟨_, ((a1_1.toList == ([] : List UInt8))), Z2, H', ⟨Z3⟩, ⟨sqK B0⟩, ⟨sqK B2⟩, ⟨sqK B8⟩, ⟨sqB3 HB E0 E1 E2⟩⟩
  rw [if_neg c4] at H
  have c5 := sqe0 c4
  have c6 := sqn1 c4
  (first | rw [c5] | (simp only [i64_w, i32_w]; rw [c5]) | skip)
  have H' := sqa H
  clear H
  have := sqn4 N1 N0 N4 N5
  have := sqY2 B2
  go_wp2
  go_meet
  case rel => exact ⟨_, (false), Z2, H', ⟨Z3⟩, ⟨sqK B0⟩, ⟨sqK B2⟩, ⟨sqK B8⟩, ⟨sqB3 HB E0 E1 E2⟩⟩
 case rest =>
  clear HC0
  obtain ⟨kq, x0, rfl, HA, HJ0, B0, B2, B8, HB⟩ := hcut
  cases kq with
  | zero => exact absurd HA.out (by simp [F42.j0])
  | succ kj0 =>
   have H := HA.out
   clear HA
   simp only [F42.j0] at H
   by_cases c7 : x0 = true
   ·subst c7
    rw [if_pos rfl] at H
    obtain ⟨⟨t6, t7⟩, A1, H⟩ := sqD H
    try dsimp only at H
    obtain ⟨rfl, rfl, rfl⟩ := sqO3 H
    have := sqn4 N0 N1 N2 N3
    have := sqY2 B0
    go_wp2_with (first | ((with_reducible refine sqc 138 rfl ?_); refine sqC (some 35) func138 #[.agg #[.int .i64 a0_0, .int .i64 a0_1]] ?_; (with_reducible refine (F83.c a0_0 a0_1 t6 t7 _ A1.1).mono ?_); refine sqV fun w45 hb => ?_; obtain ⟨B0, B2, B8⟩ := sqT3 hb B0 B2 B8; replace HB := sqS (sqB3 HB E0 E1 E2) hb; have := sqn2 N5 N4; have := sqY2 B8))
    refine sqE g2 31 #[.int .i64 t6, .int .i64 t7] (by refine sqPut (cs := #[.int .i64 t6, .int .i64 0]) ?_ 1; refine sqPut (cs := #[.int .i64 0, .int .i64 0]) ?_ 0; exact sqK B8) underlying31 ?_
    exact ⟨Z14, sqB3 HB E0 E1 E2⟩
   obtain rfl := sqb c7
   rw [if_neg sqF] at H
   by_cases c8 : a1_0 = 3
   ·rw [if_pos c8] at H
    have c9 := sqe1 c8
    have c10 := sqn0 c8
    clear c8
    by_cases c49 : a1_1.toList = ([] : List UInt8)
    ·rw [if_pos c49] at H
     have c12 := sqe1 c49
     try have c13 : a1_1.toList.isEmpty = true := by (have h_ := c12; (repeat rw [sqy] at h_); exact h_)
     have c14 := sqn0 c49
     clear c49
     obtain ⟨t8, A2, H⟩ := sqD H
     obtain ⟨rfl, rfl, rfl⟩ := sqO3 H
     have := sqn4 N1 N0 N4 N5
     have := sqY2 B2
     have := sqn2 N2 N3
     have := sqY2 B0
     go_wp2_with (first | ((with_reducible refine sqc 104 rfl ?_); refine sqC (some 47) func104 #[.agg #[.int .i64 a0_0, .int .i64 a0_1], .int .i64 12] ?_; (with_reducible refine (F50.c kj0 a0_0 a0_1 12 t8 _ A2.1).mono ?_); refine sqV fun w56 hb => ?_; obtain ⟨B0, B2, B8⟩ := sqT3 hb B0 B2 B8; replace HB := sqS (sqB3 HB E0 E1 E2) hb; have := sqY2 B8))
     refine sqE g2 31 #[.int .i64 0, .int .i64 1] (Z37 B8) underlying31 ?_
     exact ⟨Z14, sqB3 HB E0 E1 E2⟩
    rw [if_neg c49] at H
    have c12 := sqe0 c49
    try have c13 : a1_1.toList.isEmpty = false := by (have h_ := c12; (repeat rw [sqy] at h_); exact h_)
    have c14 := sqn1 c49
    obtain ⟨rfl, rfl, rfl⟩ := sqO3 H
    have := sqn4 N1 N0 N4 N5
    have := sqY2 B2
    have := sqn2 N3 N2
    have := sqY2 B8
    go_wp2
    refine sqE g2 31 #[.int .i64 0, .int .i64 0] (Z37 B8) underlying31 ?_
    exact ⟨Z14, sqB3 HB E0 E1 E2⟩
   rw [if_neg c8] at H
   have c9 := sqe0 c8
   have c10 := sqn1 c8
   obtain ⟨rfl, rfl, rfl⟩ := sqO3 H
   have := sqn4 N1 N0 N4 N5
   have := sqY2 B2
   have := sqn2 N3 N2
   have := sqY2 B8
   go_wp2
   refine sqE g2 31 #[.int .i64 0, .int .i64 0] (Z37 B8) underlying31 ?_
   exact ⟨Z14, sqB3 HB E0 E1 E2⟩
section
attribute [local go_sem high] eqA31 eqA38
def F17.j0 : Nat → Bool → Int → Int → List (S31) → Int → Int → Option (Int × Int × (List (S31)) × Bool)
 | 0, _, _, _, _, _, _ => none
 | k + 1, x0, x1, x2, x3, x4, x5 => if x0 = true then (some (x1, x2, x3, false)) else (if x3.length < 8796093022208 then ((some (x3 ++ [(⟨x1, x2⟩ : S31)] : List (S31))).bind fun y0 => (if (y0.length : Int) > 8 then (if 1 ≤ (y0.length : Int) then ((F44.f x4 x5 (y0.drop (1 : Int).toNat)).bind fun bt0 => (some (bt0.1, bt0.2.1, bt0.2.2, true))) else (none)) else ((F44.f x4 x5 y0).bind fun bt1 => (some (bt1.1, bt1.2.1, bt1.2.2, true))))) else (none))
def F17.f (k : Nat) (a0_0 : Int) (a0_1 : Int) (l0_2 : List (S31)) (a1_0 : Int) (a1_1 : ByteArray) : Option (Int × Int × (List (S31)) × Bool) := (F44.f a0_0 a0_1 l0_2).bind fun bt0 => (if (a1_0 == 4 && (a1_1.toList == ([] : List UInt8))) = true then (if (wrap64 ((bt0.2.2.length : Int) - 1)) < 0 then (some (bt0.1, bt0.2.1, bt0.2.2, false)) else (if 0 ≤ (wrap64 ((bt0.2.2.length : Int) - 1)) then (if (wrap64 ((bt0.2.2.length : Int) - 1)) < (bt0.2.2.length : Int) then (if (wrap64 ((bt0.2.2.length : Int) - 1)) ≤ (bt0.2.2.length : Int) then ((F44.f ((rd_T31 bt0.2.2 (wrap64 ((bt0.2.2.length : Int) - 1))).f0) ((rd_T31 bt0.2.2 (wrap64 ((bt0.2.2.length : Int) - 1))).f1) (bt0.2.2.take ((wrap64 ((bt0.2.2.length : Int) - 1)) : Int).toNat)).bind fun bt1 => (some (bt1.1, bt1.2.1, bt1.2.2, true))) else (none)) else (none)) else (none))) else ((F42.f k a0_0 a0_1 a1_0 a1_1).bind fun bt2 => (if bt2.2.2 = true then (F17.j0 k (bt2.1 == a0_0 && (bt2.2.1 == a0_1)) bt0.1 bt0.2.1 bt0.2.2 bt2.1 bt2.2.1) else (F17.j0 k true bt0.1 bt0.2.1 bt0.2.2 bt2.1 bt2.2.1))))
abbrev F17.M (k : Nat) : Prop := (∀ y0 y1 y2 y3 y4 y5, LeO (F17.j0 k y0 y1 y2 y3 y4 y5) (F17.j0 (k + 1) y0 y1 y2 y3 y4 y5))
theorem F17.mt : ∀ k, F17.M k → F17.M (k + 1) ∧ ∀ a0 a1 a2 a3 a4, LeO (F17.f k a0 a1 a2 a3 a4) (F17.f (k + 1) a0 a1 a2 a3 a4) := by
  rintro k ih0
  refine ⟨?_, ?_⟩ <;> (try unfold F17.M) <;> intros <;> (first | unfold F17.j0 | unfold F17.f) <;> repeat' (with_reducible first | exact ih0 _ _ _ _ _ _ | exact F42.m _ _ _ _ _ | exact LeO.refl _ | exact LeO.none _ | refine LeO.ite ?_ ?_ | refine LeO.bind ?_ fun _ => ?_)
theorem F17.ml : ∀ k, F17.M k
 | 0 => fun _ _ _ _ _ _ r h => by simp [F17.j0] at h
 | k + 1 => (F17.mt k (F17.ml k)).1
theorem F17.m a0 a1 a2 a3 a4 k : LeO (F17.f k a0 a1 a2 a3 a4) (F17.f (k + 1) a0 a1 a2 a3 a4) := (F17.mt k (F17.ml k)).2 a0 a1 a2 a3 a4
def F17.T6 : Bool × List (List Nat × List Nat) := (true, [([], []), ([0], [0]), ([], []), ([1, 2], [1, 2]), ([3], [3]), ([], []), ([5], [5]), ([], []), ([6, 7], [6, 7]), ([4, 8], [4, 8]), ([9], [9]), ([10, 10, 0, 1, 2, 3, 4, 5, 6, 7, 8, 9, 10], [10]), ([11, 0, 1, 2, 3, 4, 5, 6, 7, 8, 9, 10, 11], [])])
def F17.B6 : List Nat := [0, 1, 0, 7, 15, 0, 32, 0, 224, 511, 1023, 2047, 4095]
theorem F17.tab6 : rtab .any (opsOf f61 6) = F17.T6 := by kernel_rfl
theorem F17.bits6 : waitsOk F17.T6.2 F17.B6 = true := by kernel_rfl
theorem F17.c (k : Nat) (a0_0 : Int) (a0_1 : Int) (A0_2 : Option Addr) (c0_2 : Nat) (l0_2 : List (S31)) (a1_0 : Int) (a1_1 : ByteArray) (r1 : Int) (r2 : Int) (r3 : List (S31)) (r4 : Bool) (w : World) (hG : Glob w) (hr0_2 : Kd.C k31 w A0_2 l0_2.length l0_2) (hc0_2 : l0_2.length ≤ c0_2) (H : F17.f k a0_0 a0_1 l0_2 a1_0 a1_1 = some (r1, r2, r3, r4)) :
  Calls prog 61 #[.agg #[.int .i64 a0_0, .int .i64 a0_1, .slice A0_2 l0_2.length c0_2], .agg #[.int .i64 a1_0, .string a1_1]] w fun e w' => ∃ v2_ : Value, e = .returned (.tuple #[.agg #[.int .i64 r1, .int .i64 r2, v2_], .bool r4]) ∧ Kd.R k31 31 w' w.heap.size (fun _ => True) v2_ r3 ∧ Below w.heap.size w w' := by
 have hu34 := underlying34
 have hu38 := underlying38
 have hu31 := underlying31
 have HR0_2 := sqa hr0_2
 have HC0_2 := sqa hc0_2
 clear hr0_2 hc0_2
 have HB := sqh w
 unfold F17.f at H
 obtain ⟨⟨t482, t483, t0⟩, A3, H⟩ := sqD H
 try dsimp only at H
 go_enter func61, ntmps61
 go_upto_if 15 with (first | ((with_reducible refine sqd 2 rfl ?_); refine sqBx w (sqB HB) (cs := #[.int .i64 a0_0, .int .i64 a0_1, .slice A0_2 l0_2.length c0_2]) (t := 34) ?_; intro g0 hg w6 B0 E0 HB hb; clear hb hg) | ((with_reducible refine sqd 3 rfl ?_); refine sqBx w (sqB1 HB E0) (cs := #[.int .i64 a1_0, .string a1_1]) (t := 38) ?_; intro g1 hg w7 B2 E1 HB hb; obtain ⟨N0, N1⟩ := sqM hg B0; replace B0 := sqT B0 hb; clear hb hg) | ((with_reducible refine sqd 4 rfl ?_); refine sqBx w (sqB2 HB E0 E1) (cs := #[.int .i64 0, .int .i64 0, .slice none 0 0]) (t := 34) ?_; intro g2 hg w8 B8 E2 HB hb; obtain ⟨N2, N3⟩ := sqM hg B0; replace B0 := sqT B0 hb; obtain ⟨N4, N5⟩ := sqM hg B2; replace B2 := sqT B2 hb; clear hb hg; have := sqn4 N0 N1 N2 N3; have := sqY3 B0) | ((with_reducible refine sqc 76 rfl ?_); refine sqC (some 12) func76 #[.agg #[.int .i64 a0_0, .int .i64 a0_1, .slice A0_2 l0_2.length c0_2]] ?_; (with_reducible refine (F44.c a0_0 a0_1 _ _ l0_2 t482 t483 t0 _ ?side1 ?side2 A3.1).mono ?_); (case side1 => exact Z1); (case side2 => exact HC0_2.1); rintro e w2 ⟨v0, rfl, ho0, hb⟩; refine ⟨_, rfl, ?_⟩; have O0 := sqL ho0 (sqB3 HB E0 E1 E2); obtain ⟨B0, B2, B8⟩ := sqT3 hb B0 B2 B8; replace HB := sqS (sqB3 HB E0 E1 E2) hb; (try clear ho0)) | ((with_reducible refine sqd 6 rfl ?_); refine sqBx w (sqB3 HB E0 E1 E2) (cs := #[.int .i64 0, .int .i64 0, .slice none 0 0]) (t := 34) ?_; intro g3 hg w3 B9 E3 HB hb; replace O0 := sqU O0 hb; obtain ⟨N6, N7⟩ := sqM hg B0; replace B0 := sqT B0 hb; obtain ⟨N8, N9⟩ := sqM hg B2; replace B2 := sqT B2 hb; obtain ⟨N10, N11⟩ := sqM hg B8; replace B8 := sqT B8 hb; clear hb hg; obtain ⟨Ao0, co0, eo0⟩ := Kd.R_slice O0.1; subst eo0; have := sqn6 N7 N6 N9 N8 N11 N10; have := sqY3 B9; have := sqn2 N4 N5; have := sqY2 B2; have := sqY3 B8; have := sqY3 B0))
 by_cases c4 : (a1_0 == 4 && (a1_1.toList == ([] : List UInt8))) = true
 ·rw [if_pos c4] at H
  have c4b0 : (a1_0 == 4 && (a1_1.toList == ([] : List UInt8))) = true := c4
  try have c4b8 : (a1_0 == 4 && a1_1.toList.isEmpty) = true := by (have h_ := c4b0; (repeat rw [sqy] at h_); exact h_)
  (try (have c4b1 : decide (a1_0 = 4 && (a1_1.toList == ([] : List UInt8))) = true := by simpa using c4))
  (try (have c4b2 : (a1_0 == 4 && (a1_1.toList == ([] : List UInt8))) = true := by simpa using c4))
  (first | rw [c4b0] | rw [c4b1] | rw [c4b2] | rw [c4b8] | simp only [i64_w, i32_w, c4b0, c4b1] | skip)
  clear c4
  go_upto_if 21 with fail
  by_cases c5 : (wrap64 ((t0.length : Int) - 1)) < 0
  ·rw [if_pos c5] at H
   have c5b0 : decide ((wrap64 ((t0.length : Int) - 1)) < 0) = true := decide_eq_true c5
   (first | rw [c5b0] | simp only [i64_w, i32_w, c5b0] | skip)
   clear c5
   obtain ⟨rfl, rfl, rfl, rfl⟩ := sqO4 H
   go_wp2_with fail
   refine sqE g2 34 #[.int .i64 t482, .int .i64 t483, .slice Ao0 t0.length co0] (by refine sqPut (cs := #[.int .i64 t482, .int .i64 t483, .slice none 0 0]) ?_ 2; refine sqPut (cs := #[.int .i64 t482, .int .i64 0, .slice none 0 0]) ?_ 1; refine sqPut (cs := #[.int .i64 0, .int .i64 0, .slice none 0 0]) ?_ 0; refine sqFar ?_ N10; refine sqFar ?_ N10; refine sqFar ?_ N10; exact sqK B8) underlying34 ?_
   exact ⟨_, Z14, by (with_reducible repeat (first | apply Kd.R_alloc | apply Kd.R_drewN | apply Kd.R_drew)); exact Kd.R_mono (Kd.R_far (p := ⟨g2, 2, none⟩) (Kd.R_far (p := ⟨g2, 1, none⟩) (Kd.R_far (p := ⟨g2, 0, none⟩) (Kd.R_far (p := ⟨g3, 2, none⟩) (Kd.R_far (p := ⟨g3, 1, none⟩) (Kd.R_far (p := ⟨g3, 0, none⟩) (Kd.R_types (Kd.R_types O0.1 B9.1 (by decide)) B8.1 (by decide)) (fun _ hk => hk.1.2) (.int .i64 t482)) (fun _ hk => hk.1.2) (.int .i64 t483)) (fun _ hk => hk.1.2) (.slice Ao0 t0.length co0)) (fun _ hk => hk.2) (.int .i64 t482)) (fun _ hk => hk.2) (.int .i64 t483)) (fun _ hk => hk.2) (.slice Ao0 t0.length co0)) (fun _ hk => trivial), sqB4 HB E0 E1 E2 E3⟩
  rw [if_neg c5] at H
  have c5b0 : decide ((wrap64 ((t0.length : Int) - 1)) < 0) = false := decide_eq_false c5
  (first | rw [c5b0] | simp only [i64_w, i32_w, c5b0] | skip)
  clear c5
  obtain ⟨ji0, hji0⟩ : ∃ j_ : Int, (wrap64 ((t0.length : Int) - 1)) = j_ := ⟨_, rfl⟩
  replace H : (if 0 ≤ (ji0) then (if (ji0) < (t0.length : Int) then (if (ji0) ≤ (t0.length : Int) then ((F44.f ((rd_T31 t0 (ji0)).f0) ((rd_T31 t0 (ji0)).f1) (t0.take ((ji0) : Int).toNat)).bind fun bt0 => (some (bt0.1, bt0.2.1, bt0.2.2, true))) else (none)) else (none)) else (none)) = some (r1, r2, r3, r4) := by first | (rw [hji0] at H; exact H) | (simp only [hji0] at H ⊢; exact H)
  (try rw [hji0] at c5b0)
  (try rw [hji0] at A3)
  have hji1 : (IntKind.i64.wrap ((t0.length : Int) - 1)) = ji0 := (i64_w _).trans hji0
  obtain ⟨c0, H⟩ := sqI H
  have c2 : decide (0 ≤ (ji0)) = true := decide_eq_true c0
  clear c0
  obtain ⟨c3, H⟩ := sqI H
  have c6 : decide ((ji0) < (t0.length : Int)) = true := decide_eq_true c3
  clear c3
  have c7 := eq_true (of_decide_eq_true Z7 : 0 ≤ (ji0))
  obtain ⟨c8, H⟩ := sqI H
  have c9 := eq_true c8
  have c10 : decide ((ji0) ≤ (t0.length : Int)) = true := decide_eq_true c8
  clear c8
  obtain ⟨y0, hy0⟩ : ∃ y_ : List (S31), y_ = (t0.take ((ji0) : Int).toNat) := ⟨_, rfl⟩
  replace H : ((F44.f ((rd_T31 t0 (ji0)).f0) ((rd_T31 t0 (ji0)).f1) y0).bind fun bt0 => (some (bt0.1, bt0.2.1, bt0.2.2, true))) = some (r1, r2, r3, r4) := sqW hy0 H
  have Ny0 := sqa hy0
  clear hy0
  obtain ⟨⟨t1, t2, t3⟩, A0, H⟩ := sqD H
  try dsimp only at H
  obtain ⟨rfl, rfl, rfl, rfl⟩ := sqO4 H
  try go_wp2_with fail
  obtain ⟨w4, hw_⟩ : ∃ w_, ((w3.setCell ⟨g3, 0, none⟩ (.int .i64 t482)).setCell ⟨g3, 1, none⟩ (.int .i64 t483)).setCell ⟨g3, 2, none⟩ (.slice Ao0 t0.length co0) = w_ := ⟨_, rfl⟩
  replace O0 : Aside0 (Kd.R k31 31 w4 w.heap.size (fun _ => True) (.slice Ao0 t0.length co0) t0) := by rw [← hw_]; exact ⟨by (with_reducible repeat (first | apply Kd.R_alloc | apply Kd.R_drewN | apply Kd.R_drew)); exact Kd.R_mono (sqr3 O0.1 B9.1) (fun _ hk => trivial)⟩
  replace B0 := sqJ hw_ N6 B0
  replace B2 := sqJ hw_ N8 B2
  replace B8 := sqJ hw_ N10 B8
  replace B9 : Aside0 (w4.heap[g3]? = some (.cells #[.int .i64 t482, .int .i64 t483, .slice Ao0 t0.length co0] 34 (0, 0))) := by rw [← hw_]; exact ⟨Z40 B9⟩
  replace HB : Aside0 (Below w.heap.size w w4) := by rw [← hw_]; exact ⟨sqB4 HB E0 E1 E2 E3⟩
  rw [hw_]; clear hw_
  replace O0 := sqa (Kd.R_drew O0.1)
  replace B0 := sqa (blk_drew B0.1)
  replace B2 := sqa (blk_drew B2.1)
  replace B8 := sqa (blk_drew B8.1)
  replace B9 := sqa (blk_drew B9.1)
  replace HB := sqa (below_drew1 HB.1)
  have p0 : 0 ≤ ((ji0) : Int) := of_decide_eq_true Z7
  have q0 : (ji0) < (t0.length : Int) := of_decide_eq_true Z7
  obtain ⟨ad0, e0, hx0, hx1⟩ := at_T31 (Kd.R_reads' O0.1).2.2 (ji0) p0 q0
  cases e0
  replace p0 := eq_true p0
  replace q0 := eq_true q0
  have q1 : ((ji0) : Int) ≤ ((t0.length : Int) : Int) := of_decide_eq_true Z7
  obtain ⟨i045, hi0, _, hsz0, _⟩ := info_parts info31
  have hroom0 : t0.length ≤ co0 := (Kd.R_reads' O0.1).2.1
  have hC0 : Kd.C k31 _ (some ad0) t0.length t0 := (Kd.R_reads' O0.1).2.2
  have hcut0 := cut_to (P := prog) 32 31 .i64 underlying32 hi0 (some ad0) t0.length co0 (ji0) (of_decide_eq_true Z7) q1 hroom0
  have hr0 := Kd.C_take (m := ((ji0) : Int).toNat) hC0 (by omega)
  have hy1 : y0.length = ((ji0) : Int).toNat := (by rw [Ny0.out, List.length_take]; omega)
  rw [← Ny0.out] at hr0
  rw [← hy1] at hcut0
  have HR0 := sqa hr0
  have HC0 := sqa (show y0.length ≤ co0 from by omega)
  clear hr0 hC0 hroom0 hi0 hsz0
  have KY0 := sqa hy1
  clear hy1
  have KL0 := sqa (show ((ji0) : Int).toNat ≤ t0.length from by omega)
  replace q1 := eq_true q1
  refine start_ (n := 13) (S := fun w' => w'.cell? ⟨g3, 0, none⟩ = some (.int .i64 t482) ∧ w'.cell? ⟨g3, 1, none⟩ = some (.int .i64 t483) ∧ w'.cell? ⟨g3, 2, none⟩ = some (.slice (some ad0) t0.length co0) ∧ w'.cell? (ad0.add (((ji0)).toNat * 2)) = some (.int .i64 ((rd_T31 t0 (ji0)).f0)) ∧ w'.cell? ⟨(ad0.add (((ji0)).toNat * 2)).block, (ad0.add (((ji0)).toNat * 2)).off + 1, none⟩ = some (.int .i64 ((rd_T31 t0 (ji0)).f1))) (ds := []) #[false, false, false, false, false, false, false, false, false, false, false, false, false] (by kernel_rfl) rfl rfl ⟨(blk_cell B9.1 0).trans rfl, (blk_cell B9.1 1).trans rfl, (blk_cell B9.1 2).trans rfl, hx0, hx1⟩ (fun hHeld => ?_); refine with_tabW F17.tab6 F17.bits6 (fun HT_ HW_ => ?_)
  generalize w4.drew = w5 at O0 B0 B2 B8 B9 HB HR0 hx0 hx1 hHeld ⊢
  refine sqP 0 (some 23) (h := ?_)
  refine sqP 2 (some 25) (h := ?_)
  refine sqP 5 (some 28) (h := ?_)
  refine sqP 7 (some 30) (h := ?_)
  refine sqQ 1 (some 24) hHeld (h := ?_)
  refine sqP 3 (some 26) (h := ?_)
  refine sqQ 4 (some 27) hHeld (h := ?_)
  refine sqQ 6 (some 29) hHeld (h := ?_)
  refine sqP 8 (some 31) (h := ?_)
  refine sqP 9 (some 32) (h := ?_)
  refine sq1 10 (some 33) (h := fun K hK => ?_)
  refine goes_ func76 (by kernel_rfl) rfl #[.agg #[.int .i64 ((rd_T31 t0 (ji0)).f0), .int .i64 ((rd_T31 t0 (ji0)).f1), .slice (some ad0) y0.length co0]] (by rfl) rfl rfl (by (try simp only [List.map_toArray, List.map_cons, List.map_nil]); first | done | (simp only [hji0]; rfl) | rfl | (simp only [List.length_drop, List.length_take]; rfl)) ?_
  with_reducible refine (F44.c ((rd_T31 t0 (ji0)).f0) ((rd_T31 t0 (ji0)).f1) _ _ y0 t1 t2 t3 _ ?side1 ?side2 A0.1).mono ?_
  (case side1 => exact Z137 HR0)
  (case side2 => exact HC0.1)
  rintro e w9 ⟨v1, rfl, ho0, hb⟩
  have HS3_ := (hb.cell (World.block_lt_of_cell? _ _ (hHeld.2.2.2.1))).trans (hHeld.2.2.2.1)
  have HS4_ := (hb.cell (World.block_lt_of_cell? _ _ (hHeld.2.2.2.2))).trans (hHeld.2.2.2.2)
  refine ⟨_, rfl, ?_⟩
  have O1 := sqa (Kd.R_lower (Kd.R_new' ho0 (Kd.R_lt (sqR O0))) (below_size (sqB4 HB E0 E1 E2 E3)))
  replace O0 := sqa (Kd.R_elder' (sqR O0) (Kd.R_base ho0) hb)
  replace B0 := sqT B0 hb
  replace B2 := sqT B2 hb
  replace B8 := sqT B8 hb
  replace B9 := sqT B9 hb
  replace HR0 := sqa (Kd.C_below (Z41 HR0) hb)
  replace HB := sqS (sqB4 HB E0 E1 E2 E3) hb
  obtain ⟨Ao1, co1, eo1⟩ := Kd.R_slice O1.1
  (first | subst eo1 | (injection eo1 with f1_ f2_ f3_; have f4_ := f1_.symm; have f5_ := f3_.symm; clear f1_ f2_ f3_; subst f4_; subst f5_))
  refine hK.out _ _ ⟨(blk_cell B9.1 0).trans rfl, (blk_cell B9.1 1).trans rfl, (blk_cell B9.1 2).trans rfl, HS3_, HS4_⟩ (fun hHeld => ?_)
  clear hK K
  refine sqN (some 33) ?_
  refine sq1 11 none (h := fun K hK => ?_)
  have := sqY3 B8
  have := sqn6 N2 N4 N11 N3 N5 N10
  refine skip_ (w1 := ?_) (by rfl) rfl ?_ ?_
  rotate_left
  ·go_simp
   rfl
  refine hK.out _ _ ⟨((cell_far (p := ⟨g2, _, none⟩) N11.1 _).trans (((cell_far (p := ⟨g2, _, none⟩) N11.1 _).trans (((cell_far (p := ⟨g2, _, none⟩) N11.1 _).trans (hHeld.1)))))), ((cell_far (p := ⟨g2, _, none⟩) N11.1 _).trans (((cell_far (p := ⟨g2, _, none⟩) N11.1 _).trans (((cell_far (p := ⟨g2, _, none⟩) N11.1 _).trans (hHeld.2.1)))))), ((cell_far (p := ⟨g2, _, none⟩) N11.1 _).trans (((cell_far (p := ⟨g2, _, none⟩) N11.1 _).trans (((cell_far (p := ⟨g2, _, none⟩) N11.1 _).trans (hHeld.2.2.1)))))), ((cell_far (p := ⟨g2, _, none⟩) (Z42 O0 B8) _).trans (((cell_far (p := ⟨g2, _, none⟩) (Z42 O0 B8) _).trans (((cell_far (p := ⟨g2, _, none⟩) (Z42 O0 B8) _).trans (hHeld.2.2.2.1)))))), ((cell_far (p := ⟨g2, _, none⟩) (Z42 O0 B8) _).trans (((cell_far (p := ⟨g2, _, none⟩) (Z42 O0 B8) _).trans (((cell_far (p := ⟨g2, _, none⟩) (Z42 O0 B8) _).trans (hHeld.2.2.2.2))))))⟩ (fun hHeld => ?_)
  clear hK K
  refine sqP 12 (some 5) (h := ?_)
  refine done_ (done_of HT_.out (by kernel_rfl)) ?_
  try go_wp2
  refine sqE g2 34 #[.int .i64 t1, .int .i64 t2, .slice Ao1 t3.length co1] (by refine sqPut (cs := #[.int .i64 t1, .int .i64 t2, .slice none 0 0]) ?_ 2; refine sqPut (cs := #[.int .i64 t1, .int .i64 0, .slice none 0 0]) ?_ 1; refine sqPut (cs := #[.int .i64 0, .int .i64 0, .slice none 0 0]) ?_ 0; exact sqK B8) underlying34 ?_
  exact ⟨_, by first | rfl | (simp [errP_none, errP_some] <;> rfl) | (simp only [← hji0]; first | rfl | (simp [errP_none, errP_some] <;> rfl)) | (simp [*, errP_none, errP_some] <;> rfl), by (with_reducible repeat (first | apply Kd.R_alloc | apply Kd.R_drewN | apply Kd.R_drew)); exact Kd.R_mono (sqr3 O1.1 B8.1) (fun _ hk => trivial), sqB4 HB E0 E1 E2 E3⟩
 rw [if_neg c4] at H
 have c4b0 : (a1_0 == 4 && (a1_1.toList == ([] : List UInt8))) = false := by simpa using c4
 try have c4b8 : (a1_0 == 4 && a1_1.toList.isEmpty) = false := by (have h_ := c4b0; (repeat rw [sqy] at h_); exact h_)
 (try (have c4b1 : decide (a1_0 = 4 && (a1_1.toList == ([] : List UInt8))) = false := by simpa using c4))
 (try (have c4b2 : (a1_0 == 4 && (a1_1.toList == ([] : List UInt8))) = false := by simpa using c4))
 (try (have c4b3 : ¬ (a1_0 = 4 && (a1_1.toList == ([] : List UInt8))) := by simpa using c4))
 (first | rw [c4b0] | rw [c4b1] | rw [c4b2] | rw [c4b3] | rw [c4b8] | simp only [i64_w, i32_w, c4b0, c4b1] | skip)
 clear c4
 obtain ⟨⟨t498, t499, t4⟩, A2, H⟩ := sqD H
 try dsimp only at H
 have HC1 := sqa H
 clear H
 go_upto_region 8 with (first | ((with_reducible refine sqc 111 rfl ?_); refine sqC (some 38) func111 #[.agg #[.int .i64 a0_0, .int .i64 a0_1], .agg #[.int .i64 a1_0, .string a1_1]] ?_; (with_reducible refine (F42.c k a0_0 a0_1 a1_0 a1_1 t498 t499 t4 _ ?sideG A2.1).mono ?_); (case sideG => exact Glob.below hG (sqB4 HB E0 E1 E2 E3)); refine sqV fun w69 hb => ?_; replace O0 := sqa (Kd.R_below (by (with_reducible repeat (first | apply Kd.R_alloc | apply Kd.R_drewN | apply Kd.R_drew)); exact (Kd.R_mono (sqr3 O0.1 B9.1) (fun _ h_ => h_.1))) hb); replace B0 := sqH N6 B0 hb; replace B2 := sqH N8 B2 hb; replace B8 := sqH N10 B8 hb; replace B9 := sqa (blk_below (g := g3) (o := .cells #[.int .i64 t482, .int .i64 t483, .slice Ao0 t0.length co0] 34 (0, 0)) (Z40 B9) hb); replace HB := sqS (sqB4 HB E0 E1 E2 E3) hb) | ((with_reducible refine sqd 8 rfl ?_); refine sqBx w (sqB4 HB E0 E1 E2 E3) (cs := #[.int .i64 0, .int .i64 0]) (t := 31) ?_; intro gb501 hg w70 B10 E4 HB hb; replace O0 := sqa (Kd.R_below (Kd.R_elderB (sqR O0) gb501 (Nat.le_of_eq hg.symm)) hb); obtain ⟨N12, N13⟩ := sqM hg B0; replace B0 := sqT B0 hb; obtain ⟨N14, N15⟩ := sqM hg B2; replace B2 := sqT B2 hb; obtain ⟨N16, N17⟩ := sqM hg B8; replace B8 := sqT B8 hb; obtain ⟨N18, N19⟩ := sqM hg B9; replace B9 := sqT B9 hb; clear hb hg; have := sqn6 N13 N12 N15 N14 N17 N16; have := sqn2 N19 N18; have := sqY2 B10))
 (try simp only [Act.put, List.setIfInBounds_toArray, List.set_cons_zero, List.set_cons_succ])
 go_cut [48] (fun v2 wc => ∃ (kq : Nat) (x0 : Bool), v2 = .bool x0 ∧ Aside0 (F17.j0 kq x0 t482 t483 t0 t498 t499 = some (r1, r2, r3, r4)) ∧ Aside0 (kq ≤ k) ∧ Aside0 (Kd.R k31 31 wc w.heap.size (fun k_ => k_ ≠ gb501) (.slice Ao0 t0.length co0) t0) ∧ Aside0 (wc.heap[g0]? = some (.cells #[.int .i64 a0_0, .int .i64 a0_1, (.slice A0_2 l0_2.length c0_2)] 34 (0, 0))) ∧ Aside0 (wc.heap[g1]? = some (.cells #[.int .i64 a1_0, .string a1_1] 38 (0, 0))) ∧ Aside0 (wc.heap[g2]? = some (.cells #[.int .i64 0, .int .i64 0, (.slice none 0 0)] 34 (0, 0))) ∧ Aside0 (wc.heap[g3]? = some (.cells #[.int .i64 t482, .int .i64 t483, (.slice Ao0 t0.length co0)] 34 (0, 0))) ∧ Aside0 (wc.heap[gb501]? = some (.cells #[.int .i64 t498, .int .i64 t499] 31 (0, 0))) ∧ Aside0 (Below w.heap.size w wc))
 case first =>
  have H := HC1.1
  clear HC1
  by_cases c76 : t4 = true
  ·subst c76
   rw [if_pos rfl] at H
   have H' := sqa H
   clear H
   have := sqn6 N13 N12 N15 N14 N17 N16
   have := sqn2 N19 N18
   have := sqY2 B10
   have := sqn6 N0 N1 N2 N3 N6 N7
   have := sqY3 B0
   go_wp2
   go_meet
   case rel => exact ⟨_, ((t498 == a0_0 && (t499 == a0_1))), Z2, H', ⟨Z3⟩, ⟨Z43 O0⟩, ⟨Z9 N12 B0⟩, ⟨Z9 N14 B2⟩, ⟨Z9 N16 B8⟩, ⟨Z9 N18 B9⟩, ⟨Z44 B10⟩, ⟨Z13 E0 E1 E2 E3 E4⟩⟩
  obtain rfl := sqb c76
  rw [if_neg sqF] at H
  have H' := sqa H
  clear H
  go_wp2
  go_meet
  case rel => exact ⟨_, (true), Z2, H', ⟨Z3⟩, ⟨Z43 O0⟩, ⟨Z9 N12 B0⟩, ⟨Z9 N14 B2⟩, ⟨Z9 N16 B8⟩, ⟨Z9 N18 B9⟩, ⟨Z44 B10⟩, ⟨Z13 E0 E1 E2 E3 E4⟩⟩
 case rest =>
  clear HC1
  obtain ⟨kq, x0, rfl, HA, HJ0, O2, B0, B2, B8, B9, B10, HB⟩ := hcut
  cases kq with
  | zero => exact absurd HA.out (by simp [F17.j0])
  | succ kj0 =>
   have H := HA.out
   clear HA
   simp only [F17.j0] at H
   by_cases c86 : x0 = true
   ·subst c86
    rw [if_pos rfl] at H
    obtain ⟨rfl, rfl, rfl, rfl⟩ := sqO4 H
    have := sqn6 N7 N6 N9 N8 N11 N10
    have := sqn2 N18 N19
    have := sqY3 B9
    have := sqn6 N3 N2 N5 N4 N16 N17
    have := sqY3 B8
    go_wp2
    refine sqE g2 34 #[.int .i64 t482, .int .i64 t483, .slice Ao0 t0.length co0] (Z40 B8) underlying34 ?_
    exact ⟨_, Z14, by (with_reducible repeat (first | apply Kd.R_alloc | apply Kd.R_drewN | apply Kd.R_drew)); exact Kd.R_mono (sqr3 O2.1 B8.1) (fun _ hk => trivial), Z13 E0 E1 E2 E3 E4⟩
   obtain rfl := sqb c86
   rw [if_neg sqF] at H
   obtain ⟨c96, H⟩ := sqI H
   have LMc0 := sqa c96
   clear c96
   obtain ⟨y1, hy2⟩ : ∃ y_ : List (S31), y_ = (t0 ++ [(⟨t482, t483⟩ : S31)]) := ⟨_, rfl⟩
   replace H : (if (y1.length : Int) > 8 then (if 1 ≤ (y1.length : Int) then ((F44.f t498 t499 (y1.drop (1 : Int).toNat)).bind fun bt1 => (some (bt1.1, bt1.2.1, bt1.2.2, true))) else (none)) else ((F44.f t498 t499 y1).bind fun bt2 => (some (bt2.1, bt2.2.1, bt2.2.2, true)))) = some (r1, r2, r3, r4) := sqW hy2 H
   have Ny1 := sqa hy2
   clear hy2
   by_cases c97 : (y1.length : Int) > 8
   ·rw [if_pos c97] at H
    have c14 : decide (8 < (y1.length : Int)) = true := decide_eq_true c97
    have c15 : decide (8 < y1.length) = true := decide_eq_true (by omega)
    clear c97
    obtain ⟨c98, H⟩ := sqI H
    have c17 := eq_true c98
    have c18 : decide (1 ≤ (y1.length : Int)) = true := decide_eq_true c98
    clear c98
    obtain ⟨y2, hy3⟩ : ∃ y_ : List (S31), y_ = (y1.drop (1 : Int).toNat) := ⟨_, rfl⟩
    replace H : ((F44.f t498 t499 y2).bind fun bt1 => (some (bt1.1, bt1.2.1, bt1.2.2, true))) = some (r1, r2, r3, r4) := sqW hy3 H
    have Ny2 := sqa hy3
    clear hy3
    obtain ⟨⟨t5, t6, t7⟩, A4, H⟩ := sqD H
    try dsimp only at H
    obtain ⟨rfl, rfl, rfl, rfl⟩ := sqO4 H
    have := sqn6 N7 N6 N9 N8 N11 N10
    have := sqn2 N18 N19
    have := sqY3 B9
    go_wp2_with (first | ((with_reducible refine gate_builtin (b := .append) (xs := #[.tmp 51, .tmp 54]) rfl ?_); at_builtin; refine Kd.R_append k31 (w0 := w) w.heap.size rfl (.tmp 51) (.tmp 54) 32 31 (.agg #[(.int .i64 0), (.int .i64 0)]) 16 rfl underlying32 info31 rfl (by decide) (by omega) (.slice Ao0 t0.length co0) t0 (⟨t482, t483⟩ : S31) [.int .i64 t482, .int .i64 t483] (fun k_ => k_ ≠ gb501) (fun _ => False) rfl rfl ?aP (fun _ hk => hk.elim) ?aF ?aO ?aB ?aS ?aL ?_; (case aP => exact k31_mkM _ _ _ (⟨t482, t483⟩ : S31)); (case aB => exact (Z13 E0 E1 E2 E3 E4)); (case aF => exact (fun k_ hk => Kd.freshB (sqK B10) k_ hk)); (case aO => exact (sqR O2)); (case aS => exact (below_size (Z13 E0 E1 E2 E3 E4))); (case aL => exact Z15 LMc0); intro v3 w14 ho hb hg hat; rw [← Ny1.out] at ho; replace B0 := sqa (blk_grown (sqK B0) hg (Kd.R_ne O2.1 B0.1 (by decide))); replace B2 := sqa (blk_grown (sqK B2) hg (Kd.R_ne O2.1 B2.1 (by decide))); replace B8 := sqa (blk_grown (sqK B8) hg (Kd.R_ne O2.1 B8.1 (by decide))); replace B9 := sqa (blk_grown (sqK B9) hg (Kd.R_ne O2.1 B9.1 (by decide))); replace B10 := sqa (blk_grown (sqK B10) hg (Kd.R_away O2.1 (fun _ hk => hk))); replace HB := sqa (hb); have O3 := sqa (ho); clear O2; clear ho hb hg hat; obtain ⟨Ao2, co2, eo2⟩ := Kd.R_slice O3.1; subst eo2; have q2 : (1 : Int) ≤ ((y1.length : Int) : Int) := of_decide_eq_true Z7; obtain ⟨i0107, hi1, _, hsz1, _⟩ := info_parts info31; have hcut1 := cut_from (P := prog) 32 31 .i64 underlying32 hi1 2 hsz1 Ao2 y1.length co2 1 (by omega) q2; have hr1 := Kd.Q_drop (k := (1 : Int).toNat) (Kd.Q_of_R O3.1) (by omega); obtain ⟨A5, hA0⟩ : ∃ A1, A1 = (if co2 = (1 : Int).toNat then Ao2 else (Ao2 : Option Addr).map (·.add ((1 : Int).toNat * 2))) := ⟨_, rfl⟩; obtain ⟨c19, hc0⟩ : ∃ c1, c1 = co2 - (1 : Int).toNat := ⟨_, rfl⟩; have hy4 : y2.length = y1.length - (1 : Int).toNat := (by rw [Ny2.out, List.length_drop]); rw [← Ny2.out] at hr1; rw [← hy4, ← hA0, ← hc0] at hcut1; replace hr1 : Kd.Q k31 31 w14 w.heap.size (fun k_ => k_ ≠ gb501) (.slice A5 y2.length c19) y2 := (by rw [hA0, hc0, hy4]; exact hr1); have HE0 : Aside0 ((Value.slice A5 y2.length c19).ownBlock = (.slice Ao2 y1.length co2 : Value).ownBlock) := ⟨by rw [hA0]; split <;> (cases (Ao2 : Option Addr) <;> rfl)⟩; clear hy4 hi1 hsz1 O3 hA0 hc0; have O4 := sqa hr1; clear hr1; replace q2 := eq_true q2; have := sqn6 N13 N12 N15 N14 N17 N16; have := sqY2 B10) | ((with_reducible refine sqc 76 rfl ?_); refine sqC (some 64) func76 #[.agg #[.int .i64 t498, .int .i64 t499, .slice A5 y2.length c19]] ?_; (with_reducible refine (F44.c t498 t499 _ _ y2 t5 t6 t7 _ ?side1 ?side2 A4.1).mono ?_); (case side1 => exact Z45 O4); (case side2 => exact Z46 O4); rintro e w15 ⟨v4, rfl, ho0, hb⟩; refine ⟨_, rfl, ?_⟩; have O5 := sqa (Kd.R_lower (Kd.R_newB (Kd.R_new' ho0 (Kd.Q_lt (Z10 O4))) (sqK B10)) (below_size (Z13 E0 E1 E2 E3 E4))); replace O4 := sqa (Kd.Q_elder' (Z10 O4) (Kd.R_base ho0) hb); obtain ⟨B0, B2, B8, B9, B10⟩ := sqT5 hb B0 B2 B8 B9 B10; replace HB := sqa (below_step (Z13 E0 E1 E2 E3 E4) hb); (try clear ho0); have := sqn4 N3 N2 N5 N4; have := sqY3 B8; obtain ⟨Ao3, co3, eo3⟩ := Kd.R_slice O5.1; subst eo3))
    refine sqE g2 34 #[.int .i64 t5, .int .i64 t6, .slice Ao3 t7.length co3] (by refine sqPut (cs := #[.int .i64 t5, .int .i64 t6, .slice none 0 0]) ?_ 2; refine sqPut (cs := #[.int .i64 t5, .int .i64 0, .slice none 0 0]) ?_ 1; refine sqPut (cs := #[.int .i64 0, .int .i64 0, .slice none 0 0]) ?_ 0; exact sqK B8) underlying34 ?_
    exact ⟨_, Z14, by (with_reducible repeat (first | apply Kd.R_alloc | apply Kd.R_drewN | apply Kd.R_drew)); exact Kd.R_mono (sqr3 O5.1 B8.1) (fun _ hk => trivial), Z13 E0 E1 E2 E3 E4⟩
   rw [if_neg c97] at H
   have c14 : decide (8 < (y1.length : Int)) = false := decide_eq_false c97
   have c15 : decide (8 < y1.length) = false := decide_eq_false (by omega)
   clear c97
   obtain ⟨⟨t8, t9, t10⟩, A6, H⟩ := sqD H
   try dsimp only at H
   obtain ⟨rfl, rfl, rfl, rfl⟩ := sqO4 H
   have := sqn6 N7 N6 N9 N8 N11 N10
   have := sqn2 N18 N19
   have := sqY3 B9
   go_wp2_with (first | ((with_reducible refine gate_builtin (b := .append) (xs := #[.tmp 51, .tmp 54]) rfl ?_); at_builtin; refine Kd.R_append k31 (w0 := w) w.heap.size rfl (.tmp 51) (.tmp 54) 32 31 (.agg #[(.int .i64 0), (.int .i64 0)]) 16 rfl underlying32 info31 rfl (by decide) (by omega) (.slice Ao0 t0.length co0) t0 (⟨t482, t483⟩ : S31) [.int .i64 t482, .int .i64 t483] (fun k_ => k_ ≠ gb501) (fun _ => False) rfl rfl ?aP (fun _ hk => hk.elim) ?aF ?aO ?aB ?aS ?aL ?_; (case aP => exact k31_mkM _ _ _ (⟨t482, t483⟩ : S31)); (case aB => exact (Z13 E0 E1 E2 E3 E4)); (case aF => exact (fun k_ hk => Kd.freshB (sqK B10) k_ hk)); (case aO => exact (sqR O2)); (case aS => exact (below_size (Z13 E0 E1 E2 E3 E4))); (case aL => exact Z15 LMc0); intro v3 w16 ho hb hg hat; rw [← Ny1.out] at ho; replace B0 := sqa (blk_grown (sqK B0) hg (Kd.R_ne O2.1 B0.1 (by decide))); replace B2 := sqa (blk_grown (sqK B2) hg (Kd.R_ne O2.1 B2.1 (by decide))); replace B8 := sqa (blk_grown (sqK B8) hg (Kd.R_ne O2.1 B8.1 (by decide))); replace B9 := sqa (blk_grown (sqK B9) hg (Kd.R_ne O2.1 B9.1 (by decide))); replace B10 := sqa (blk_grown (sqK B10) hg (Kd.R_away O2.1 (fun _ hk => hk))); replace HB := sqa (hb); have O3 := sqa (ho); clear O2; clear ho hb hg hat; obtain ⟨Ao4, co4, eo4⟩ := Kd.R_slice O3.1; subst eo4; have := sqn6 N13 N12 N15 N14 N17 N16; have := sqY2 B10) | ((with_reducible refine sqc 76 rfl ?_); refine sqC (some 64) func76 #[.agg #[.int .i64 t498, .int .i64 t499, .slice Ao4 y1.length co4]] ?_; (with_reducible refine (F44.c t498 t499 _ _ y1 t8 t9 t10 _ ?side1 ?side2 A6.1).mono ?_); (case side1 => exact Z47 O3); (case side2 => exact Z48 O3); rintro e w17 ⟨v5, rfl, ho0, hb⟩; refine ⟨_, rfl, ?_⟩; have O6 := sqa (Kd.R_lower (Kd.R_newB (Kd.R_new' ho0 (Kd.R_lt (sqR O3))) (sqK B10)) (below_size (Z13 E0 E1 E2 E3 E4))); replace O3 := sqa (Kd.R_elder' (sqR O3) (Kd.R_base ho0) hb); obtain ⟨B0, B2, B8, B9, B10⟩ := sqT5 hb B0 B2 B8 B9 B10; replace HB := sqa (below_step (Z13 E0 E1 E2 E3 E4) hb); (try clear ho0); have := sqn4 N3 N2 N5 N4; have := sqY3 B8; obtain ⟨Ao5, co5, eo5⟩ := Kd.R_slice O6.1; subst eo5))
   refine sqE g2 34 #[.int .i64 t8, .int .i64 t9, .slice Ao5 t10.length co5] (by refine sqPut (cs := #[.int .i64 t8, .int .i64 t9, .slice none 0 0]) ?_ 2; refine sqPut (cs := #[.int .i64 t8, .int .i64 0, .slice none 0 0]) ?_ 1; refine sqPut (cs := #[.int .i64 0, .int .i64 0, .slice none 0 0]) ?_ 0; exact sqK B8) underlying34 ?_
   exact ⟨_, Z14, by (with_reducible repeat (first | apply Kd.R_alloc | apply Kd.R_drewN | apply Kd.R_drew)); exact Kd.R_mono (sqr3 O6.1 B8.1) (fun _ hk => trivial), Z13 E0 E1 E2 E3 E4⟩
end
end Go.Proofs.YtofmlbgfcohhoaaGreatDoor.PFnReadJournal
