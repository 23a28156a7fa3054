import Derived.Test.YtofmlbgfcohhoaaGreatDoorPFnReadJournalx0
set_option maxHeartbeats 8000000
set_option maxRecDepth 100000
namespace Go.Proofs.YtofmlbgfcohhoaaGreatDoor.PFnReadJournal
open Go.RowKit Go.Proofs.YtofmlbgfcohhoaaGreatDoorW.PrintWords Go.Proofs.YtofmlbgfcohhoaaGreatDoorW.PrintLast Go.Proofs.YtofmlbgfcohhoaaGreatDoorW.PrintMore Go.Proofs.YtofmlbgfcohhoaaGreatDoor.Lib Go.Proofs.Tryz
attribute [local go_sem] max2_int min2_int max_two min_two max_three min_three max_four min_four
set_option linter.unusedVariables false
set_option linter.unusedSimpArgs false

def F7.f (k : Nat) (a0_0 : Int) (a0_1 : Int) : Option (Bool) := (F33.f a0_0 (-1000000) 1000000).bind fun t117 => (if t117 = true then ((F33.f a0_1 0 1000000).bind fun t0 => (if t0 = true then ((F15.f k a0_0 a0_1).bind fun t119 => (if t119 = 1 then (if a0_1 > 0 then (some true) else (some (a0_0 == 1))) else (some false))) else (some false))) else (some false))
theorem F7.m : ∀ a0 a1 k, LeO (F7.f k a0 a1) (F7.f (k + 1) a0 a1) := by
 intro a0 a1 k
 unfold F7.f
 repeat' (with_reducible first | exact F15.m _ _ _ | exact LeO.refl _ | exact LeO.none _ | refine LeO.ite ?_ ?_ | refine LeO.bind ?_ fun _ => ?_)
theorem F7.c (k : Nat) (a0_0 : Int) (a0_1 : Int) (r : Bool) (w : World) (H : F7.f k a0_0 a0_1 = some r) :
  Calls prog 77 #[.agg #[.int .i64 a0_0, .int .i64 a0_1]] w fun e w' => e = .returned (.bool r) ∧ Below w.heap.size w w' := by
 have hu31 := underlying31
 have HB := sqh w
 unfold F7.f at H
 obtain ⟨t117, A2, H⟩ := sqD H
 by_cases c3 : t117 = true
 ·subst c3
  rw [if_pos rfl] at H
  obtain ⟨t0, A4, H⟩ := sqD H
  by_cases c5 : t0 = true
  ·subst c5
   rw [if_pos rfl] at H
   obtain ⟨t119, A6, H⟩ := sqD H
   by_cases c7 : t119 = 1
   ·rw [if_pos c7] at H
    have c7b0 : (t119 == 1) = true := sqe1 c7
    have c7b1 : (t119 != 1) = false := sqn0 c7
    clear c7
    by_cases c8 : a0_1 > 0
    ·rw [if_pos c8] at H
     have c8b0 : decide (0 < a0_1) = true := decide_eq_true c8
     clear c8
     obtain rfl := sqo H
     go_enter func77, ntmps77
     go_wp2_with (first | ((with_reducible refine sqd 1 rfl ?_); refine sqBx w (sqB HB) (cs := #[.int .i64 a0_0, .int .i64 a0_1]) (t := 31) ?_; intro g0 hg w9 B0 E0 HB hb; clear hb hg; have := sqY2 B0) | ((with_reducible refine sqc 101 rfl ?_); refine sqC (some 5) func101 #[.int .i64 a0_0, .int .i64 (-1000000), .int .i64 1000000] ?_; (with_reducible refine (F33.c a0_0 (-1000000) 1000000 true _ A2.1).mono ?_); rintro e w' ⟨rfl, ⟨nd, rfl⟩⟩; refine ⟨_, rfl, ?_⟩) | (go_at_call 101; (with_reducible refine (F33.c a0_1 0 1000000 true _ A4.1).mono ?_); rintro e w' ⟨rfl, ⟨nd, rfl⟩⟩) | ((with_reducible refine sqc 121 rfl ?_); refine sqC (some 17) func121 #[.int .i64 a0_0, .int .i64 a0_1] ?_; (with_reducible refine (F15.c k a0_0 a0_1 t119 _ A6.1).mono ?_); refine sqV fun w0 hb => ?_; replace B0 := sqT B0 hb; replace HB := sqS (sqB1 HB E0) hb; have := sqY2 B0))
     go_ret
     exact ⟨Z14, sqB1 HB E0⟩
    rw [if_neg c8] at H
    have c8b0 : decide (0 < a0_1) = false := decide_eq_false c8
    clear c8
    obtain rfl := sqo H
    go_enter func77, ntmps77
    go_wp2_with (first | ((with_reducible refine sqd 1 rfl ?_); refine sqBx w (sqB HB) (cs := #[.int .i64 a0_0, .int .i64 a0_1]) (t := 31) ?_; intro g0 hg w1 B0 E0 HB hb; clear hb hg; have := sqY2 B0) | ((with_reducible refine sqc 101 rfl ?_); refine sqC (some 5) func101 #[.int .i64 a0_0, .int .i64 (-1000000), .int .i64 1000000] ?_; (with_reducible refine (F33.c a0_0 (-1000000) 1000000 true _ A2.1).mono ?_); rintro e w' ⟨rfl, ⟨nd, rfl⟩⟩; refine ⟨_, rfl, ?_⟩) | (go_at_call 101; (with_reducible refine (F33.c a0_1 0 1000000 true _ A4.1).mono ?_); rintro e w' ⟨rfl, ⟨nd, rfl⟩⟩) | ((with_reducible refine sqc 121 rfl ?_); refine sqC (some 17) func121 #[.int .i64 a0_0, .int .i64 a0_1] ?_; (with_reducible refine (F15.c k a0_0 a0_1 t119 _ A6.1).mono ?_); refine sqV fun w2 hb => ?_; replace B0 := sqT B0 hb; replace HB := sqS (sqB1 HB E0) hb; have := sqY2 B0))
    go_ret
    exact ⟨Z14, sqB1 HB E0⟩
   rw [if_neg c7] at H
   have c7b0 : (t119 == 1) = false := sqe0 c7
   have c7b1 : (t119 != 1) = true := sqn1 c7
   obtain rfl := sqo H
   go_enter func77, ntmps77
   go_wp2_with (first | ((with_reducible refine sqd 1 rfl ?_); refine sqBx w (sqB HB) (cs := #[.int .i64 a0_0, .int .i64 a0_1]) (t := 31) ?_; intro g0 hg w3 B0 E0 HB hb; clear hb hg; have := sqY2 B0) | ((with_reducible refine sqc 101 rfl ?_); refine sqC (some 5) func101 #[.int .i64 a0_0, .int .i64 (-1000000), .int .i64 1000000] ?_; (with_reducible refine (F33.c a0_0 (-1000000) 1000000 true _ A2.1).mono ?_); rintro e w' ⟨rfl, ⟨nd, rfl⟩⟩; refine ⟨_, rfl, ?_⟩) | (go_at_call 101; (with_reducible refine (F33.c a0_1 0 1000000 true _ A4.1).mono ?_); rintro e w' ⟨rfl, ⟨nd, rfl⟩⟩) | ((with_reducible refine sqc 121 rfl ?_); refine sqC (some 17) func121 #[.int .i64 a0_0, .int .i64 a0_1] ?_; (with_reducible refine (F15.c k a0_0 a0_1 t119 _ A6.1).mono ?_); refine sqV fun w4 hb => ?_; replace B0 := sqT B0 hb; replace HB := sqS (sqB1 HB E0) hb))
   go_ret
   exact ⟨Z14, sqB1 HB E0⟩
  obtain rfl := sqb c5
  rw [if_neg sqF] at H
  obtain rfl := sqo H
  go_enter func77, ntmps77
  go_wp2_with (first | ((with_reducible refine sqd 1 rfl ?_); refine sqBx w (sqB HB) (cs := #[.int .i64 a0_0, .int .i64 a0_1]) (t := 31) ?_; intro g0 hg w5 B0 E0 HB hb; clear hb hg; have := sqY2 B0) | ((with_reducible refine sqc 101 rfl ?_); refine sqC (some 5) func101 #[.int .i64 a0_0, .int .i64 (-1000000), .int .i64 1000000] ?_; (with_reducible refine (F33.c a0_0 (-1000000) 1000000 true _ A2.1).mono ?_); rintro e w' ⟨rfl, ⟨nd, rfl⟩⟩; refine ⟨_, rfl, ?_⟩) | (go_at_call 101; (with_reducible refine (F33.c a0_1 0 1000000 false _ A4.1).mono ?_); rintro e w' ⟨rfl, ⟨nd, rfl⟩⟩))
  go_ret
  exact ⟨Z14, sqB1 HB E0⟩
 obtain rfl := sqb c3
 rw [if_neg sqF] at H
 obtain rfl := sqo H
 go_enter func77, ntmps77
 go_wp2_with (first | ((with_reducible refine sqd 1 rfl ?_); refine sqBx w (sqB HB) (cs := #[.int .i64 a0_0, .int .i64 a0_1]) (t := 31) ?_; intro g0 hg w6 B0 E0 HB hb; clear hb hg; have := sqY2 B0) | ((with_reducible refine sqc 101 rfl ?_); refine sqC (some 5) func101 #[.int .i64 a0_0, .int .i64 (-1000000), .int .i64 1000000] ?_; (with_reducible refine (F33.c a0_0 (-1000000) 1000000 false _ A2.1).mono ?_); rintro e w' ⟨rfl, ⟨nd, rfl⟩⟩; refine ⟨_, rfl, ?_⟩))
 go_ret
 exact ⟨Z14, sqB1 HB E0⟩

def F18.l0 : Nat → Int → Int → Int → List (S31) → Option (Bool)
 | 0, _, _, _, _ => none
 | k + 1, x3, x0, x1, x2 => if x3 < (x2.length : Int) then (if 0 ≤ x3 then ((F7.f k ((rd_T31 x2 x3).f0) ((rd_T31 x2 x3).f1)).bind fun t0 => (if t0 = true then (F18.l0 k (wrap64 (x3 + 1)) x0 x1 x2) else (some false))) else (none)) else ((F7.f k x0 x1).bind fun t1 => (if t1 = true then (some (decide ((x2.length : Int) ≤ 8))) else (some false)))
def F18.f (k : Nat) (a0_0 : Int) (a0_1 : Int) (l0_2 : List (S31)) : Option (Bool) := F18.l0 k 0 a0_0 a0_1 l0_2
abbrev F18.M (k : Nat) : Prop := (∀ y0 y1 y2 y3, LeO (F18.l0 k y0 y1 y2 y3) (F18.l0 (k + 1) y0 y1 y2 y3))
theorem F18.mt : ∀ k, F18.M k → F18.M (k + 1) ∧ ∀ a0 a1 a2, LeO (F18.f k a0 a1 a2) (F18.f (k + 1) a0 a1 a2) := by
  rintro k ih0
  refine ⟨?_, ?_⟩ <;> (try unfold F18.M) <;> intros <;> (first | unfold F18.l0 | unfold F18.f) <;> repeat' (with_reducible first | exact ih0 _ _ _ _ | exact F7.m _ _ _ | exact LeO.refl _ | exact LeO.none _ | refine LeO.ite ?_ ?_ | refine LeO.bind ?_ fun _ => ?_)
theorem F18.ml : ∀ k, F18.M k
 | 0 => fun _ _ _ _ r h => by simp [F18.l0] at h
 | k + 1 => (F18.mt k (F18.ml k)).1
theorem F18.m a0 a1 a2 k : LeO (F18.f k a0 a1 a2) (F18.f (k + 1) a0 a1 a2) := (F18.mt k (F18.ml k)).2 a0 a1 a2
theorem F18.c (k : Nat) (a0_0 : Int) (a0_1 : Int) (A0_2 : Option Addr) (c0_2 : Nat) (l0_2 : List (S31)) (r : Bool) (w : World) (hr0_2 : Kd.C k31 w A0_2 l0_2.length l0_2) (hc0_2 : l0_2.length ≤ c0_2) (H : F18.f k a0_0 a0_1 l0_2 = some r) :
  Calls prog 30 #[.agg #[.int .i64 a0_0, .int .i64 a0_1, .slice A0_2 l0_2.length c0_2]] w fun e w' => e = .returned (.bool r) ∧ Below w.heap.size w w' := by
 have hu34 := underlying34
 have hu31 := underlying31
 have HR0_2 := sqa hr0_2
 have HC0_2 := sqa hc0_2
 clear hr0_2 hc0_2
 have HB := sqh w
 unfold F18.f at H
 have H' := sqa H
 clear H
 go_enter func30, ntmps30
 go_wp2_with (first | ((with_reducible refine sqd 1 rfl ?_); (try (refine gate_guard (by rfl) ?_; dsimp only)); refine sqBx w (sqB HB) (cs := #[.int .i64 a0_0, .int .i64 a0_1, .slice A0_2 l0_2.length c0_2]) (t := 34) ?_; intro g0 hg w2 B0 E0 HB hb; clear hb hg))
 go_loopg [3] k (fun kq v3 w' => ∃ (x3_1 : Int), v3 = .int .i64 x3_1 ∧ Aside0 (F18.l0 kq x3_1 a0_0 a0_1 l0_2 = some r) ∧ Aside0 (kq ≤ k) ∧ Aside0 (w'.heap[g0]? = some (.cells #[.int .i64 a0_0, .int .i64 a0_1, (.slice A0_2 l0_2.length c0_2)] 34 (0, 0))) ∧ Aside0 (Below w.heap.size w w'))
 case atStart => exact ⟨(0), Z2, H', ⟨Nat.le_refl _⟩, ⟨sqK B0⟩, ⟨sqB1 HB E0⟩⟩
 case round =>
  clear H'
  obtain ⟨x3_1, rfl, HA, HK1, B0, HB⟩ := hrel
  cases gk with
  | zero => exact absurd HA.out (by simp [F18.l0])
  | succ k1 =>
   have H := HA.out
   clear HA
   simp only [F18.l0] at H
   by_cases c3 : x3_1 < (l0_2.length : Int)
   ·rw [if_pos c3] at H
    have c3b0 : decide (x3_1 < (l0_2.length : Int)) = true := decide_eq_true c3
    clear c3
    obtain ⟨c4, H⟩ := sqI H
    have c4b0 : decide (0 ≤ x3_1) = true := decide_eq_true c4
    clear c4
    obtain ⟨t0, A5, H⟩ := sqD H
    by_cases c6 : t0 = true
    ·subst c6
     rw [if_pos rfl] at H
     have H' := sqa H
     clear H
     have := sqY3 B0
     have p0 : 0 ≤ (x3_1 : Int) := of_decide_eq_true Z7
     have q0 : x3_1 < (l0_2.length : Int) := of_decide_eq_true Z7
     obtain ⟨ad0, e0, hx0, hx1⟩ := at_T31 HR0_2.1 x3_1 p0 q0
     cases e0
     replace hx0 := (HB.1.cell (World.block_lt_of_cell? w _ hx0)).trans hx0
     replace hx1 := (HB.1.cell (World.block_lt_of_cell? w _ hx1)).trans hx1
     replace p0 := eq_true p0
     replace q0 := eq_true q0
     go_wp2_with (first | ((with_reducible refine sqc 77 rfl ?_); refine sqC (some 16) func77 #[.agg #[.int .i64 ((rd_T31 l0_2 x3_1).f0), .int .i64 ((rd_T31 l0_2 x3_1).f1)]] ?_; (with_reducible refine (F7.c k1 ((rd_T31 l0_2 x3_1).f0) ((rd_T31 l0_2 x3_1).f1) true _ A5.1).mono ?_); refine sqV fun w8 hb => ?_; replace B0 := sqT B0 hb; replace HB := sqS (sqB1 HB E0) hb))
     go_roundg k1
     case measure => have := HK1.out; omega
     case rel => exact ⟨(wrap64 (x3_1 + 1)), Z2, H', ⟨Z15 HK1⟩, ⟨sqK B0⟩, ⟨sqB1 HB E0⟩⟩
    obtain rfl := sqb c6
    rw [if_neg sqF] at H
    obtain rfl := sqo H
    have := sqY3 B0
    have p0 : 0 ≤ (x3_1 : Int) := of_decide_eq_true Z7
    have q0 : x3_1 < (l0_2.length : Int) := of_decide_eq_true Z7
    obtain ⟨ad0, e0, hx0, hx1⟩ := at_T31 HR0_2.1 x3_1 p0 q0
    cases e0
    replace hx0 := (HB.1.cell (World.block_lt_of_cell? w _ hx0)).trans hx0
    replace hx1 := (HB.1.cell (World.block_lt_of_cell? w _ hx1)).trans hx1
    replace p0 := eq_true p0
    replace q0 := eq_true q0
    go_wp2_with (first | ((with_reducible refine sqc 77 rfl ?_); refine sqC (some 16) func77 #[.agg #[.int .i64 ((rd_T31 l0_2 x3_1).f0), .int .i64 ((rd_T31 l0_2 x3_1).f1)]] ?_; (with_reducible refine (F7.c k1 ((rd_T31 l0_2 x3_1).f0) ((rd_T31 l0_2 x3_1).f1) false _ A5.1).mono ?_); refine sqV fun w0 hb => ?_; replace B0 := sqT B0 hb; replace HB := sqS (sqB1 HB E0) hb))
    go_ret
    exact ⟨Z14, sqB1 HB E0⟩
   rw [if_neg c3] at H
   have c3b0 : decide (x3_1 < (l0_2.length : Int)) = false := decide_eq_false c3
   clear c3
   obtain ⟨t1, A0, H⟩ := sqD H
   by_cases c0 : t1 = true
   ·subst c0
    rw [if_pos rfl] at H
    obtain rfl := sqo H
    have := sqY3 B0
    go_wp2_with (first | ((with_reducible refine sqc 77 rfl ?_); refine sqC (some 20) func77 #[.agg #[.int .i64 a0_0, .int .i64 a0_1]] ?_; (with_reducible refine (F7.c k1 a0_0 a0_1 true _ A0.1).mono ?_); refine sqV fun w1 hb => ?_; replace B0 := sqT B0 hb; replace HB := sqS (sqB1 HB E0) hb; have := sqY3 B0))
    go_ret
    exact ⟨Z14, sqB1 HB E0⟩
   obtain rfl := sqb c0
   rw [if_neg sqF] at H
   obtain rfl := sqo H
   have := sqY3 B0
   go_wp2_with (first | ((with_reducible refine sqc 77 rfl ?_); refine sqC (some 20) func77 #[.agg #[.int .i64 a0_0, .int .i64 a0_1]] ?_; (with_reducible refine (F7.c k1 a0_0 a0_1 false _ A0.1).mono ?_); refine sqV fun w3 hb => ?_; replace B0 := sqT B0 hb; replace HB := sqS (sqB1 HB E0) hb))
   go_ret
   exact ⟨Z14, sqB1 HB E0⟩

def F64.f (a0_0 : Int) (a0_1 : Int) (l0_2 : List (S31)) : Option (Int × Int × (List (S31))) := (some (([] : List (S31)) : List (S31))).bind fun y0 => (if y0.length + l0_2.length < 8796093022208 then (some (a0_0, a0_1, (y0 ++ l0_2))) else (none))
def F64.T1 : Bool × List (List Nat × List Nat) := (true, [([], []), ([0], [0]), ([], []), ([], []), ([3], [3]), ([2, 4], [2, 4]), ([1, 5], [1, 5]), ([6, 5, 0, 1, 2, 3, 4, 5, 6], [6])])
def F64.B1 : List Nat := [0, 1, 0, 0, 8, 28, 63, 127]
theorem F64.tab1 : rtab .any (opsOf f56 1) = F64.T1 := by kernel_rfl
theorem F64.bits1 : waitsOk F64.T1.2 F64.B1 = true := by kernel_rfl
theorem F64.c (a0_0 : Int) (a0_1 : Int) (A0_2 : Option Addr) (c0_2 : Nat) (l0_2 : List (S31)) (r1 : Int) (r2 : Int) (r3 : List (S31)) (w : World) (hr0_2 : Kd.C k31 w A0_2 l0_2.length l0_2) (hc0_2 : l0_2.length ≤ c0_2) (H : F64.f a0_0 a0_1 l0_2 = some (r1, r2, r3)) :
  Calls prog 56 #[.agg #[.int .i64 a0_0, .int .i64 a0_1, .slice A0_2 l0_2.length c0_2]] w fun e w' => ∃ v2_ : Value, e = .returned (.agg #[.int .i64 r1, .int .i64 r2, v2_]) ∧ Kd.R k31 31 w' w.heap.size (fun _ => True) v2_ r3 ∧ Below w.heap.size w w' := by
 have hu34 := underlying34
 have hu31 := underlying31
 have HR0_2 := sqa hr0_2
 have HC0_2 := sqa hc0_2
 clear hr0_2 hc0_2
 have HB := sqh w
 unfold F64.f at H
 obtain ⟨y0, hy0⟩ : ∃ y_ : List (S31), y_ = (([] : List (S31))) := ⟨_, rfl⟩
 replace H : (if y0.length + l0_2.length < 8796093022208 then (some (a0_0, a0_1, (y0 ++ l0_2))) else (none)) = some (r1, r2, r3) := sqW hy0 H
 have Ny0 := sqa hy0
 clear hy0
 obtain ⟨c2, H⟩ := sqI H
 have LMc2 := sqa c2
 clear c2
 obtain ⟨y1, hy1⟩ : ∃ y_ : List (S31), y_ = (y0 ++ l0_2) := ⟨_, rfl⟩
 replace H : (some (a0_0, a0_1, y1)) = some (r1, r2, r3) := sqW hy1 H
 have Ny1 := sqa hy1
 clear hy1
 obtain ⟨rfl, rfl, rfl⟩ := sqO3 H
 go_enter func56, ntmps56
 try go_wp2_with (first | ((with_reducible refine sqd 1 rfl ?_); refine sqBx w (sqB HB) (cs := #[.int .i64 a0_0, .int .i64 a0_1, .slice A0_2 l0_2.length c0_2]) (t := 34) ?_; intro g0 hg w3 B0 E0 HB hb; clear hb hg) | ((with_reducible refine sqd 2 rfl ?_); refine sqBx w (sqB1 HB E0) (cs := #[.int .i64 0, .int .i64 0, .slice none 0 0]) (t := 34) ?_; intro g1 hg w4 B2 E1 HB hb; obtain ⟨N0, N1⟩ := sqM hg B0; replace B0 := sqT B0 hb; clear hb hg))
 replace B0 := sqa (blk_drew B0.1)
 replace B2 := sqa (blk_drew B2.1)
 replace HB := sqa (below_drew1 HB.1)
 refine start_ (n := 8) (S := fun w' => w'.cell? ⟨g0, 0, none⟩ = some (.int .i64 a0_0) ∧ w'.cell? ⟨g0, 1, none⟩ = some (.int .i64 a0_1) ∧ w'.cell? ⟨g0, 2, none⟩ = some (.slice A0_2 l0_2.length c0_2)) (ds := []) #[false, false, false, false, false, false, false, false] (by kernel_rfl) rfl rfl (sqk1 B0) (fun hHeld => ?_); refine with_tabW F64.tab1 F64.bits1 (fun HT_ HW_ => ?_)
 generalize w4.drew = w5 at B0 B2 HB hHeld ⊢
 refine sqP 0 (some 3) (h := ?_)
 refine sqP 3 (some 6) (h := ?_)
 refine sqQ 1 (some 4) hHeld (h := ?_)
 refine sqQ 4 (some 7) hHeld (h := ?_)
 refine sq1 2 (some 5) (h := fun K hK => ?_)
 refine Kd.R_lit_step k31 _ 31 ?hg (N := 5) ?hd (xs := ([] : List (S31))) (inner := []) (ok := fun _ => True) (okp := fun _ => True) ?hr ?hp (fun _ hk => hk) trivial (Below.refl _ _) (Nat.le_refl _) (by simp) ?_; (case hd => rfl); (case hg => rfl); (case hr => exact Z8); (case hp => exact Z23)
 intro v127 w6 ho7 hb hg_ hnew_
 clear hg_ hnew_
 (first | rw [← Ny0.out] at ho7 | (simp only [Int.reduceToNat] at ho7; rw [← Ny0.out] at ho7))
 have O0 := sqL ho7 (sqB2 HB E0 E1)
 replace B0 := sqT B0 hb
 replace B2 := sqT B2 hb
 replace HB := sqS (sqB2 HB E0 E1) hb
 clear hb ho7
 refine hK.out _ _ (sqk1 B0) (fun hHeld => ?_)
 clear hK K
 refine sqN (some 5) ?_
 refine sq1 5 (some 8) (h := fun K hK => ?_)
 refine Kd.R_append_rows_step k31 (w0 := w) w.heap.size (by rfl) (.tmp 5) (.tmp 7) 32 31 (.agg #[(.int .i64 0), (.int .i64 0)]) 16 rfl underlying32 info31 rfl (by decide) (by omega) v127 y0 l0_2 _ _ _ (fun _ => True) (fun _ => False) rfl rfl ?aO ?aR (fun _ _ h => h) (fun _ h => h.elim) ?aF ?aB ?aS ?aL ?_
 (case aR => exact Z1)
 (case aB => exact (sqB2 HB E0 E1))
 (case aF => exact Z24)
 (case aO => exact (sqR O0))
 (case aS => exact (below_size (sqB2 HB E0 E1)))
 (case aL => exact Z15 LMc2)
 intro v0 w8 ho hb hg hat
 rw [← Ny1.out] at ho
 replace B0 := sqa (blk_grown (sqK B0) hg (Kd.R_ne O0.1 B0.1 (by decide)))
 replace B2 := sqa (blk_grown (sqK B2) hg (Kd.R_ne O0.1 B2.1 (by decide)))
 replace HB := sqa (hb)
 have O1 := sqa (ho)
 clear O0
 clear ho hb hg hat
 obtain ⟨Ao9, co9, eo9⟩ := Kd.R_slice O1.1
 (first | subst eo9 | (injection eo9 with f1_ f2_ f3_; have f4_ := f1_.symm; have f5_ := f3_.symm; clear f1_ f2_ f3_; subst f4_; subst f5_))
 refine hK.out _ _ (sqk1 B0) (fun hHeld => ?_)
 clear hK K
 refine sqN (some 8) ?_
 refine sqP 6 (some 9) (h := ?_)
 refine sq1 7 none (h := fun K hK => ?_)
 have := sqY3 B2
 have := sqn2 N0 N1
 refine skip_ (w1 := ?_) (by rfl) rfl ?_ ?_
 rotate_left
 ·go_simp
  rfl
 refine hK.out _ _ (sql1 N0 hHeld) (fun hHeld => ?_)
 clear hK K
 refine done_ (done_of HT_.out (by kernel_rfl)) ?_
 try go_wp2
 refine sqEr g1 34 #[.int .i64 a0_0, .int .i64 a0_1, .slice Ao9 y1.length co9] (Z35 B2) underlying34 ?_
 exact ⟨_, Z14, by (with_reducible repeat (first | apply Kd.R_alloc | apply Kd.R_drewN | apply Kd.R_drew)); exact Kd.R_mono (sqr3 O1.1 B2.1) (fun _ hk => trivial), sqB2 HB E0 E1⟩

def F53.f (k : Nat) (a0_0 : Int) (a0_1 : Int) (a1 : Int) : Option (Int × Int × Bool) := (F7.f k a0_0 a0_1).bind fun t0 => (if t0 = true then ((F33.f a1 (-1000000) 1000000).bind fun t1 => (if t1 = true then ((F7.f k (wrap64 (a0_0 + (wrap64 (a1 * a0_1)))) a0_1).bind fun t2 => (if t2 = true then (some (wrap64 (a0_0 + (wrap64 (a1 * a0_1))), a0_1, true)) else (some (0, 0, false)))) else (some (0, 0, false)))) else (some (0, 0, false)))
theorem F53.m : ∀ a0 a1 a2 k, LeO (F53.f k a0 a1 a2) (F53.f (k + 1) a0 a1 a2) := by
 intro a0 a1 a2 k
 unfold F53.f
 repeat' (with_reducible first | exact F7.m _ _ _ | exact LeO.refl _ | exact LeO.none _ | refine LeO.ite ?_ ?_ | refine LeO.bind ?_ fun _ => ?_)
theorem F53.c (k : Nat) (a0_0 : Int) (a0_1 : Int) (a1 : Int) (r1 : Int) (r2 : Int) (r3 : Bool) (w : World) (H : F53.f k a0_0 a0_1 a1 = some (r1, r2, r3)) :
  Calls prog 127 #[.agg #[.int .i64 a0_0, .int .i64 a0_1], .int .i64 a1] w fun e w' => e = .returned (.tuple #[.agg #[.int .i64 r1, .int .i64 r2], .bool r3]) ∧ Below w.heap.size w w' := by
 have hu31 := underlying31
 have HB := sqh w
 unfold F53.f at H
 obtain ⟨t0, A3, H⟩ := sqD H
 go_enter func127, ntmps127
 go_upto_region 2 with (first | ((with_reducible refine sqd 2 rfl ?_); refine sqBx w (sqB HB) (cs := #[.int .i64 a0_0, .int .i64 a0_1]) (t := 31) ?_; intro g0 hg w9 B0 E0 HB hb; clear hb hg) | ((with_reducible refine sqd 4 rfl ?_); refine sqBx w (sqB1 HB E0) (cs := #[.int .i64 0, .int .i64 0]) (t := 31) ?_; intro g1 hg w0 B2 E1 HB hb; obtain ⟨N0, N1⟩ := sqM hg B0; replace B0 := sqT B0 hb; clear hb hg; have := sqn2 N0 N1; have := sqY2 B0) | ((with_reducible refine sqd 6 rfl ?_); refine sqBx w (sqB2 HB E0 E1) (cs := #[.int .i64 0, .int .i64 0]) (t := 31) ?_; intro g2 hg w1 B8 E2 HB hb; obtain ⟨N2, N3⟩ := sqM hg B0; replace B0 := sqT B0 hb; obtain ⟨N4, N5⟩ := sqM hg B2; replace B2 := sqT B2 hb; clear hb hg; have := sqn4 N3 N2 N5 N4; have := sqY2 B8; have := sqY2 B0))
 by_cases c4 : t0 = true
 ·subst c4
  rw [if_pos rfl] at H
  obtain ⟨t1, A5, H⟩ := sqD H
  by_cases c6 : t1 = true
  ·subst c6
   rw [if_pos rfl] at H
   obtain ⟨t2, A7, H⟩ := sqD H
   by_cases c8 : t2 = true
   ·subst c8
    rw [if_pos rfl] at H
    obtain ⟨rfl, rfl, rfl⟩ := sqO3 H
    go_wp2_with (first | ((with_reducible refine sqc 77 rfl ?_); refine sqC (some 18) func77 #[.agg #[.int .i64 a0_0, .int .i64 a0_1]] ?_; (with_reducible refine (F7.c k a0_0 a0_1 true _ A3.1).mono ?_); refine sqV fun w2 hb => ?_; replace B0 := sqH N2 B0 hb; replace B2 := sqH N4 B2 hb; replace B8 := sqa (blk_below (g := g2) (o := .cells #[.int .i64 (wrap64 (a0_0 + (wrap64 (a1 * a0_1)))), .int .i64 a0_1] 31 (0, 0)) (Z36 B8) hb); replace HB := sqS (sqB3 HB E0 E1 E2) hb) | (go_at_call 101; (with_reducible refine (F33.c a1 (-1000000) 1000000 true _ A5.1).mono ?_); rintro e w' ⟨rfl, ⟨nd, rfl⟩⟩; (try (rw [drewN_self w2]; generalize hq_ : World.drewN w2 _ = w2; have n0_ : Aside0 (w2.heap[g0]? = some (.cells #[.int .i64 a0_0, .int .i64 a0_1] 31 (0, 0))) := ⟨Z61 B0⟩; have n1_ : Aside0 (w2.heap[g1]? = some (.cells #[.int .i64 0, .int .i64 0] 31 (0, 0))) := ⟨Z61 B2⟩; have n2_ : Aside0 (w2.heap[g2]? = some (.cells #[.int .i64 (wrap64 (a0_0 + (wrap64 (a1 * a0_1)))), .int .i64 a0_1] 31 (0, 0))) := ⟨Z61 B8⟩; have n3_ : Aside0 (Below w.heap.size w w2) := ⟨by rw [← hq_]; exact (sqB3 HB E0 E1 E2)⟩; clear B0 B2 B8 HB hq_; have B0 := n0_; have B2 := n1_; have B8 := n2_; have HB := n3_; clear n0_ n1_ n2_ n3_)); have hcz0 : w2.cell? ⟨g2, 0, none⟩ = some (.int .i64 (wrap64 (a0_0 + (wrap64 (a1 * a0_1))))) := (blk_cell B8.1 0).trans rfl; have hcz1 := sqZ B8 1 (.int .i64 a0_1); have hfz0 := blk_frozen B8.1 0; have hfz1 := blk_frozen B8.1 1) | (go_at_call 77; (with_reducible refine (F7.c k (wrap64 (a0_0 + (wrap64 (a1 * a0_1)))) a0_1 true _ A7.1).mono ?_); rintro e w3 ⟨rfl, hb⟩; obtain ⟨B0, B2, B8⟩ := sqT3 hb B0 B2 B8; replace HB := sqS (sqB3 HB E0 E1 E2) hb; have hcz2 : w3.cell? ⟨g2, 0, none⟩ = some (.int .i64 (wrap64 (a0_0 + (wrap64 (a1 * a0_1))))) := (blk_cell B8.1 0).trans rfl; have hcz3 := sqZ B8 1 (.int .i64 a0_1); have hfz2 := blk_frozen B8.1 0; have hfz3 := blk_frozen B8.1 1; have := sqY2 B2))
    refine sqE g1 31 #[.int .i64 (wrap64 (a0_0 + (wrap64 (a1 * a0_1)))), .int .i64 a0_1] (Z36 B2) underlying31 ?_
    exact ⟨Z14, sqB3 HB E0 E1 E2⟩
   obtain rfl := sqb c8
   rw [if_neg sqF] at H
   obtain ⟨rfl, rfl, rfl⟩ := sqO3 H
   go_wp2_with (first | ((with_reducible refine sqc 77 rfl ?_); refine sqC (some 18) func77 #[.agg #[.int .i64 a0_0, .int .i64 a0_1]] ?_; (with_reducible refine (F7.c k a0_0 a0_1 true _ A3.1).mono ?_); refine sqV fun w4 hb => ?_; replace B0 := sqH N2 B0 hb; replace B2 := sqH N4 B2 hb; replace B8 := sqa (blk_below (g := g2) (o := .cells #[.int .i64 (wrap64 (a0_0 + (wrap64 (a1 * a0_1)))), .int .i64 a0_1] 31 (0, 0)) (Z36 B8) hb); replace HB := sqS (sqB3 HB E0 E1 E2) hb) | (go_at_call 101; (with_reducible refine (F33.c a1 (-1000000) 1000000 true _ A5.1).mono ?_); rintro e w' ⟨rfl, ⟨nd, rfl⟩⟩; (try (rw [drewN_self w4]; generalize hq_ : World.drewN w4 _ = w4; have n0_ : Aside0 (w4.heap[g0]? = some (.cells #[.int .i64 a0_0, .int .i64 a0_1] 31 (0, 0))) := ⟨Z61 B0⟩; have n1_ : Aside0 (w4.heap[g1]? = some (.cells #[.int .i64 0, .int .i64 0] 31 (0, 0))) := ⟨Z61 B2⟩; have n2_ : Aside0 (w4.heap[g2]? = some (.cells #[.int .i64 (wrap64 (a0_0 + (wrap64 (a1 * a0_1)))), .int .i64 a0_1] 31 (0, 0))) := ⟨Z61 B8⟩; have n3_ : Aside0 (Below w.heap.size w w4) := ⟨by rw [← hq_]; exact (sqB3 HB E0 E1 E2)⟩; clear B0 B2 B8 HB hq_; have B0 := n0_; have B2 := n1_; have B8 := n2_; have HB := n3_; clear n0_ n1_ n2_ n3_)); have hcz4 : w4.cell? ⟨g2, 0, none⟩ = some (.int .i64 (wrap64 (a0_0 + (wrap64 (a1 * a0_1))))) := (blk_cell B8.1 0).trans rfl; have hcz5 := sqZ B8 1 (.int .i64 a0_1); have hfz4 := blk_frozen B8.1 0; have hfz5 := blk_frozen B8.1 1) | (go_at_call 77; (with_reducible refine (F7.c k (wrap64 (a0_0 + (wrap64 (a1 * a0_1)))) a0_1 false _ A7.1).mono ?_); rintro e w5 ⟨rfl, hb⟩; obtain ⟨B0, B2, B8⟩ := sqT3 hb B0 B2 B8; replace HB := sqS (sqB3 HB E0 E1 E2) hb; have := sqY2 B2))
   refine sqE g1 31 #[.int .i64 0, .int .i64 0] (Z37 B2) underlying31 ?_
   exact ⟨Z14, sqB3 HB E0 E1 E2⟩
  obtain rfl := sqb c6
  rw [if_neg sqF] at H
  obtain ⟨rfl, rfl, rfl⟩ := sqO3 H
  go_wp2_with (first | ((with_reducible refine sqc 77 rfl ?_); refine sqC (some 18) func77 #[.agg #[.int .i64 a0_0, .int .i64 a0_1]] ?_; (with_reducible refine (F7.c k a0_0 a0_1 true _ A3.1).mono ?_); refine sqV fun w6 hb => ?_; replace B0 := sqH N2 B0 hb; replace B2 := sqH N4 B2 hb; replace B8 := sqa (blk_below (g := g2) (o := .cells #[.int .i64 (wrap64 (a0_0 + (wrap64 (a1 * a0_1)))), .int .i64 a0_1] 31 (0, 0)) (Z36 B8) hb); replace HB := sqS (sqB3 HB E0 E1 E2) hb) | (go_at_call 101; (with_reducible refine (F33.c a1 (-1000000) 1000000 false _ A5.1).mono ?_); rintro e w' ⟨rfl, ⟨nd, rfl⟩⟩; (try (rw [drewN_self w6]; generalize hq_ : World.drewN w6 _ = w6; have n0_ : Aside0 (w6.heap[g0]? = some (.cells #[.int .i64 a0_0, .int .i64 a0_1] 31 (0, 0))) := ⟨Z61 B0⟩; have n1_ : Aside0 (w6.heap[g1]? = some (.cells #[.int .i64 0, .int .i64 0] 31 (0, 0))) := ⟨Z61 B2⟩; have n2_ : Aside0 (w6.heap[g2]? = some (.cells #[.int .i64 (wrap64 (a0_0 + (wrap64 (a1 * a0_1)))), .int .i64 a0_1] 31 (0, 0))) := ⟨Z61 B8⟩; have n3_ : Aside0 (Below w.heap.size w w6) := ⟨by rw [← hq_]; exact (sqB3 HB E0 E1 E2)⟩; clear B0 B2 B8 HB hq_; have B0 := n0_; have B2 := n1_; have B8 := n2_; have HB := n3_; clear n0_ n1_ n2_ n3_)); have := sqY2 B2))
  refine sqE g1 31 #[.int .i64 0, .int .i64 0] (Z37 B2) underlying31 ?_
  exact ⟨Z14, sqB3 HB E0 E1 E2⟩
 obtain rfl := sqb c4
 rw [if_neg sqF] at H
 obtain ⟨rfl, rfl, rfl⟩ := sqO3 H
 go_wp2_with (first | ((with_reducible refine sqc 77 rfl ?_); refine sqC (some 18) func77 #[.agg #[.int .i64 a0_0, .int .i64 a0_1]] ?_; (with_reducible refine (F7.c k a0_0 a0_1 false _ A3.1).mono ?_); refine sqV fun w7 hb => ?_; replace B0 := sqH N2 B0 hb; replace B2 := sqH N4 B2 hb; replace B8 := sqa (blk_below (g := g2) (o := .cells #[.int .i64 (wrap64 (a0_0 + (wrap64 (a1 * a0_1)))), .int .i64 a0_1] 31 (0, 0)) (Z36 B8) hb); replace HB := sqS (sqB3 HB E0 E1 E2) hb; have := sqY2 B2))
 refine sqE g1 31 #[.int .i64 0, .int .i64 0] (Z37 B2) underlying31 ?_
 exact ⟨Z14, sqB3 HB E0 E1 E2⟩
def F4.j0 : Nat → Int → Int → Bool → Option (Int × Int × Bool)
 | 0, _, _, _ => none
 | k + 1, x0, x1, x2 => if x2 = true then (some (0, 0, false)) else ((F15.f k x0 x1).bind fun t141 => (if x1 < 0 then (if (wrap64 (-t141)) = 0 then (none) else (some (wrap64 (Int.tdiv x0 (wrap64 (-t141))), wrap64 (Int.tdiv x1 (wrap64 (-t141))), true))) else (if x1 = 0 then (if x0 < 0 then (if (wrap64 (-t141)) = 0 then (none) else (some (wrap64 (Int.tdiv x0 (wrap64 (-t141))), wrap64 (Int.tdiv x1 (wrap64 (-t141))), true))) else (if t141 = 0 then (none) else (some (wrap64 (Int.tdiv x0 t141), wrap64 (Int.tdiv x1 t141), true)))) else (if t141 = 0 then (none) else (some (wrap64 (Int.tdiv x0 t141), wrap64 (Int.tdiv x1 t141), true))))))
def F4.f (k : Nat) (a0 : Int) (a1 : Int) : Option (Int × Int × Bool) := (F33.f a0 (-1000000) 1000000).bind fun t139 => (if t139 = true then ((F33.f a1 (-1000000) 1000000).bind fun t0 => (if t0 = true then (if a0 = 0 then (F4.j0 k a0 a1 (a1 == 0)) else (F4.j0 k a0 a1 false)) else (F4.j0 k a0 a1 true))) else (F4.j0 k a0 a1 true))
abbrev F4.M (k : Nat) : Prop := (∀ y0 y1 y2, LeO (F4.j0 k y0 y1 y2) (F4.j0 (k + 1) y0 y1 y2))
theorem F4.mt : ∀ k, F4.M k → F4.M (k + 1) ∧ ∀ a0 a1, LeO (F4.f k a0 a1) (F4.f (k + 1) a0 a1) := by
  rintro k ih0
  refine ⟨?_, ?_⟩ <;> (try unfold F4.M) <;> intros <;> (first | unfold F4.j0 | unfold F4.f) <;> repeat' (with_reducible first | exact ih0 _ _ _ | exact F15.m _ _ _ | exact LeO.refl _ | exact LeO.none _ | refine LeO.ite ?_ ?_ | refine LeO.bind ?_ fun _ => ?_)
theorem F4.ml : ∀ k, F4.M k
 | 0 => fun _ _ _ r h => by simp [F4.j0] at h
 | k + 1 => (F4.mt k (F4.ml k)).1
theorem F4.m a0 a1 k : LeO (F4.f k a0 a1) (F4.f (k + 1) a0 a1) := (F4.mt k (F4.ml k)).2 a0 a1
def F4.T6 : Bool × List (List Nat × List Nat) := (true, [([], []), ([], []), ([0, 1], [0, 1]), ([], []), ([], []), ([3, 4], [3, 4]), ([2, 5], [2, 5]), ([6, 0, 1, 2, 3, 4, 5, 6], [6]), ([7, 0, 1, 2, 3, 4, 5, 6, 7], [])])
def F4.B6 : List Nat := [0, 0, 3, 0, 0, 24, 63, 127, 255]
theorem F4.tab6 : rtab .any (opsOf f136 6) = F4.T6 := by kernel_rfl
theorem F4.bits6 : waitsOk F4.T6.2 F4.B6 = true := by kernel_rfl
theorem F4.c (k : Nat) (a0 : Int) (a1 : Int) (r1 : Int) (r2 : Int) (r3 : Bool) (w : World) (H : F4.f k a0 a1 = some (r1, r2, r3)) :
  Calls prog 136 #[.int .i64 a0, .int .i64 a1] w fun e w' => e = .returned (.tuple #[.agg #[.int .i64 r1, .int .i64 r2], .bool r3]) ∧ Below w.heap.size w w' := by
 have hu31 := underlying31
 have HB := sqh w
 unfold F4.f at H
 have HC3 := sqa H
 clear H
 go_enter func136, ntmps136
 go_upto_region 1 with (first | ((with_reducible refine sqd 4 rfl ?_); refine sqBx w (sqB HB) (cs := #[.int .i64 0, .int .i64 0]) (t := 31) ?_; intro g0 hg w4 B0 E0 HB hb; clear hb hg))
 (try simp only [Act.put, List.setIfInBounds_toArray, List.set_cons_zero, List.set_cons_succ])
 go_cut [22] (fun v0 wc => ∃ (kq : Nat) (x0 : Bool), v0 = .bool x0 ∧ Aside0 (F4.j0 kq a0 a1 x0 = some (r1, r2, r3)) ∧ Aside0 (kq ≤ k) ∧ Aside0 (wc.heap[g0]? = some (.cells #[.int .i64 0, .int .i64 0] 31 (0, 0))) ∧ Aside0 (Below w.heap.size w wc))
 case first =>
  have H := HC3.1
  clear HC3
  obtain ⟨t139, A5, H⟩ := sqD H
  by_cases c6 : t139 = true
  ·subst c6
   rw [if_pos rfl] at H
   obtain ⟨t0, A7, H⟩ := sqD H
   by_cases c8 : t0 = true
   ·subst c8
    rw [if_pos rfl] at H
    by_cases c9 : a0 = 0
    ·rw [if_pos c9] at H
     have c9b0 : (a0 == 0) = true := sqe1 c9
     have c9b1 : (a0 != 0) = false := sqn0 c9
     clear c9
     (first | rw [c9b0] | (simp only [i64_w, i32_w]; rw [c9b0]) | skip)
     have H' := sqa H
     clear H
     go_wp2_with (first | ((with_reducible refine sqc 101 rfl ?_); refine sqC (some 8) func101 #[.int .i64 a0, .int .i64 (-1000000), .int .i64 1000000] ?_; (with_reducible refine (F33.c a0 (-1000000) 1000000 true _ A5.1).mono ?_); rintro e w' ⟨rfl, ⟨nd, rfl⟩⟩; refine ⟨_, rfl, ?_⟩) | (go_at_call 101; (with_reducible refine (F33.c a1 (-1000000) 1000000 true _ A7.1).mono ?_); rintro e w' ⟨rfl, ⟨nd, rfl⟩⟩))
     go_meet
     case rel => exact ⟨_, ((a1 == 0)), Z2, H', ⟨Z3⟩, ⟨sqK B0⟩, ⟨sqB1 HB E0⟩⟩
    rw [if_neg c9] at H
    have c9b0 : (a0 == 0) = false := sqe0 c9
    have c9b1 : (a0 != 0) = true := sqn1 c9
    (first | rw [c9b0] | (simp only [i64_w, i32_w]; rw [c9b0]) | skip)
    have H' := sqa H
    clear H
    go_wp2_with (first | ((with_reducible refine sqc 101 rfl ?_); refine sqC (some 8) func101 #[.int .i64 a0, .int .i64 (-1000000), .int .i64 1000000] ?_; (with_reducible refine (F33.c a0 (-1000000) 1000000 true _ A5.1).mono ?_); rintro e w' ⟨rfl, ⟨nd, rfl⟩⟩; refine ⟨_, rfl, ?_⟩) | (go_at_call 101; (with_reducible refine (F33.c a1 (-1000000) 1000000 true _ A7.1).mono ?_); rintro e w' ⟨rfl, ⟨nd, rfl⟩⟩))
    go_meet
    case rel => exact ⟨_, (false), Z2, H', ⟨Z3⟩, ⟨sqK B0⟩, ⟨sqB1 HB E0⟩⟩
   obtain rfl := sqb c8
   rw [if_neg sqF] at H
   have H' := sqa H
   clear H
   go_wp2_with (first | ((with_reducible refine sqc 101 rfl ?_); refine sqC (some 8) func101 #[.int .i64 a0, .int .i64 (-1000000), .int .i64 1000000] ?_; (with_reducible refine (F33.c a0 (-1000000) 1000000 true _ A5.1).mono ?_); rintro e w' ⟨rfl, ⟨nd, rfl⟩⟩; refine ⟨_, rfl, ?_⟩) | (go_at_call 101; (with_reducible refine (F33.c a1 (-1000000) 1000000 false _ A7.1).mono ?_); rintro e w' ⟨rfl, ⟨nd, rfl⟩⟩))
   go_meet
   case rel => exact ⟨_, (true), Z2, H', ⟨Z3⟩, ⟨sqK B0⟩, ⟨sqB1 HB E0⟩⟩
  obtain rfl := sqb c6
  rw [if_neg sqF] at H
  have H' := sqa H
  clear H
  go_wp2_with (first | ((with_reducible refine sqc 101 rfl ?_); refine sqC (some 8) func101 #[.int .i64 a0, .int .i64 (-1000000), .int .i64 1000000] ?_; (with_reducible refine (F33.c a0 (-1000000) 1000000 false _ A5.1).mono ?_); rintro e w' ⟨rfl, ⟨nd, rfl⟩⟩; refine ⟨_, rfl, ?_⟩))
  go_meet
  case rel => exact ⟨_, (true), Z2, H', ⟨Z3⟩, ⟨sqK B0⟩, ⟨sqB1 HB E0⟩⟩
 case rest =>
  clear HC3
  obtain ⟨kq, x0, rfl, HA, HJ2, B0, HB⟩ := hcut
  cases kq with
  | zero => exact absurd HA.out (by simp [F4.j0])
  | succ kj2 =>
   have H := HA.out
   clear HA
   simp only [F4.j0] at H
   by_cases c10 : x0 = true
   ·subst c10
    rw [if_pos rfl] at H
    obtain ⟨rfl, rfl, rfl⟩ := sqO3 H
    have := sqY2 B0
    go_wp2
    refine sqE g0 31 #[.int .i64 0, .int .i64 0] (Z37 B0) underlying31 ?_
    exact ⟨Z14, sqB1 HB E0⟩
   obtain rfl := sqb c10
   rw [if_neg sqF] at H
   obtain ⟨t141, A0, H⟩ := sqD H
   by_cases c0 : a1 < 0
   ·rw [if_pos c0] at H
    have c1 : decide (a1 < 0) = true := decide_eq_true c0
    clear c0
    by_cases c2 : (wrap64 (-t141)) = 0
    ·rw [if_pos c2] at H
     exact absurd H (by simp)
    rw [if_neg c2] at H
    have c3 := sqe0 c2
    have c4 := sqn1 c2
    obtain ⟨rfl, rfl, rfl⟩ := sqO3 H
    try go_wp2_with (first | ((with_reducible refine sqc 121 rfl ?_); refine sqC (some 26) func121 #[.int .i64 a0, .int .i64 a1] ?_; (with_reducible refine (F15.c kj2 a0 a1 t141 _ A0.1).mono ?_); refine sqV fun w0 hb => ?_; replace B0 := sqT B0 hb; replace HB := sqS (sqB1 HB E0) hb))
    replace B0 := sqa (blk_drew B0.1)
    replace HB := sqa (below_drew1 HB.1)
    refine start_ (n := 9) (S := fun w' => True) (ds := []) #[false, false, false, false, false, false, false, false, false] (by kernel_rfl) rfl rfl trivial (fun hHeld => ?_); refine with_tabW F4.tab6 F4.bits6 (fun HT_ HW_ => ?_)
    generalize w0.drew = w2 at B0 HB hHeld ⊢
    refine sqP 0 (some 39) (h := ?_)
    refine sqP 1 (some 40) (h := ?_)
    refine sqP 2 (some 41) (h := ?_)
    refine sqP 3 (some 42) (h := ?_)
    refine sqP 4 (some 43) (h := ?_)
    refine sqP 5 (some 44) (h := ?_)
    refine sqP 6 (some 45) (h := ?_)
    refine sq1 7 none (h := fun K hK => ?_)
    have := sqY2 B0
    refine skip_ (w1 := ?_) (by rfl) rfl ?_ ?_
    rotate_left
    ·go_simp
     rfl
    refine hK.out _ _ trivial (fun hHeld => ?_)
    clear hK K
    refine sqP 8 (some 5) (h := ?_)
    refine done_ (done_of HT_.out (by kernel_rfl)) ?_
    try go_wp2
    refine sqE g0 31 #[.int .i64 (wrap64 (Int.tdiv a0 (wrap64 (-t141)))), .int .i64 (wrap64 (Int.tdiv a1 (wrap64 (-t141))))] (Z100 B0) underlying31 ?_
    exact ⟨Z14, sqB1 HB E0⟩
   rw [if_neg c0] at H
   have c1 : decide (a1 < 0) = false := decide_eq_false c0
   clear c0
   by_cases c5 : a1 = 0
   ·rw [if_pos c5] at H
    have c7 := sqe1 c5
    have c11 := sqn0 c5
    clear c5
    by_cases c20 : a0 < 0
    ·rw [if_pos c20] at H
     have c12 : decide (a0 < 0) = true := decide_eq_true c20
     clear c20
     by_cases c21 : (wrap64 (-t141)) = 0
     ·rw [if_pos c21] at H
      exact absurd H (by simp)
     rw [if_neg c21] at H
     have c15 := sqe0 c21
     have c16 := sqn1 c21
     obtain ⟨rfl, rfl, rfl⟩ := sqO3 H
     try go_wp2_with (first | ((with_reducible refine sqc 121 rfl ?_); refine sqC (some 26) func121 #[.int .i64 a0, .int .i64 a1] ?_; (with_reducible refine (F15.c kj2 a0 a1 t141 _ A0.1).mono ?_); refine sqV fun w3 hb => ?_; replace B0 := sqT B0 hb; replace HB := sqS (sqB1 HB E0) hb))
     replace B0 := sqa (blk_drew B0.1)
     replace HB := sqa (below_drew1 HB.1)
     refine start_ (n := 9) (S := fun w' => True) (ds := []) #[false, false, false, false, false, false, false, false, false] (by kernel_rfl) rfl rfl trivial (fun hHeld => ?_); refine with_tabW F4.tab6 F4.bits6 (fun HT_ HW_ => ?_)
     generalize w3.drew = w5 at B0 HB hHeld ⊢
     refine sqP 0 (some 39) (h := ?_)
     refine sqP 1 (some 40) (h := ?_)
     refine sqP 2 (some 41) (h := ?_)
     refine sqP 3 (some 42) (h := ?_)
     refine sqP 4 (some 43) (h := ?_)
     refine sqP 5 (some 44) (h := ?_)
     refine sqP 6 (some 45) (h := ?_)
     refine sq1 7 none (h := fun K hK => ?_)
     have := sqY2 B0
     refine skip_ (w1 := ?_) (by rfl) rfl ?_ ?_
     rotate_left
     ·go_simp
      rfl
     refine hK.out _ _ trivial (fun hHeld => ?_)
     clear hK K
     refine sqP 8 (some 5) (h := ?_)
     refine done_ (done_of HT_.out (by kernel_rfl)) ?_
     try go_wp2
     refine sqE g0 31 #[.int .i64 (wrap64 (Int.tdiv a0 (wrap64 (-t141)))), .int .i64 (wrap64 (Int.tdiv a1 (wrap64 (-t141))))] (Z100 B0) underlying31 ?_
     exact ⟨Z14, sqB1 HB E0⟩
    rw [if_neg c20] at H
    have c12 : decide (a0 < 0) = false := decide_eq_false c20
    clear c20
    by_cases c26 : t141 = 0
    ·rw [if_pos c26] at H
     exact absurd H (by simp)
    rw [if_neg c26] at H
    have c18 := sqe0 c26
    have c22 := sqn1 c26
    obtain ⟨rfl, rfl, rfl⟩ := sqO3 H
    try go_wp2_with (first | ((with_reducible refine sqc 121 rfl ?_); refine sqC (some 26) func121 #[.int .i64 a0, .int .i64 a1] ?_; (with_reducible refine (F15.c kj2 a0 a1 t141 _ A0.1).mono ?_); refine sqV fun w6 hb => ?_; replace B0 := sqT B0 hb; replace HB := sqS (sqB1 HB E0) hb))
    replace B0 := sqa (blk_drew B0.1)
    replace HB := sqa (below_drew1 HB.1)
    refine start_ (n := 9) (S := fun w' => True) (ds := []) #[false, false, false, false, false, false, false, false, false] (by kernel_rfl) rfl rfl trivial (fun hHeld => ?_); refine with_tabW F4.tab6 F4.bits6 (fun HT_ HW_ => ?_)
    generalize w6.drew = w7 at B0 HB hHeld ⊢
    refine sqP 0 (some 39) (h := ?_)
    refine sqP 1 (some 40) (h := ?_)
    refine sqP 2 (some 41) (h := ?_)
    refine sqP 3 (some 42) (h := ?_)
    refine sqP 4 (some 43) (h := ?_)
    refine sqP 5 (some 44) (h := ?_)
    refine sqP 6 (some 45) (h := ?_)
    refine sq1 7 none (h := fun K hK => ?_)
    have := sqY2 B0
    refine skip_ (w1 := ?_) (by rfl) rfl ?_ ?_
    rotate_left
    ·go_simp
     rfl
    refine hK.out _ _ trivial (fun hHeld => ?_)
    clear hK K
    refine sqP 8 (some 5) (h := ?_)
    refine done_ (done_of HT_.out (by kernel_rfl)) ?_
    try go_wp2
    refine sqE g0 31 #[.int .i64 (wrap64 (Int.tdiv a0 t141)), .int .i64 (wrap64 (Int.tdiv a1 t141))] (Z101 B0) underlying31 ?_
    exact ⟨Z14, sqB1 HB E0⟩
   rw [if_neg c5] at H
   have c7 := sqe0 c5
   have c11 := sqn1 c5
   by_cases c31 : t141 = 0
   ·rw [if_pos c31] at H
    exact absurd H (by simp)
   rw [if_neg c31] at H
   have c24 := sqe0 c31
   have c25 := sqn1 c31
   obtain ⟨rfl, rfl, rfl⟩ := sqO3 H
   try go_wp2_with (first | ((with_reducible refine sqc 121 rfl ?_); refine sqC (some 26) func121 #[.int .i64 a0, .int .i64 a1] ?_; (with_reducible refine (F15.c kj2 a0 a1 t141 _ A0.1).mono ?_); refine sqV fun w8 hb => ?_; replace B0 := sqT B0 hb; replace HB := sqS (sqB1 HB E0) hb))
   replace B0 := sqa (blk_drew B0.1)
   replace HB := sqa (below_drew1 HB.1)
   refine start_ (n := 9) (S := fun w' => True) (ds := []) #[false, false, false, false, false, false, false, false, false] (by kernel_rfl) rfl rfl trivial (fun hHeld => ?_); refine with_tabW F4.tab6 F4.bits6 (fun HT_ HW_ => ?_)
   generalize w8.drew = w9 at B0 HB hHeld ⊢
   refine sqP 0 (some 39) (h := ?_)
   refine sqP 1 (some 40) (h := ?_)
   refine sqP 2 (some 41) (h := ?_)
   refine sqP 3 (some 42) (h := ?_)
   refine sqP 4 (some 43) (h := ?_)
   refine sqP 5 (some 44) (h := ?_)
   refine sqP 6 (some 45) (h := ?_)
   refine sq1 7 none (h := fun K hK => ?_)
   have := sqY2 B0
   refine skip_ (w1 := ?_) (by rfl) rfl ?_ ?_
   rotate_left
   ·go_simp
    rfl
   refine hK.out _ _ trivial (fun hHeld => ?_)
   clear hK K
   refine sqP 8 (some 5) (h := ?_)
   refine done_ (done_of HT_.out (by kernel_rfl)) ?_
   try go_wp2
   refine sqE g0 31 #[.int .i64 (wrap64 (Int.tdiv a0 t141)), .int .i64 (wrap64 (Int.tdiv a1 t141))] (Z101 B0) underlying31 ?_
   exact ⟨Z14, sqB1 HB E0⟩

def F58.f (k : Nat) (a0_0 : Int) (a0_1 : Int) : Option (Int × Int) := (F7.f k a0_0 a0_1).bind fun t0 => (if t0 = true then ((F4.f k (wrap64 (-a0_1)) a0_0).bind fun bt0 => (some (bt0.1, bt0.2.1))) else (some (0, 0)))
theorem F58.m : ∀ a0 a1 k, LeO (F58.f k a0 a1) (F58.f (k + 1) a0 a1) := by
 intro a0 a1 k
 unfold F58.f
 repeat' (with_reducible first | exact F7.m _ _ _ | exact F4.m _ _ _ | exact LeO.refl _ | exact LeO.none _ | refine LeO.ite ?_ ?_ | refine LeO.bind ?_ fun _ => ?_)
theorem F58.c (k : Nat) (a0_0 : Int) (a0_1 : Int) (r1 : Int) (r2 : Int) (w : World) (H : F58.f k a0_0 a0_1 = some (r1, r2)) :
  Calls prog 128 #[.agg #[.int .i64 a0_0, .int .i64 a0_1]] w fun e w' => e = .returned (.agg #[.int .i64 r1, .int .i64 r2]) ∧ Below w.heap.size w w' := by
 have hu31 := underlying31
 have HB := sqh w
 unfold F58.f at H
 obtain ⟨t0, A2, H⟩ := sqD H
 by_cases c3 : t0 = true
 ·subst c3
  rw [if_pos rfl] at H
  obtain ⟨⟨t145, t146, t1⟩, A4, H⟩ := sqD H
  try dsimp only at H
  obtain ⟨rfl, rfl⟩ := sqO2 H
  go_enter func128, ntmps128
  go_wp2_with (first | ((with_reducible refine sqd 1 rfl ?_); refine sqBx w (sqB HB) (cs := #[.int .i64 a0_0, .int .i64 a0_1]) (t := 31) ?_; intro g0 hg w5 B0 E0 HB hb; clear hb hg) | ((with_reducible refine sqd 2 rfl ?_); refine sqBx w (sqB1 HB E0) (cs := #[.int .i64 0, .int .i64 0]) (t := 31) ?_; intro g1 hg w6 B2 E1 HB hb; obtain ⟨N0, N1⟩ := sqM hg B0; replace B0 := sqT B0 hb; clear hb hg; have := sqn2 N0 N1; have := sqY2 B0) | ((with_reducible refine sqc 77 rfl ?_); refine sqC (some 6) func77 #[.agg #[.int .i64 a0_0, .int .i64 a0_1]] ?_; (with_reducible refine (F7.c k a0_0 a0_1 true _ A2.1).mono ?_); refine sqV fun w9 hb => ?_; obtain ⟨B0, B2⟩ := sqT2 hb B0 B2; replace HB := sqS (sqB2 HB E0 E1) hb; have := sqY2 B0) | ((with_reducible refine sqc 136 rfl ?_); refine sqC (some 15) func136 #[.int .i64 (wrap64 (-a0_1)), .int .i64 a0_0] ?_; (with_reducible refine (F4.c k (wrap64 (-a0_1)) a0_0 t145 t146 t1 _ A4.1).mono ?_); refine sqV fun w0 hb => ?_; obtain ⟨B0, B2⟩ := sqT2 hb B0 B2; replace HB := sqS (sqB2 HB E0 E1) hb) | ((with_reducible refine sqd 3 rfl ?_); refine sqBx w (sqB2 HB E0 E1) (cs := #[.int .i64 0, .int .i64 0]) (t := 31) ?_; intro g2 hg w1 B8 E2 HB hb; obtain ⟨N2, N3⟩ := sqM hg B0; replace B0 := sqT B0 hb; obtain ⟨N4, N5⟩ := sqM hg B2; replace B2 := sqT B2 hb; clear hb hg; have := sqn4 N3 N2 N5 N4; have := sqY2 B8; have := sqY2 B2))
  refine sqEr g1 31 #[.int .i64 t145, .int .i64 t146] (by refine sqPut (cs := #[.int .i64 t145, .int .i64 0]) ?_ 1; refine sqPut (cs := #[.int .i64 0, .int .i64 0]) ?_ 0; refine sqFar ?_ N4; refine sqFar ?_ N4; exact sqK B2) underlying31 ?_
  exact ⟨Z14, sqB3 HB E0 E1 E2⟩
 obtain rfl := sqb c3
 rw [if_neg sqF] at H
 obtain ⟨rfl, rfl⟩ := sqO2 H
 go_enter func128, ntmps128
 go_wp2_with (first | ((with_reducible refine sqd 1 rfl ?_); refine sqBx w (sqB HB) (cs := #[.int .i64 a0_0, .int .i64 a0_1]) (t := 31) ?_; intro g0 hg w2 B0 E0 HB hb; clear hb hg) | ((with_reducible refine sqd 2 rfl ?_); refine sqBx w (sqB1 HB E0) (cs := #[.int .i64 0, .int .i64 0]) (t := 31) ?_; intro g1 hg w3 B2 E1 HB hb; obtain ⟨N0, N1⟩ := sqM hg B0; replace B0 := sqT B0 hb; clear hb hg; have := sqn2 N0 N1; have := sqY2 B0) | ((with_reducible refine sqc 77 rfl ?_); refine sqC (some 6) func77 #[.agg #[.int .i64 a0_0, .int .i64 a0_1]] ?_; (with_reducible refine (F7.c k a0_0 a0_1 false _ A2.1).mono ?_); refine sqV fun w4 hb => ?_; obtain ⟨B0, B2⟩ := sqT2 hb B0 B2; replace HB := sqS (sqB2 HB E0 E1) hb; have := sqY2 B2))
 refine sqEr g1 31 #[.int .i64 0, .int .i64 0] (Z37 B2) underlying31 ?_
 exact ⟨Z14, sqB2 HB E0 E1⟩
end Go.Proofs.YtofmlbgfcohhoaaGreatDoor.PFnReadJournal
