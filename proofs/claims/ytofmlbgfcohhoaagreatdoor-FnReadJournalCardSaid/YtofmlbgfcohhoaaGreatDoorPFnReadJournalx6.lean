import Derived.Test.YtofmlbgfcohhoaaGreatDoorPFnReadJournalx4
set_option maxHeartbeats 8000000
set_option maxRecDepth 100000
namespace Go.Proofs.YtofmlbgfcohhoaaGreatDoor.PFnReadJournal
open Go.RowKit Go.Proofs.YtofmlbgfcohhoaaGreatDoorW.PrintWords Go.Proofs.YtofmlbgfcohhoaaGreatDoorW.PrintLast Go.Proofs.YtofmlbgfcohhoaaGreatDoorW.PrintMore Go.Proofs.YtofmlbgfcohhoaaGreatDoor.Lib Go.Proofs.Tryz
attribute [local go_sem] max2_int min2_int max_two min_two max_three min_three max_four min_four
set_option linter.unusedVariables false
set_option linter.unusedSimpArgs false

mutual
def F16.j0 : Nat → Bool → Int → Int → Option (ByteArray × Bool)
 | 0, _, _, _ => none
 | k + 1, x0, x1, x2 => if x0 = true then (some ((⟨#[]⟩ : ByteArray), false)) else (F16.l0 k (⟨#[]⟩ : ByteArray) x1 x2)
def F16.l0 : Nat → ByteArray → Int → Int → Option (ByteArray × Bool)
 | 0, _, _, _ => none
 | k + 1, x4, x0, x1 => if x0 = 0 then (some (x4, true)) else (if x0 < 0 then ((F53.f k x0 x1 1).bind fun bt0 => (if x4.size + 1 ≤ 9223372036854775807 then (F16.l0 k (x4 ++ (⟨#[84]⟩ : ByteArray)) bt0.1 bt0.2.1) else (none))) else ((F58.f k x0 x1).bind fun bt1 => (if x4.size + 1 ≤ 9223372036854775807 then (F16.l0 k (x4 ++ (⟨#[82]⟩ : ByteArray)) bt1.1 bt1.2) else (none))))
end
def F16.f (k : Nat) (a0_0 : Int) (a0_1 : Int) : Option (ByteArray × Bool) := (F7.f k a0_0 a0_1).bind fun t0 => (if t0 = true then ((F33.f a0_0 (-12) 12).bind fun t1 => (if t1 = true then (F16.j0 k (decide (a0_1 > 12)) a0_0 a0_1) else (F16.j0 k true a0_0 a0_1))) else (F16.j0 k true a0_0 a0_1))
abbrev F16.M (k : Nat) : Prop := (∀ y0 y1 y2, LeO (F16.j0 k y0 y1 y2) (F16.j0 (k + 1) y0 y1 y2)) ∧ (∀ y0 y1 y2, LeO (F16.l0 k y0 y1 y2) (F16.l0 (k + 1) y0 y1 y2))
theorem F16.mt : ∀ k, F16.M k → F16.M (k + 1) ∧ ∀ a0 a1, LeO (F16.f k a0 a1) (F16.f (k + 1) a0 a1) := by
  rintro k ⟨ih0, ih1⟩
  refine ⟨⟨?_, ?_⟩, ?_⟩ <;> intros <;> (first | unfold F16.j0 | unfold F16.l0 | unfold F16.f) <;> repeat' (with_reducible first | exact ih0 _ _ _ | exact ih1 _ _ _ | exact F7.m _ _ _ | exact F58.m _ _ _ | exact F53.m _ _ _ _ | exact LeO.refl _ | exact LeO.none _ | refine LeO.ite ?_ ?_ | refine LeO.bind ?_ fun _ => ?_)
theorem F16.ml : ∀ k, F16.M k
 | 0 => ⟨fun _ _ _ r h => by simp [F16.j0] at h, fun _ _ _ r h => by simp [F16.l0] at h⟩
 | k + 1 => (F16.mt k (F16.ml k)).1
theorem F16.m a0 a1 k : LeO (F16.f k a0 a1) (F16.f (k + 1) a0 a1) := (F16.mt k (F16.ml k)).2 a0 a1
theorem F16.c (k : Nat) (a0_0 : Int) (a0_1 : Int) (r1 : ByteArray) (r2 : Bool) (w : World) (H : F16.f k a0_0 a0_1 = some (r1, r2)) :
  Calls prog 90 #[.agg #[.int .i64 a0_0, .int .i64 a0_1]] w fun e w' => e = .returned (.tuple #[.string r1, .bool r2]) ∧ Below w.heap.size w w' := by
 have hu31 := underlying31
 have HB := sqh w
 unfold F16.f at H
 have HC2 := sqa H
 clear H
 go_enter func90, ntmps90
 go_upto_region 1 with (first | ((with_reducible refine sqd 1 rfl ?_); refine sqBx w (sqB HB) (cs := #[.int .i64 a0_0, .int .i64 a0_1]) (t := 31) ?_; intro g0 hg w3 B0 E0 HB hb; clear hb hg))
 (try simp only [Act.put, List.setIfInBounds_toArray, List.set_cons_zero, List.set_cons_succ])
 go_cut [19] (fun v0 wc => ∃ (kq : Nat) (x0 : Bool), v0 = .bool x0 ∧ Aside0 (F16.j0 kq x0 a0_0 a0_1 = some (r1, r2)) ∧ Aside0 (kq ≤ k) ∧ Aside0 (wc.heap[g0]? = some (.cells #[.int .i64 a0_0, .int .i64 a0_1] 31 (0, 0))) ∧ Aside0 (Below w.heap.size w wc))
 case first =>
  have H := HC2.1
  clear HC2
  obtain ⟨t0, A4, H⟩ := sqD H
  by_cases c5 : t0 = true
  ·subst c5
   rw [if_pos rfl] at H
   obtain ⟨t1, A6, H⟩ := sqD H
   by_cases c7 : t1 = true
   ·subst c7
    rw [if_pos rfl] at H
    have H' := sqa H
    clear H
    have := sqY2 B0
    go_wp2_with (first | ((with_reducible refine sqc 77 rfl ?_); refine sqC (some 7) func77 #[.agg #[.int .i64 a0_0, .int .i64 a0_1]] ?_; (with_reducible refine (F7.c k a0_0 a0_1 true _ A4.1).mono ?_); refine sqV fun w9 hb => ?_; replace B0 := sqT B0 hb; replace HB := sqS (sqB1 HB E0) hb; have := sqY2 B0) | (go_at_call 101; (with_reducible refine (F33.c a0_0 (-12) 12 true _ A6.1).mono ?_); rintro e w' ⟨rfl, ⟨nd, rfl⟩⟩))
    go_meet
    case rel => exact ⟨_, (decide (a0_1 > 12)), Z2, H', ⟨Z3⟩, ⟨sqK B0⟩, ⟨sqB1 HB E0⟩⟩
   obtain rfl := sqb c7
   rw [if_neg sqF] at H
   have H' := sqa H
   clear H
   have := sqY2 B0
   go_wp2_with (first | ((with_reducible refine sqc 77 rfl ?_); refine sqC (some 7) func77 #[.agg #[.int .i64 a0_0, .int .i64 a0_1]] ?_; (with_reducible refine (F7.c k a0_0 a0_1 true _ A4.1).mono ?_); refine sqV fun w0 hb => ?_; replace B0 := sqT B0 hb; replace HB := sqS (sqB1 HB E0) hb; have := sqY2 B0) | (go_at_call 101; (with_reducible refine (F33.c a0_0 (-12) 12 false _ A6.1).mono ?_); rintro e w' ⟨rfl, ⟨nd, rfl⟩⟩))
   go_meet
   case rel => exact ⟨_, (true), Z2, H', ⟨Z3⟩, ⟨sqK B0⟩, ⟨sqB1 HB E0⟩⟩
  obtain rfl := sqb c5
  rw [if_neg sqF] at H
  have H' := sqa H
  clear H
  have := sqY2 B0
  go_wp2_with (first | ((with_reducible refine sqc 77 rfl ?_); refine sqC (some 7) func77 #[.agg #[.int .i64 a0_0, .int .i64 a0_1]] ?_; (with_reducible refine (F7.c k a0_0 a0_1 false _ A4.1).mono ?_); refine sqV fun w1 hb => ?_; replace B0 := sqT B0 hb; replace HB := sqS (sqB1 HB E0) hb))
  go_meet
  case rel => exact ⟨_, (true), Z2, H', ⟨Z3⟩, ⟨sqK B0⟩, ⟨sqB1 HB E0⟩⟩
 case rest =>
  clear HC2
  obtain ⟨kq, x0, rfl, HA, HJ1, B0, HB⟩ := hcut
  cases kq with
  | zero => exact absurd HA.out (by simp [F16.j0])
  | succ kj1 =>
   have H := HA.out
   clear HA
   simp only [F16.j0] at H
   by_cases c0 : x0 = true
   ·subst c0
    rw [if_pos rfl] at H
    obtain ⟨rfl, rfl⟩ := sqO2 H
    go_wp2
    go_ret2
    exact ⟨Z14, sqB1 HB E0⟩
   obtain rfl := sqb c0
   rw [if_neg sqF] at H
   have H' := sqa H
   clear H
   have := sqY2 B0
   go_wp2_with (first | ((with_reducible refine sqd 5 rfl ?_); refine sqBx w (sqB1 HB E0) (cs := #[.int .i64 0, .int .i64 0]) (t := 31) ?_; intro g1 hg w2 B2 E1 HB hb; obtain ⟨N0, N1⟩ := sqM hg B0; replace B0 := sqT B0 hb; clear hb hg; have := sqn2 N1 N0; have := sqY2 B2))
   go_loopg [4] kj1 (fun kq v4 w' => ∃ (x4_2 : ByteArray) (x1 : Int) (x2 : Int), v4 = .string x4_2 ∧ Aside0 (F16.l0 kq x4_2 x1 x2 = some (r1, r2)) ∧ Aside0 (kq ≤ kj1) ∧ Aside0 (w'.heap[g0]? = some (.cells #[.int .i64 a0_0, .int .i64 a0_1] 31 (0, 0))) ∧ Aside0 (w'.heap[g1]? = some (.cells #[.int .i64 x1, .int .i64 x2] 31 (0, 0))) ∧ Aside0 (Below w.heap.size w w'))
   case atStart => exact ⟨((⟨#[]⟩ : ByteArray)), (a0_0), (a0_1), Z2, H', ⟨Nat.le_refl _⟩, ⟨Z9 N0 B0⟩, ⟨Z81 B2⟩, ⟨sqB2 HB E0 E1⟩⟩
   case round =>
    clear H'
    obtain ⟨x4_2, x1, x2, rfl, HA, HK2, B0, B2, HB⟩ := hrel
    cases gk with
    | zero => exact absurd HA.out (by simp [F16.l0])
    | succ k2 =>
     have H := HA.out
     clear HA
     simp only [F16.l0] at H
     by_cases c21 : x1 = 0
     ·rw [if_pos c21] at H
      have c1 := sqe1 c21
      have c2 := sqn0 c21
      clear c21
      obtain ⟨rfl, rfl⟩ := sqO2 H
      have := sqn2 N1 N0
      have := sqY2 B2
      go_wp2
      go_ret2
      exact ⟨Z14, sqB2 HB E0 E1⟩
     rw [if_neg c21] at H
     have c1 := sqe0 c21
     have c2 := sqn1 c21
     by_cases c3 : x1 < 0
     ·rw [if_pos c3] at H
      have c4 : decide (x1 < 0) = true := decide_eq_true c3
      clear c3
      obtain ⟨⟨t2, t3, t4⟩, A0, H⟩ := sqD H
      try dsimp only at H
      obtain ⟨c6, H⟩ := sqI H
      have c8 := eq_true c6
      have c9 : decide (x4_2.size + 1 ≤ 9223372036854775807) = true := decide_eq_true c6
      try have c10 : (9223372036854775807 < x4_2.size + 1) = False := eq_false (Nat.not_lt.2 c6)
      have H' := sqa H
      clear H
      have := sqn2 N1 N0
      have := sqY2 B2
      go_wp2_with (first | ((with_reducible refine sqc 127 rfl ?_); refine sqC (some 29) func127 #[.agg #[.int .i64 x1, .int .i64 x2], .int .i64 1] ?_; (with_reducible refine (F53.c k2 x1 x2 1 t2 t3 t4 _ A0.1).mono ?_); refine sqV fun w4 hb => ?_; obtain ⟨B0, B2⟩ := sqT2 hb B0 B2; replace HB := sqS (sqB2 HB E0 E1) hb; have := sqY2 B2))
      go_roundg k2
      case measure => have := HJ1.out; have := HK2.out; omega
      case rel => exact ⟨(x4_2 ++ (⟨#[84]⟩ : ByteArray)), (t2), (t3), Z2, H', ⟨by have := HJ1.out; have := HK2.out; omega⟩, ⟨Z9 N0 B0⟩, ⟨by refine sqPut (cs := #[.int .i64 t2, .int .i64 x2]) ?_ 1; refine sqPut (cs := #[.int .i64 x1, .int .i64 x2]) ?_ 0; exact sqK B2⟩, ⟨sqB2 HB E0 E1⟩⟩
     rw [if_neg c3] at H
     have c4 : decide (x1 < 0) = false := decide_eq_false c3
     clear c3
     obtain ⟨⟨t5, t6⟩, A1, H⟩ := sqD H
     try dsimp only at H
     obtain ⟨c32, H⟩ := sqI H
     have c12 := eq_true c32
     have c13 : decide (x4_2.size + 1 ≤ 9223372036854775807) = true := decide_eq_true c32
     try have c14 : (9223372036854775807 < x4_2.size + 1) = False := eq_false (Nat.not_lt.2 c32)
     have H' := sqa H
     clear H
     have := sqn2 N1 N0
     have := sqY2 B2
     go_wp2_with (first | ((with_reducible refine sqc 128 rfl ?_); refine sqC (some 35) func128 #[.agg #[.int .i64 x1, .int .i64 x2]] ?_; (with_reducible refine (F58.c k2 x1 x2 t5 t6 _ A1.1).mono ?_); refine sqV fun w5 hb => ?_; obtain ⟨B0, B2⟩ := sqT2 hb B0 B2; replace HB := sqS (sqB2 HB E0 E1) hb; have := sqY2 B2))
     go_roundg k2
     case measure => have := HJ1.out; have := HK2.out; omega
     case rel => exact ⟨(x4_2 ++ (⟨#[82]⟩ : ByteArray)), (t5), (t6), Z2, H', ⟨by have := HJ1.out; have := HK2.out; omega⟩, ⟨Z9 N0 B0⟩, ⟨by refine sqPut (cs := #[.int .i64 t5, .int .i64 x2]) ?_ 1; refine sqPut (cs := #[.int .i64 x1, .int .i64 x2]) ?_ 0; exact sqK B2⟩, ⟨sqB2 HB E0 E1⟩⟩

def F20.l0 : Nat → ByteArray → Int → Option (Bool)
 | 0, _, _ => none
 | k + 1, x0, x3 => if x3 < (x0.size : Int) then (if 0 ≤ x3 then (if (bt x0 x3) = 84 then (F20.l0 k x0 (wrap64 (x3 + 1))) else (if (bt x0 x3) = 116 then (F20.l0 k x0 (wrap64 (x3 + 1))) else (if (bt x0 x3) = 82 then (F20.l0 k x0 (wrap64 (x3 + 1))) else (some false)))) else (none)) else (some (decide ((x0.size : Int) ≤ 40)))
def F20.f (k : Nat) (a0 : ByteArray) : Option (Bool) := F20.l0 k a0 0
abbrev F20.M (k : Nat) : Prop := (∀ y0 y1, LeO (F20.l0 k y0 y1) (F20.l0 (k + 1) y0 y1))
theorem F20.mt : ∀ k, F20.M k → F20.M (k + 1) ∧ ∀ a0, LeO (F20.f k a0) (F20.f (k + 1) a0) := by
  rintro k ih0
  refine ⟨?_, ?_⟩ <;> (try unfold F20.M) <;> intros <;> (first | unfold F20.l0 | unfold F20.f) <;> repeat' (with_reducible first | exact ih0 _ _ | exact LeO.refl _ | exact LeO.none _ | refine LeO.ite ?_ ?_ | refine LeO.bind ?_ fun _ => ?_)
theorem F20.ml : ∀ k, F20.M k
 | 0 => fun _ _ r h => by simp [F20.l0] at h
 | k + 1 => (F20.mt k (F20.ml k)).1
theorem F20.m a0 k : LeO (F20.f k a0) (F20.f (k + 1) a0) := (F20.mt k (F20.ml k)).2 a0
theorem F20.c (k : Nat) (a0 : ByteArray) (r : Bool) (w : World) (H : F20.f k a0 = some r) :
  Calls prog 134 #[.string a0] w fun e w' => e = .returned (.bool r) ∧ Drawn0 w w' := by
 unfold F20.f at H
 have H' := sqa H
 clear H
 go_enter func134, ntmps134
 go_wp2
 go_loopg [3] k (fun kq v3 w' => ∃ (x3_1 : Int), v3 = .int .i64 x3_1 ∧ Aside0 (F20.l0 kq a0 x3_1 = some r) ∧ Aside0 (kq ≤ k) ∧ Drawn0 w w')
 case atStart => exact ⟨(0), Z2, H', ⟨Nat.le_refl _⟩, Z87⟩
 case round =>
  clear H'
  obtain ⟨x3_1, rfl, HA, HK1, ⟨m1, rfl⟩⟩ := hrel
  cases gk with
  | zero => exact absurd HA.out (by simp [F20.l0])
  | succ k1 =>
   have H := HA.out
   clear HA
   simp only [F20.l0] at H
   by_cases c2 : x3_1 < (a0.size : Int)
   ·rw [if_pos c2] at H
    have c2b0 : decide (x3_1 < (a0.size : Int)) = true := decide_eq_true c2
    clear c2
    obtain ⟨c3, H⟩ := sqI H
    have c3b0 : decide (0 ≤ x3_1) = true := decide_eq_true c3
    clear c3
    by_cases c5 : (bt a0 x3_1) = 84
    ·rw [if_pos c5] at H
     have c5b0 : ((bt a0 x3_1) == 84) = true := sqe1 c5
     have c5b1 : ((bt a0 x3_1) != 84) = false := sqn0 c5
     clear c5
     have H' := sqa H
     clear H
     have p4 : 0 ≤ (x3_1 : Int) := of_decide_eq_true Z7
     have q4 : x3_1 < (a0.size : Int) := of_decide_eq_true Z7
     have hx4 := bt_at a0 x3_1
     replace p4 := eq_true p4
     replace q4 := eq_true q4
     go_wp2
     go_roundg k1
     case measure => have := HK1.out; omega
     case rel => exact ⟨(wrap64 (x3_1 + 1)), Z2, H', ⟨Z15 HK1⟩, Z87⟩
    rw [if_neg c5] at H
    have c5b0 : ((bt a0 x3_1) == 84) = false := sqe0 c5
    have c5b1 : ((bt a0 x3_1) != 84) = true := sqn1 c5
    by_cases c7 : (bt a0 x3_1) = 116
    ·rw [if_pos c7] at H
     have c7b0 : ((bt a0 x3_1) == 116) = true := sqe1 c7
     have c7b1 : ((bt a0 x3_1) != 116) = false := sqn0 c7
     clear c7
     have H' := sqa H
     clear H
     have p4 : 0 ≤ (x3_1 : Int) := of_decide_eq_true Z7
     have q4 : x3_1 < (a0.size : Int) := of_decide_eq_true Z7
     have hx4 := bt_at a0 x3_1
     replace p4 := eq_true p4
     replace q4 := eq_true q4
     have p6 : 0 ≤ (x3_1 : Int) := of_decide_eq_true Z7
     have q6 : x3_1 < (a0.size : Int) := of_decide_eq_true Z7
     have hx6 := bt_at a0 x3_1
     replace p6 := eq_true p6
     replace q6 := eq_true q6
     go_wp2
     go_roundg k1
     case measure => have := HK1.out; omega
     case rel => exact ⟨(wrap64 (x3_1 + 1)), Z2, H', ⟨Z15 HK1⟩, Z87⟩
    rw [if_neg c7] at H
    have c7b0 : ((bt a0 x3_1) == 116) = false := sqe0 c7
    have c7b1 : ((bt a0 x3_1) != 116) = true := sqn1 c7
    by_cases c9 : (bt a0 x3_1) = 82
    ·rw [if_pos c9] at H
     have c9b0 : ((bt a0 x3_1) == 82) = true := sqe1 c9
     have c9b1 : ((bt a0 x3_1) != 82) = false := sqn0 c9
     clear c9
     have H' := sqa H
     clear H
     have p4 : 0 ≤ (x3_1 : Int) := of_decide_eq_true Z7
     have q4 : x3_1 < (a0.size : Int) := of_decide_eq_true Z7
     have hx4 := bt_at a0 x3_1
     replace p4 := eq_true p4
     replace q4 := eq_true q4
     have p6 : 0 ≤ (x3_1 : Int) := of_decide_eq_true Z7
     have q6 : x3_1 < (a0.size : Int) := of_decide_eq_true Z7
     have hx6 := bt_at a0 x3_1
     replace p6 := eq_true p6
     replace q6 := eq_true q6
     have p8 : 0 ≤ (x3_1 : Int) := of_decide_eq_true Z7
     have q8 : x3_1 < (a0.size : Int) := of_decide_eq_true Z7
     have hx8 := bt_at a0 x3_1
     replace p8 := eq_true p8
     replace q8 := eq_true q8
     go_wp2
     go_roundg k1
     case measure => have := HK1.out; omega
     case rel => exact ⟨(wrap64 (x3_1 + 1)), Z2, H', ⟨Z15 HK1⟩, Z87⟩
    rw [if_neg c9] at H
    have c9b0 : ((bt a0 x3_1) == 82) = false := sqe0 c9
    have c9b1 : ((bt a0 x3_1) != 82) = true := sqn1 c9
    obtain rfl := sqo H
    have p4 : 0 ≤ (x3_1 : Int) := of_decide_eq_true Z7
    have q4 : x3_1 < (a0.size : Int) := of_decide_eq_true Z7
    have hx4 := bt_at a0 x3_1
    replace p4 := eq_true p4
    replace q4 := eq_true q4
    have p6 : 0 ≤ (x3_1 : Int) := of_decide_eq_true Z7
    have q6 : x3_1 < (a0.size : Int) := of_decide_eq_true Z7
    have hx6 := bt_at a0 x3_1
    replace p6 := eq_true p6
    replace q6 := eq_true q6
    have p8 : 0 ≤ (x3_1 : Int) := of_decide_eq_true Z7
    have q8 : x3_1 < (a0.size : Int) := of_decide_eq_true Z7
    have hx8 := bt_at a0 x3_1
    replace p8 := eq_true p8
    replace q8 := eq_true q8
    go_wp2
    go_ret
    exact ⟨Z2, Z87⟩
   rw [if_neg c2] at H
   have c2b0 : decide (x3_1 < (a0.size : Int)) = false := decide_eq_false c2
   clear c2
   obtain rfl := sqo H
   go_wp2
   go_ret
   exact ⟨Z2, Z87⟩

def F61.f (k : Nat) (a0_0 : Int) (a0_1 : Int) (a1 : Int) : Option (Int × Int × Bool) := if a1 = 84 then ((F53.f k a0_0 a0_1 1).bind fun bt0 => (some (bt0.1, bt0.2.1, bt0.2.2))) else (if a1 = 116 then ((F53.f k a0_0 a0_1 (-1)).bind fun bt1 => (some (bt1.1, bt1.2.1, bt1.2.2))) else ((F58.f k a0_0 a0_1).bind fun bt2 => ((F7.f k a0_0 a0_1).bind fun t168 => (some (bt2.1, bt2.2, t168)))))
theorem F61.m : ∀ a0 a1 a2 k, LeO (F61.f k a0 a1 a2) (F61.f (k + 1) a0 a1 a2) := by
 intro a0 a1 a2 k
 unfold F61.f
 repeat' (with_reducible first | exact F7.m _ _ _ | exact F58.m _ _ _ | exact F53.m _ _ _ _ | exact LeO.refl _ | exact LeO.none _ | refine LeO.ite ?_ ?_ | refine LeO.bind ?_ fun _ => ?_)
theorem F61.c (k : Nat) (a0_0 : Int) (a0_1 : Int) (a1 : Int) (r1 : Int) (r2 : Int) (r3 : Bool) (w : World) (H : F61.f k a0_0 a0_1 a1 = some (r1, r2, r3)) :
  Calls prog 135 #[.agg #[.int .i64 a0_0, .int .i64 a0_1], .int .u8 a1] w fun e w' => e = .returned (.tuple #[.agg #[.int .i64 r1, .int .i64 r2], .bool r3]) ∧ Below w.heap.size w w' := by
 have hu31 := underlying31
 have HB := sqh w
 unfold F61.f at H
 by_cases c3 : a1 = 84
 ·rw [if_pos c3] at H
  have c3b0 : (a1 == 84) = true := sqe1 c3
  have c3b1 : (a1 != 84) = false := sqn0 c3
  clear c3
  obtain ⟨⟨t0, t1, t2⟩, A4, H⟩ := sqD H
  try dsimp only at H
  obtain ⟨rfl, rfl, rfl⟩ := sqO3 H
  go_enter func135, ntmps135
  go_wp2_with (first | ((with_reducible refine sqd 2 rfl ?_); refine sqBx w (sqB HB) (cs := #[.int .i64 a0_0, .int .i64 a0_1]) (t := 31) ?_; intro g0 hg w5 B0 E0 HB hb; clear hb hg) | ((with_reducible refine sqd 4 rfl ?_); refine sqBx w (sqB1 HB E0) (cs := #[.int .i64 0, .int .i64 0]) (t := 31) ?_; intro g1 hg w6 B2 E1 HB hb; obtain ⟨N0, N1⟩ := sqM hg B0; replace B0 := sqT B0 hb; clear hb hg; have := sqn2 N0 N1; have := sqY2 B0) | ((with_reducible refine sqc 127 rfl ?_); refine sqC (some 10) func127 #[.agg #[.int .i64 a0_0, .int .i64 a0_1], .int .i64 1] ?_; (with_reducible refine (F53.c k a0_0 a0_1 1 t0 t1 t2 _ A4.1).mono ?_); refine sqV fun w9 hb => ?_; obtain ⟨B0, B2⟩ := sqT2 hb B0 B2; replace HB := sqS (sqB2 HB E0 E1) hb; have := sqY2 B2))
  refine sqE g1 31 #[.int .i64 t0, .int .i64 t1] (by refine sqPut (cs := #[.int .i64 t0, .int .i64 0]) ?_ 1; refine sqPut (cs := #[.int .i64 0, .int .i64 0]) ?_ 0; exact sqK B2) underlying31 ?_
  exact ⟨Z14, sqB2 HB E0 E1⟩
 rw [if_neg c3] at H
 have c3b0 : (a1 == 84) = false := sqe0 c3
 have c3b1 : (a1 != 84) = true := sqn1 c3
 by_cases c0 : a1 = 116
 ·rw [if_pos c0] at H
  have c1 := sqe1 c0
  have c2 := sqn0 c0
  clear c0
  obtain ⟨⟨t3, t164, t4⟩, A0, H⟩ := sqD H
  try dsimp only at H
  obtain ⟨rfl, rfl, rfl⟩ := sqO3 H
  go_enter func135, ntmps135
  go_wp2_with (first | ((with_reducible refine sqd 2 rfl ?_); refine sqBx w (sqB HB) (cs := #[.int .i64 a0_0, .int .i64 a0_1]) (t := 31) ?_; intro g0 hg w0 B0 E0 HB hb; clear hb hg) | ((with_reducible refine sqd 4 rfl ?_); refine sqBx w (sqB1 HB E0) (cs := #[.int .i64 0, .int .i64 0]) (t := 31) ?_; intro g1 hg w2 B2 E1 HB hb; obtain ⟨N0, N1⟩ := sqM hg B0; replace B0 := sqT B0 hb; clear hb hg; have := sqn2 N0 N1; have := sqY2 B0) | ((with_reducible refine sqc 127 rfl ?_); refine sqC (some 16) func127 #[.agg #[.int .i64 a0_0, .int .i64 a0_1], .int .i64 (-1)] ?_; (with_reducible refine (F53.c k a0_0 a0_1 (-1) t3 t164 t4 _ A0.1).mono ?_); refine sqV fun w3 hb => ?_; obtain ⟨B0, B2⟩ := sqT2 hb B0 B2; replace HB := sqS (sqB2 HB E0 E1) hb; have := sqY2 B2))
  refine sqE g1 31 #[.int .i64 t3, .int .i64 t164] (by refine sqPut (cs := #[.int .i64 t3, .int .i64 0]) ?_ 1; refine sqPut (cs := #[.int .i64 0, .int .i64 0]) ?_ 0; exact sqK B2) underlying31 ?_
  exact ⟨Z14, sqB2 HB E0 E1⟩
 rw [if_neg c0] at H
 have c1 := sqe0 c0
 have c2 := sqn1 c0
 obtain ⟨⟨t5, t167⟩, A1, H⟩ := sqD H
 try dsimp only at H
 obtain ⟨t168, A2, H⟩ := sqD H
 obtain ⟨rfl, rfl, rfl⟩ := sqO3 H
 go_enter func135, ntmps135
 try go_wp2_with (first | ((with_reducible refine sqd 2 rfl ?_); refine sqBx w (sqB HB) (cs := #[.int .i64 a0_0, .int .i64 a0_1]) (t := 31) ?_; intro g0 hg w4 B0 E0 HB hb; clear hb hg) | ((with_reducible refine sqd 4 rfl ?_); refine sqBx w (sqB1 HB E0) (cs := #[.int .i64 0, .int .i64 0]) (t := 31) ?_; intro g1 hg w7 B2 E1 HB hb; obtain ⟨N0, N1⟩ := sqM hg B0; replace B0 := sqT B0 hb; clear hb hg))
 replace B0 := sqa (blk_drew B0.1)
 replace B2 := sqa (blk_drew B2.1)
 replace HB := sqa (below_drew1 HB.1)
 refine start_ (n := 6) (S := fun w' => w'.cell? ⟨g0, 0, none⟩ = some (.int .i64 a0_0) ∧ w'.cell? ⟨g0, 1, none⟩ = some (.int .i64 a0_1)) (ds := []) #[false, false, false, false, false, false] (by kernel_rfl) rfl rfl (sqk1 B0) (fun hHeld => ?_)
 generalize w7.drew = w8 at B0 B2 HB hHeld ⊢
 refine sqQk 0 (some 19) hHeld (h := ?_)
 refine sqQk 2 (some 21) hHeld (h := ?_)
 refine sq1k 1 (some 20) (h := fun K hK => ?_)
 refine sqg func128 #[.agg #[.int .i64 a0_0, .int .i64 a0_1]] ?_
 with_reducible refine (F58.c k a0_0 a0_1 t5 t167 _ A1.1).mono ?_
 rintro e w24 ⟨rfl, hb⟩
 refine ⟨_, rfl, ?_⟩
 replace B0 := sqT B0 hb
 replace B2 := sqT B2 hb
 replace HB := sqS (sqB2 HB E0 E1) hb
 refine hK.out _ _ (sqk1 B0) (fun hHeld => ?_)
 clear hK K
 refine sqN (some 20) ?_
 refine sq1k 3 (some 22) (h := fun K hK => ?_)
 refine sqg func77 #[.agg #[.int .i64 a0_0, .int .i64 a0_1]] ?_
 with_reducible refine (F7.c k a0_0 a0_1 t168 _ A2.1).mono ?_
 rintro e w25 ⟨rfl, hb⟩
 refine ⟨_, rfl, ?_⟩
 replace B0 := sqT B0 hb
 replace B2 := sqT B2 hb
 replace HB := sqS (sqB2 HB E0 E1) hb
 refine hK.out _ _ (sqk1 B0) (fun hHeld => ?_)
 clear hK K
 refine sqN (some 22) ?_
 refine sq1k 4 none (h := fun K hK => ?_)
 have := sqY2 B2
 have := sqn2 N0 N1
 refine skip_ (w1 := ?_) (by rfl) rfl ?_ ?_
 rotate_left
 ·go_simp
  rfl
 refine hK.out _ _ (sql1 N0 hHeld) (fun hHeld => ?_)
 clear hK K
 refine sqPk 5 (some 5) (h := ?_)
 refine done_ (by kernel_rfl) ?_
 try go_wp2
 refine sqE g1 31 #[.int .i64 t5, .int .i64 t167] (by refine sqPut (cs := #[.int .i64 t5, .int .i64 0]) ?_ 1; refine sqPut (cs := #[.int .i64 0, .int .i64 0]) ?_ 0; exact sqK B2) underlying31 ?_
 exact ⟨Z14, sqB2 HB E0 E1⟩
mutual
def F8.j0 : Nat → ByteArray → Bool → Int → Int → Option (Int × Int × Bool)
 | 0, _, _, _, _ => none
 | k + 1, x1, x0, x2, x3 => if x0 = true then (some (0, 0, false)) else (F8.l0 k x1 0 x2 x3)
def F8.l0 : Nat → ByteArray → Int → Int → Int → Option (Int × Int × Bool)
 | 0, _, _, _, _ => none
 | k + 1, x1, x7, x0, x2 => if x7 < (x1.size : Int) then (if 0 ≤ x7 then ((F61.f k x0 x2 (bt x1 x7)).bind fun bt0 => (if bt0.2.2 = true then (F8.l0 k x1 (wrap64 (x7 + 1)) bt0.1 bt0.2.1) else (some (0, 0, false)))) else (none)) else (some (x0, x2, true))
end
def F8.f (k : Nat) (a0_0 : Int) (a0_1 : Int) (a1 : ByteArray) : Option (Int × Int × Bool) := (F20.f k a1).bind fun t171 => (if t171 = true then ((F7.f k a0_0 a0_1).bind fun t0 => (F8.j0 k a1 (!t0) a0_0 a0_1)) else (F8.j0 k a1 true a0_0 a0_1))
abbrev F8.M (k : Nat) : Prop := (∀ y0 y1 y2 y3, LeO (F8.j0 k y0 y1 y2 y3) (F8.j0 (k + 1) y0 y1 y2 y3)) ∧ (∀ y0 y1 y2 y3, LeO (F8.l0 k y0 y1 y2 y3) (F8.l0 (k + 1) y0 y1 y2 y3))
theorem F8.mt : ∀ k, F8.M k → F8.M (k + 1) ∧ ∀ a0 a1 a2, LeO (F8.f k a0 a1 a2) (F8.f (k + 1) a0 a1 a2) := by
  rintro k ⟨ih0, ih1⟩
  refine ⟨⟨?_, ?_⟩, ?_⟩ <;> intros <;> (first | unfold F8.j0 | unfold F8.l0 | unfold F8.f) <;> repeat' (with_reducible first | exact ih0 _ _ _ _ | exact ih1 _ _ _ _ | exact F20.m _ _ | exact F7.m _ _ _ | exact F61.m _ _ _ _ | exact LeO.refl _ | exact LeO.none _ | refine LeO.ite ?_ ?_ | refine LeO.bind ?_ fun _ => ?_)
theorem F8.ml : ∀ k, F8.M k
 | 0 => ⟨fun _ _ _ _ r h => by simp [F8.j0] at h, fun _ _ _ _ r h => by simp [F8.l0] at h⟩
 | k + 1 => (F8.mt k (F8.ml k)).1
theorem F8.m a0 a1 a2 k : LeO (F8.f k a0 a1 a2) (F8.f (k + 1) a0 a1 a2) := (F8.mt k (F8.ml k)).2 a0 a1 a2
def F8.T7 : Bool × List (List Nat × List Nat) := (true, [([], []), ([], []), ([], []), ([1, 2], [1, 2]), ([0, 3], [0, 3]), ([4], [4]), ([5], [5]), ([5], [5]), ([], []), ([8, 6, 4, 0, 1, 2, 3, 4, 5, 6, 8], [6, 8]), ([7, 9, 0, 1, 2, 3, 4, 5, 6, 7, 8, 9], [7])])
def F8.B7 : List Nat := [0, 0, 0, 6, 15, 31, 63, 63, 0, 383, 1023]
theorem F8.tab7 : rtab .any (opsOf f106 7) = F8.T7 := by kernel_rfl
theorem F8.bits7 : waitsOk F8.T7.2 F8.B7 = true := by kernel_rfl
theorem F8.c (k : Nat) (a0_0 : Int) (a0_1 : Int) (a1 : ByteArray) (r1 : Int) (r2 : Int) (r3 : Bool) (w : World) (H : F8.f k a0_0 a0_1 a1 = some (r1, r2, r3)) :
  Calls prog 106 #[.agg #[.int .i64 a0_0, .int .i64 a0_1], .string a1] w fun e w' => e = .returned (.tuple #[.agg #[.int .i64 r1, .int .i64 r2], .bool r3]) ∧ Below w.heap.size w w' := by
 have hu31 := underlying31
 have HB := sqh w
 unfold F8.f at H
 have HC3 := sqa H
 clear H
 go_enter func106, ntmps106
 go_upto_region 1 with (first | ((with_reducible refine sqd 2 rfl ?_); refine sqBx w (sqB HB) (cs := #[.int .i64 a0_0, .int .i64 a0_1]) (t := 31) ?_; intro g0 hg w4 B0 E0 HB hb; clear hb hg) | ((with_reducible refine sqd 4 rfl ?_); refine sqBx w (sqB1 HB E0) (cs := #[.int .i64 0, .int .i64 0]) (t := 31) ?_; intro g1 hg w5 B2 E1 HB hb; obtain ⟨N0, N1⟩ := sqM hg B0; replace B0 := sqT B0 hb; clear hb hg))
 (try simp only [Act.put, List.setIfInBounds_toArray, List.set_cons_zero, List.set_cons_succ])
 go_cut [17] (fun v0 wc => ∃ (kq : Nat) (x0 : Bool), v0 = .bool x0 ∧ Aside0 (F8.j0 kq a1 x0 a0_0 a0_1 = some (r1, r2, r3)) ∧ Aside0 (kq ≤ k) ∧ Aside0 (wc.heap[g0]? = some (.cells #[.int .i64 a0_0, .int .i64 a0_1] 31 (0, 0))) ∧ Aside0 (wc.heap[g1]? = some (.cells #[.int .i64 0, .int .i64 0] 31 (0, 0))) ∧ Aside0 (Below w.heap.size w wc))
 case first =>
  have H := HC3.1
  clear HC3
  obtain ⟨t171, A6, H⟩ := sqD H
  by_cases c7 : t171 = true
  ·subst c7
   rw [if_pos rfl] at H
   obtain ⟨t0, A8, H⟩ := sqD H
   have H' := sqa H
   clear H
   go_wp2_with (first | ((with_reducible refine sqc 134 rfl ?_); refine sqC (some 11) func134 #[.string a1] ?_; (with_reducible refine (F20.c k a1 true _ A6.1).mono ?_); rintro e w' ⟨rfl, ⟨nd, rfl⟩⟩; refine ⟨_, rfl, ?_⟩; have := sqn2 N0 N1; have := sqY2 B0) | (go_at_call 77; (with_reducible refine (F7.c k a0_0 a0_1 t0 _ A8.1).mono ?_); rintro e w0 ⟨rfl, hb⟩; obtain ⟨B0, B2⟩ := sqT2 hb B0 B2; replace HB := sqS (sqB2 HB E0 E1) hb))
   go_meet
   case rel => exact ⟨_, (!t0), Z2, H', ⟨Z3⟩, ⟨sqK B0⟩, ⟨sqK B2⟩, ⟨sqB2 HB E0 E1⟩⟩
  obtain rfl := sqb c7
  rw [if_neg sqF] at H
  have H' := sqa H
  clear H
  go_wp2_with (first | ((with_reducible refine sqc 134 rfl ?_); refine sqC (some 11) func134 #[.string a1] ?_; (with_reducible refine (F20.c k a1 false _ A6.1).mono ?_); rintro e w' ⟨rfl, ⟨nd, rfl⟩⟩; refine ⟨_, rfl, ?_⟩))
  go_meet
  case rel => exact ⟨_, (true), Z2, H', ⟨Z3⟩, ⟨sqK B0⟩, ⟨sqK B2⟩, ⟨sqB2 HB E0 E1⟩⟩
 case rest =>
  clear HC3
  obtain ⟨kq, x0, rfl, HA, HJ2, B0, B2, HB⟩ := hcut
  cases kq with
  | zero => exact absurd HA.out (by simp [F8.j0])
  | succ kj2 =>
   have H := HA.out
   clear HA
   simp only [F8.j0] at H
   by_cases c0 : x0 = true
   ·subst c0
    rw [if_pos rfl] at H
    obtain ⟨rfl, rfl, rfl⟩ := sqO3 H
    have := sqn2 N1 N0
    have := sqY2 B2
    go_wp2
    refine sqE g1 31 #[.int .i64 0, .int .i64 0] (Z37 B2) underlying31 ?_
    exact ⟨Z14, sqB2 HB E0 E1⟩
   obtain rfl := sqb c0
   rw [if_neg sqF] at H
   have H' := sqa H
   clear H
   have := sqn2 N0 N1
   have := sqY2 B0
   go_wp2_with (first | ((with_reducible refine sqd 6 rfl ?_); refine sqBx w (sqB2 HB E0 E1) (cs := #[.int .i64 0, .int .i64 0]) (t := 31) ?_; intro g2 hg w2 B8 E2 HB hb; obtain ⟨N2, N3⟩ := sqM hg B0; replace B0 := sqT B0 hb; obtain ⟨N4, N5⟩ := sqM hg B2; replace B2 := sqT B2 hb; clear hb hg; have := sqn4 N3 N2 N5 N4; have := sqY2 B8))
   go_loopg [7] kj2 (fun kq v7 w' => ∃ (x7_2 : Int) (x1 : Int) (x2 : Int) (x3 : Int) (x4 : Int), v7 = .int .i64 x7_2 ∧ Aside0 (F8.l0 kq a1 x7_2 x3 x4 = some (r1, r2, r3)) ∧ Aside0 (kq ≤ kj2) ∧ Aside0 (w'.heap[g0]? = some (.cells #[.int .i64 a0_0, .int .i64 a0_1] 31 (0, 0))) ∧ Aside0 (w'.heap[g1]? = some (.cells #[.int .i64 x1, .int .i64 x2] 31 (0, 0))) ∧ Aside0 (w'.heap[g2]? = some (.cells #[.int .i64 x3, .int .i64 x4] 31 (0, 0))) ∧ Aside0 (Below w.heap.size w w'))
   case atStart => exact ⟨(0), (0), (0), (a0_0), (a0_1), Z2, H', ⟨Nat.le_refl _⟩, ⟨Z9 N2 B0⟩, ⟨Z9 N4 B2⟩, ⟨Z81 B8⟩, ⟨sqB3 HB E0 E1 E2⟩⟩
   case round =>
    clear H'
    obtain ⟨x7_2, x1, x2, x3, x4, rfl, HA, HK2, B0, B2, B8, HB⟩ := hrel
    cases gk with
    | zero => exact absurd HA.out (by simp [F8.l0])
    | succ k2 =>
     have H := HA.out
     clear HA
     simp only [F8.l0] at H
     by_cases c21 : x7_2 < (a1.size : Int)
     ·rw [if_pos c21] at H
      have c1 : decide (x7_2 < (a1.size : Int)) = true := decide_eq_true c21
      clear c21
      obtain ⟨c2, H⟩ := sqI H
      have c3 : decide (0 ≤ x7_2) = true := decide_eq_true c2
      clear c2
      obtain ⟨⟨t1, t175, t2⟩, A0, H⟩ := sqD H
      try dsimp only at H
      by_cases c4 : t2 = true
      ·subst c4
       rw [if_pos rfl] at H
       have H' := sqa H
       clear H
       try go_wp2
       replace B0 := sqa (blk_drew B0.1)
       replace B2 := sqa (blk_drew B2.1)
       replace B8 := sqa (blk_drew B8.1)
       replace HB := sqa (below_drew1 HB.1)
       have p0 : 0 ≤ (x7_2 : Int) := of_decide_eq_true Z7
       have q0 : x7_2 < (a1.size : Int) := of_decide_eq_true Z7
       have hx0 := bt_at a1 x7_2
       replace p0 := eq_true p0
       replace q0 := eq_true q0
       refine start_ (n := 11) (S := fun w' => w'.cell? ⟨g2, 0, none⟩ = some (.int .i64 x3) ∧ w'.cell? ⟨g2, 1, none⟩ = some (.int .i64 x4)) (ds := []) #[false, false, false, false, false, false, false, false, false, false, false] (by kernel_rfl) rfl rfl (sqk1 B8) (fun hHeld => ?_); refine with_tabW F8.tab7 F8.bits7 (fun HT_ HW_ => ?_)
       generalize wr.drew = w3 at B0 B2 B8 HB hHeld ⊢
       refine sqP 1 (some 28) (h := ?_)
       refine sqP 2 (some 29) (h := ?_)
       refine sqQ 0 (some 27) hHeld (h := ?_)
       refine sqQ 3 (some 30) hHeld (h := ?_)
       refine join_ (σ := Nat) 2 #[true, true, true, true, true, true, true, true, true, false, false] (fun s_ => [(31, .tuple #[.agg #[.int .i64 t1, .int .i64 t175], .bool true]), (8, .pointer (some ⟨s_, 0, none⟩)), (26, .tuple #[.agg #[.int .i64 t1, .int .i64 t175], .bool true]), (32, .agg #[.int .i64 t1, .int .i64 t175]), (33, .bool true)]) (fun s_ w' => (w'.cell? ⟨g2, 0, none⟩ = some (.int .i64 x3) ∧ w'.cell? ⟨g2, 1, none⟩ = some (.int .i64 x4)) ∧ (w'.heap[g0]? = some (.cells #[.int .i64 a0_0, .int .i64 a0_1] 31 (0, 0))) ∧ (w'.heap[g1]? = some (.cells #[.int .i64 x1, .int .i64 x2] 31 (0, 0))) ∧ (w'.heap[g2]? = some (.cells #[.int .i64 x3, .int .i64 x4] 31 (0, 0))) ∧ (w'.heap[s_]? = some (.cells #[.int .i64 0, .int .i64 0] 31 (0, 0))) ∧ (w.heap.size ≤ s_) ∧ (w.heap.size ≤ s_) ∧ (g0 ≠ s_) ∧ (s_ ≠ g0) ∧ (g1 ≠ s_) ∧ (s_ ≠ g1) ∧ (g2 ≠ s_) ∧ (s_ ≠ g2) ∧ (Below w.heap.size w w')) ?_ ?_
       rotate_left
       ·intro hCont
        refine two_ (i := 4) (j := 8) (Ni := some 31) (Nj := some 8) #[true, true, true, true, true, false, false, false, false, false, false] #[true, true, true, true, false, false, false, false, true, false, false] rfl rfl rfl rfl (two_of HT_.out (by kernel_rfl)) (by decide) (by decide) (fun K hK => ?_) (fun K hK => ?_)
        ·skip
         refine sqg func135 #[.agg #[.int .i64 x3, .int .i64 x4], .int .u8 (bt a1 x7_2)] ?_
         with_reducible refine (F61.c k2 x3 x4 (bt a1 x7_2) t1 t175 true _ A0.1).mono ?_
         rintro e w6 ⟨rfl, hb⟩
         refine ⟨_, rfl, ?_⟩
         replace B0 := sqT B0 hb
         replace B2 := sqT B2 hb
         replace B8 := sqT B8 hb
         replace HB := sqS (sqB3 HB E0 E1 E2) hb
         refine hK.out _ _ (sqk1 B8) (fun hHeld => ?_)
         clear hK K
         refine sqN (some 31) ?_
         refine sqP 5 (some 26) (h := ?_)
         refine sqP 6 (some 32) (h := ?_)
         refine sqP 7 (some 33) (h := ?_)
         refine sq1 8 (some 8) (h := fun K hK => ?_)
         refine box_step ?hg (N := 8) ?hd (cs := #[.int .i64 0, .int .i64 0]) (t := 31) ?hr ?_; (case hd => rfl); (case hg => rfl); (case hr => exact Z8)
         intro g3 hg w7 hbox hb
         have B9 := sqa (hbox)
         have GW0 := sqa ((sqG hg (sqB3 HB E0 E1 E2)))
         have E3 := sqa ((sqG hg (sqB3 HB E0 E1 E2)))
         replace HB := sqS (sqB3 HB E0 E1 E2) hb
         obtain ⟨N6, N7⟩ := sqM hg B0
         replace B0 := sqT B0 hb
         obtain ⟨N8, N9⟩ := sqM hg B2
         replace B2 := sqT B2 hb
         obtain ⟨N10, N11⟩ := sqM hg B8
         replace B8 := sqT B8 hb
         clear hb hbox hg
         refine hK.out _ _ (sqk1 B8) (fun hHeld => ?_)
         clear hK K
         refine sqN (some 8) ?_
         exact norm_ Z34 (hCont (g3) _ ⟨hHeld, (sqK B0), (sqK B2), (sqK B8), (sqK B9), GW0.1, E3.1, N6.1, N7.1, N8.1, N9.1, N10.1, N11.1, (sqB4 HB E0 E1 E2 E3)⟩)
        ·skip
         refine box_step ?hg (N := 8) ?hd (cs := #[.int .i64 0, .int .i64 0]) (t := 31) ?hr ?_; (case hd => rfl); (case hg => rfl); (case hr => exact Z8)
         intro g3 hg w6 hbox hb
         have B9 := sqa (hbox)
         have GW0 := sqa ((sqG hg (sqB3 HB E0 E1 E2)))
         have E3 := sqa ((sqG hg (sqB3 HB E0 E1 E2)))
         replace HB := sqS (sqB3 HB E0 E1 E2) hb
         obtain ⟨N6, N7⟩ := sqM hg B0
         replace B0 := sqT B0 hb
         obtain ⟨N8, N9⟩ := sqM hg B2
         replace B2 := sqT B2 hb
         obtain ⟨N10, N11⟩ := sqM hg B8
         replace B8 := sqT B8 hb
         clear hb hbox hg
         refine hK.out _ _ (sqk1 B8) (fun hHeld => ?_)
         clear hK K
         refine sqN (some 8) ?_
         refine sq1 4 (some 31) (h := fun K hK => ?_)
         refine sqg func135 #[.agg #[.int .i64 x3, .int .i64 x4], .int .u8 (bt a1 x7_2)] ?_
         with_reducible refine (F61.c k2 x3 x4 (bt a1 x7_2) t1 t175 true _ A0.1).mono ?_
         rintro e w7 ⟨rfl, hb⟩
         refine ⟨_, rfl, ?_⟩
         replace B0 := sqT B0 hb
         replace B2 := sqT B2 hb
         replace B8 := sqT B8 hb
         replace B9 := sqT B9 hb
         replace HB := sqS (sqB4 HB E0 E1 E2 E3) hb
         refine hK.out _ _ (sqk1 B8) (fun hHeld => ?_)
         clear hK K
         refine sqN (some 31) ?_
         refine sqP 5 (some 26) (h := ?_)
         refine sqP 6 (some 32) (h := ?_)
         refine sqP 7 (some 33) (h := ?_)
         exact norm_ Z34 (hCont (g3) _ ⟨hHeld, (sqK B0), (sqK B2), (sqK B8), (sqK B9), GW0.1, E3.1, N6.1, N7.1, N8.1, N9.1, N10.1, N11.1, (sqB4 HB E0 E1 E2 E3)⟩)
       rintro g3 w8 ⟨hS_, h0_, h1_, h2_, h3_, h4_, h5_, h6_, h7_, h8_, h9_, h0, h1, h2⟩
       replace B0 := sqa h0_
       replace B2 := sqa h1_
       replace B8 := sqa h2_
       replace B9 := sqa h3_
       replace GW0 := sqa h4_
       replace E3 := sqa h5_
       replace N6 := sqa h6_
       replace N7 := sqa h7_
       replace N8 := sqa h8_
       replace N9 := sqa h9_
       replace N10 := sqa h0
       replace N11 := sqa h1
       replace HB := sqa h2
       clear h0_ h1_ h2_ h3_ h4_ h5_ h6_ h7_ h8_ h9_ h0 h1 h2
       have hHeld : w8.cell? ⟨g2, 0, none⟩ = some (.int .i64 x3) ∧ w8.cell? ⟨g2, 1, none⟩ = some (.int .i64 x4) := hS_
       refine norm_ (a' := ?_) ?_ ?_
       rotate_left
       ·simp only [putAll, Act.put, List.setIfInBounds_toArray, List.set_cons_zero, List.set_cons_succ]
        rfl
       refine sq1 9 none (h := fun K hK => ?_)
       have := sqY2 B9
       have := sqn6 N6 N8 N10 N7 N9 N11
       refine skip_ (w1 := ?_) (by rfl) rfl ?_ ?_
       rotate_left
       ·go_simp
        rfl
       refine hK.out _ _ (sql1 N10 hHeld) (fun hHeld => ?_)
       clear hK K
       refine sqP 10 (some 9) (h := ?_)
       refine done_ (done_of HT_.out (by kernel_rfl)) ?_
       have := sqn6 N7 N6 N9 N8 N11 N10
       have := sqY2 B9
       have := sqn4 N3 N2 N5 N4
       have := sqY2 B8
       try go_wp2
       go_roundg k2
       case measure => have := HJ2.out; have := HK2.out; omega
       case rel => exact ⟨(wrap64 (x7_2 + 1)), (x1), (x2), (t1), (t175), Z2, H', ⟨Z52 HK2⟩, ⟨by refine sqFar ?_ N2; refine sqFar ?_ N2; refine sqFar ?_ N6; refine sqFar ?_ N6; exact sqK B0⟩, ⟨by refine sqFar ?_ N4; refine sqFar ?_ N4; refine sqFar ?_ N8; refine sqFar ?_ N8; exact sqK B2⟩, ⟨by refine sqPut (cs := #[.int .i64 t1, .int .i64 x4]) ?_ 1; refine sqPut (cs := #[.int .i64 x3, .int .i64 x4]) ?_ 0; refine sqFar ?_ N10; refine sqFar ?_ N10; exact sqK B8⟩, ⟨sqB4 HB E0 E1 E2 E3⟩⟩
      obtain rfl := sqb c4
      rw [if_neg sqF] at H
      obtain ⟨rfl, rfl, rfl⟩ := sqO3 H
      try go_wp2
      replace B0 := sqa (blk_drew B0.1)
      replace B2 := sqa (blk_drew B2.1)
      replace B8 := sqa (blk_drew B8.1)
      replace HB := sqa (below_drew1 HB.1)
      have p0 : 0 ≤ (x7_2 : Int) := of_decide_eq_true Z7
      have q0 : x7_2 < (a1.size : Int) := of_decide_eq_true Z7
      have hx0 := bt_at a1 x7_2
      replace p0 := eq_true p0
      replace q0 := eq_true q0
      refine start_ (n := 11) (S := fun w' => w'.cell? ⟨g2, 0, none⟩ = some (.int .i64 x3) ∧ w'.cell? ⟨g2, 1, none⟩ = some (.int .i64 x4)) (ds := []) #[false, false, false, false, false, false, false, false, false, false, false] (by kernel_rfl) rfl rfl (sqk1 B8) (fun hHeld => ?_); refine with_tabW F8.tab7 F8.bits7 (fun HT_ HW_ => ?_)
      generalize wr.drew = w9 at B0 B2 B8 HB hHeld ⊢
      refine sqP 1 (some 28) (h := ?_)
      refine sqP 2 (some 29) (h := ?_)
      refine sqQ 0 (some 27) hHeld (h := ?_)
      refine sqQ 3 (some 30) hHeld (h := ?_)
      refine join_ (σ := Nat) 2 #[true, true, true, true, true, true, true, true, true, false, false] (fun s_ => [(31, .tuple #[.agg #[.int .i64 t1, .int .i64 t175], .bool false]), (8, .pointer (some ⟨s_, 0, none⟩)), (26, .tuple #[.agg #[.int .i64 t1, .int .i64 t175], .bool false]), (32, .agg #[.int .i64 t1, .int .i64 t175]), (33, .bool false)]) (fun s_ w' => (w'.cell? ⟨g2, 0, none⟩ = some (.int .i64 x3) ∧ w'.cell? ⟨g2, 1, none⟩ = some (.int .i64 x4)) ∧ (w'.heap[g0]? = some (.cells #[.int .i64 a0_0, .int .i64 a0_1] 31 (0, 0))) ∧ (w'.heap[g1]? = some (.cells #[.int .i64 x1, .int .i64 x2] 31 (0, 0))) ∧ (w'.heap[g2]? = some (.cells #[.int .i64 x3, .int .i64 x4] 31 (0, 0))) ∧ (w'.heap[s_]? = some (.cells #[.int .i64 0, .int .i64 0] 31 (0, 0))) ∧ (w.heap.size ≤ s_) ∧ (w.heap.size ≤ s_) ∧ (g0 ≠ s_) ∧ (s_ ≠ g0) ∧ (g1 ≠ s_) ∧ (s_ ≠ g1) ∧ (g2 ≠ s_) ∧ (s_ ≠ g2) ∧ (Below w.heap.size w w')) ?_ ?_
      rotate_left
      ·intro hCont
       refine two_ (i := 4) (j := 8) (Ni := some 31) (Nj := some 8) #[true, true, true, true, true, false, false, false, false, false, false] #[true, true, true, true, false, false, false, false, true, false, false] rfl rfl rfl rfl (two_of HT_.out (by kernel_rfl)) (by decide) (by decide) (fun K hK => ?_) (fun K hK => ?_)
       ·skip
        refine sqg func135 #[.agg #[.int .i64 x3, .int .i64 x4], .int .u8 (bt a1 x7_2)] ?_
        with_reducible refine (F61.c k2 x3 x4 (bt a1 x7_2) t1 t175 false _ A0.1).mono ?_
        rintro e w40 ⟨rfl, hb⟩
        refine ⟨_, rfl, ?_⟩
        replace B0 := sqT B0 hb
        replace B2 := sqT B2 hb
        replace B8 := sqT B8 hb
        replace HB := sqS (sqB3 HB E0 E1 E2) hb
        refine hK.out _ _ (sqk1 B8) (fun hHeld => ?_)
        clear hK K
        refine sqN (some 31) ?_
        refine sqP 5 (some 26) (h := ?_)
        refine sqP 6 (some 32) (h := ?_)
        refine sqP 7 (some 33) (h := ?_)
        refine sq1 8 (some 8) (h := fun K hK => ?_)
        refine box_step ?hg (N := 8) ?hd (cs := #[.int .i64 0, .int .i64 0]) (t := 31) ?hr ?_; (case hd => rfl); (case hg => rfl); (case hr => exact Z8)
        intro g3 hg w41 hbox hb
        have B9 := sqa (hbox)
        have GW0 := sqa ((sqG hg (sqB3 HB E0 E1 E2)))
        have E3 := sqa ((sqG hg (sqB3 HB E0 E1 E2)))
        replace HB := sqS (sqB3 HB E0 E1 E2) hb
        obtain ⟨N6, N7⟩ := sqM hg B0
        replace B0 := sqT B0 hb
        obtain ⟨N8, N9⟩ := sqM hg B2
        replace B2 := sqT B2 hb
        obtain ⟨N10, N11⟩ := sqM hg B8
        replace B8 := sqT B8 hb
        clear hb hbox hg
        refine hK.out _ _ (sqk1 B8) (fun hHeld => ?_)
        clear hK K
        refine sqN (some 8) ?_
        exact norm_ Z34 (hCont (g3) _ ⟨hHeld, (sqK B0), (sqK B2), (sqK B8), (sqK B9), GW0.1, E3.1, N6.1, N7.1, N8.1, N9.1, N10.1, N11.1, (sqB4 HB E0 E1 E2 E3)⟩)
       ·skip
        refine box_step ?hg (N := 8) ?hd (cs := #[.int .i64 0, .int .i64 0]) (t := 31) ?hr ?_; (case hd => rfl); (case hg => rfl); (case hr => exact Z8)
        intro g3 hg w40 hbox hb
        have B9 := sqa (hbox)
        have GW0 := sqa ((sqG hg (sqB3 HB E0 E1 E2)))
        have E3 := sqa ((sqG hg (sqB3 HB E0 E1 E2)))
        replace HB := sqS (sqB3 HB E0 E1 E2) hb
        obtain ⟨N6, N7⟩ := sqM hg B0
        replace B0 := sqT B0 hb
        obtain ⟨N8, N9⟩ := sqM hg B2
        replace B2 := sqT B2 hb
        obtain ⟨N10, N11⟩ := sqM hg B8
        replace B8 := sqT B8 hb
        clear hb hbox hg
        refine hK.out _ _ (sqk1 B8) (fun hHeld => ?_)
        clear hK K
        refine sqN (some 8) ?_
        refine sq1 4 (some 31) (h := fun K hK => ?_)
        refine sqg func135 #[.agg #[.int .i64 x3, .int .i64 x4], .int .u8 (bt a1 x7_2)] ?_
        with_reducible refine (F61.c k2 x3 x4 (bt a1 x7_2) t1 t175 false _ A0.1).mono ?_
        rintro e w41 ⟨rfl, hb⟩
        refine ⟨_, rfl, ?_⟩
        replace B0 := sqT B0 hb
        replace B2 := sqT B2 hb
        replace B8 := sqT B8 hb
        replace B9 := sqT B9 hb
        replace HB := sqS (sqB4 HB E0 E1 E2 E3) hb
        refine hK.out _ _ (sqk1 B8) (fun hHeld => ?_)
        clear hK K
        refine sqN (some 31) ?_
        refine sqP 5 (some 26) (h := ?_)
        refine sqP 6 (some 32) (h := ?_)
        refine sqP 7 (some 33) (h := ?_)
        exact norm_ Z34 (hCont (g3) _ ⟨hHeld, (sqK B0), (sqK B2), (sqK B8), (sqK B9), GW0.1, E3.1, N6.1, N7.1, N8.1, N9.1, N10.1, N11.1, (sqB4 HB E0 E1 E2 E3)⟩)
      rintro g3 w42 ⟨hS_, h0_, h1_, h2_, h3_, h4_, h5_, h6_, h7_, h8_, h9_, h0, h1, h2⟩
      replace B0 := sqa h0_
      replace B2 := sqa h1_
      replace B8 := sqa h2_
      replace B9 := sqa h3_
      replace GW0 := sqa h4_
      replace E3 := sqa h5_
      replace N6 := sqa h6_
      replace N7 := sqa h7_
      replace N8 := sqa h8_
      replace N9 := sqa h9_
      replace N10 := sqa h0
      replace N11 := sqa h1
      replace HB := sqa h2
      clear h0_ h1_ h2_ h3_ h4_ h5_ h6_ h7_ h8_ h9_ h0 h1 h2
      have hHeld : w42.cell? ⟨g2, 0, none⟩ = some (.int .i64 x3) ∧ w42.cell? ⟨g2, 1, none⟩ = some (.int .i64 x4) := hS_
      refine norm_ (a' := ?_) ?_ ?_
      rotate_left
      ·simp only [putAll, Act.put, List.setIfInBounds_toArray, List.set_cons_zero, List.set_cons_succ]
       rfl
      refine sq1 9 none (h := fun K hK => ?_)
      have := sqY2 B9
      have := sqn6 N6 N8 N10 N7 N9 N11
      refine skip_ (w1 := ?_) (by rfl) rfl ?_ ?_
      rotate_left
      ·go_simp
       rfl
      refine hK.out _ _ (sql1 N10 hHeld) (fun hHeld => ?_)
      clear hK K
      refine sqP 10 (some 9) (h := ?_)
      refine done_ (done_of HT_.out (by kernel_rfl)) ?_
      have := sqn6 N1 N0 N4 N5 N8 N9
      have := sqY2 B2
      try go_wp2
      refine sqE g1 31 #[.int .i64 0, .int .i64 0] (by refine sqPut (cs := #[.int .i64 0, .int .i64 x2]) ?_ 1; refine sqPut (cs := #[.int .i64 x1, .int .i64 x2]) ?_ 0; refine sqFar ?_ N8; refine sqFar ?_ N8; exact sqK B2) underlying31 ?_
      exact ⟨Z14, sqB4 HB E0 E1 E2 E3⟩
     rw [if_neg c21] at H
     have c1 : decide (x7_2 < (a1.size : Int)) = false := decide_eq_false c21
     clear c21
     obtain ⟨rfl, rfl, rfl⟩ := sqO3 H
     have := sqn4 N3 N2 N5 N4
     have := sqY2 B8
     have := sqn2 N1 N0
     have := sqY2 B2
     go_wp2
     refine sqE g1 31 #[.int .i64 x3, .int .i64 x4] (by refine sqPut (cs := #[.int .i64 x3, .int .i64 x2]) ?_ 1; refine sqPut (cs := #[.int .i64 x1, .int .i64 x2]) ?_ 0; exact sqK B2) underlying31 ?_
     exact ⟨Z14, sqB3 HB E0 E1 E2⟩
end Go.Proofs.YtofmlbgfcohhoaaGreatDoor.PFnReadJournal
