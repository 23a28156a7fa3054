import Derived.Test.YtofmlbgfcohhoaaGreatDoorPFnExactDeskSayx5
set_option maxHeartbeats 8000000
set_option maxRecDepth 100000
namespace Go.Proofs.YtofmlbgfcohhoaaGreatDoor.PFnExactDeskSay
open Go.RowKit Go.Proofs.YtofmlbgfcohhoaaGreatDoorW.PrintWords Go.Proofs.YtofmlbgfcohhoaaGreatDoorW.PrintLast Go.Proofs.YtofmlbgfcohhoaaGreatDoorW.PrintMore Go.Proofs.YtofmlbgfcohhoaaGreatDoor.Lib Go.Proofs.Tryz
attribute [local go_sem] max2_int min2_int max_two min_two max_three min_three max_four min_four   -- for this text's walks alone
set_option linter.unusedVariables false
set_option linter.unusedSimpArgs false

/-! ### spec_OverOf: function 128 -/
def spec_OverOf.f (k : Nat) (a0_0 : Int) (a0_1 : Int) : Option (Int × Int) := (spec_FractionOk.f k a0_0 a0_1).bind fun t0 => (if t0 = true then ((spec_LowestOf.f k (wrap64 (-a0_1)) a0_0).bind fun bt0 => (some (bt0.1, bt0.2.1))) else (some (0, 0)))
theorem spec_OverOf.mono : ∀ a0 a1 k, LeO (spec_OverOf.f k a0 a1) (spec_OverOf.f (k + 1) a0 a1) := by
 intro a0 a1 k
 unfold spec_OverOf.f
 repeat' (with_reducible first | exact spec_FractionOk.mono _ _ _ | exact spec_LowestOf.mono _ _ _ | exact LeO.refl _ | exact LeO.none _ | refine LeO.ite ?_ ?_ | refine LeO.bind ?_ fun _ => ?_)
theorem spec_OverOf.calls (k : Nat) (a0_0 : Int) (a0_1 : Int) (r1 : Int) (r2 : Int) (w : World) (H : spec_OverOf.f k a0_0 a0_1 = some (r1, r2)) :
  Calls prog 128 #[.agg #[.int .i64 a0_0, .int .i64 a0_1]] w fun e w' => e = .returned (.agg #[.int .i64 r1, .int .i64 r2]) ∧ Below w.heap.size w w' := by
 have hu31 := underlying31
 have HB := sqh w
 unfold spec_OverOf.f at H
 obtain ⟨t0, A2, H⟩ := sqD H
 by_cases c3 : t0 = true
 ·subst c3
  rw [if_pos rfl] at H
  obtain ⟨⟨t1, t2, t3⟩, A4, H⟩ := sqD H
  try dsimp only at H
  obtain ⟨rfl, rfl⟩ := sqO2 H
  go_enter func128, ntmps128
  go_wp2_with (first | ((with_reducible refine sqd 1 rfl ?_); refine sqBx w (sqB HB) (cs := #[.int .i64 a0_0, .int .i64 a0_1]) (t := 31) ?_; intro g0 hg w5 B0 E0 HB hb; clear hb hg) | ((with_reducible refine sqd 2 rfl ?_); refine sqBx w (sqB1 HB E0) (cs := #[.int .i64 0, .int .i64 0]) (t := 31) ?_; intro g1 hg w6 B2 E1 HB hb; obtain ⟨N0, N1⟩ := sqM hg B0; replace B0 := sqT B0 hb; clear hb hg; have := N0.1; have := N1.1; obtain ⟨_, _, _, _⟩ := sqY2 B0) | ((with_reducible refine sqc 77 rfl ?_); refine sqC (some 6) func77 #[.agg #[.int .i64 a0_0, .int .i64 a0_1]] ?_; (with_reducible refine (spec_FractionOk.calls k a0_0 a0_1 true _ A2.1).mono ?_); refine sqV fun w9 hb => ?_; replace B0 := sqT B0 hb; replace B2 := sqT B2 hb; replace HB := sqS (sqB2 HB E0 E1) hb; (try clear hb); obtain ⟨_, _, _, _⟩ := sqY2 B0) | ((with_reducible refine sqc 136 rfl ?_); refine sqC (some 15) func136 #[.int .i64 (wrap64 (-a0_1)), .int .i64 a0_0] ?_; (with_reducible refine (spec_LowestOf.calls k (wrap64 (-a0_1)) a0_0 t1 t2 t3 _ A4.1).mono ?_); refine sqV fun w11 hb => ?_; replace B0 := sqT B0 hb; replace B2 := sqT B2 hb; replace HB := sqS (sqB2 HB E0 E1) hb; (try clear hb)) | ((with_reducible refine sqd 3 rfl ?_); refine sqBx w (sqB2 HB E0 E1) (cs := #[.int .i64 0, .int .i64 0]) (t := 31) ?_; intro g2 hg w12 B9 E2 HB hb; obtain ⟨N2, N3⟩ := sqM hg B0; replace B0 := sqT B0 hb; obtain ⟨N4, N5⟩ := sqM hg B2; replace B2 := sqT B2 hb; clear hb hg; have := N3.1; have := N2.1; have := N5.1; have := N4.1; obtain ⟨_, _, _, _⟩ := sqY2 B9; obtain ⟨_, _, _, _⟩ := sqY2 B2))
  refine bodyPost_ret (results_cell_row rfl _ _ g1 31 #[.int .i64 t1, .int .i64 t2] (0, 0) _ rfl (by refine sqPut (cs := #[.int .i64 t1, .int .i64 0]) ?_ 1; refine sqPut (cs := #[.int .i64 0, .int .i64 0]) ?_ 0; refine sqFar ?_ N4; refine sqFar ?_ N4; exact sqK B2) underlying31 rfl (by kernel_rfl)) rfl ?_
  exact ⟨Z16, sqB3 HB E0 E1 E2⟩
 obtain rfl := sqb c3
 rw [if_neg sqF] at H
 obtain ⟨rfl, rfl⟩ := sqO2 H
 go_enter func128, ntmps128
 go_wp2_with (first | ((with_reducible refine sqd 1 rfl ?_); refine sqBx w (sqB HB) (cs := #[.int .i64 a0_0, .int .i64 a0_1]) (t := 31) ?_; intro g0 hg w17 B0 E0 HB hb; clear hb hg) | ((with_reducible refine sqd 2 rfl ?_); refine sqBx w (sqB1 HB E0) (cs := #[.int .i64 0, .int .i64 0]) (t := 31) ?_; intro g1 hg w18 B2 E1 HB hb; obtain ⟨N0, N1⟩ := sqM hg B0; replace B0 := sqT B0 hb; clear hb hg; have := N0.1; have := N1.1; obtain ⟨_, _, _, _⟩ := sqY2 B0) | ((with_reducible refine sqc 77 rfl ?_); refine sqC (some 6) func77 #[.agg #[.int .i64 a0_0, .int .i64 a0_1]] ?_; (with_reducible refine (spec_FractionOk.calls k a0_0 a0_1 false _ A2.1).mono ?_); refine sqV fun w21 hb => ?_; replace B0 := sqT B0 hb; replace B2 := sqT B2 hb; replace HB := sqS (sqB2 HB E0 E1) hb; (try clear hb); obtain ⟨_, _, _, _⟩ := sqY2 B2))
 refine bodyPost_ret (results_cell_row rfl _ _ g1 31 #[.int .i64 0, .int .i64 0] (0, 0) _ rfl (Z54 B2) underlying31 rfl (by kernel_rfl)) rfl ?_
 exact ⟨Z16, sqB2 HB E0 E1⟩

/-! ### spec_UntiedOf: function 90 -/
mutual
def spec_UntiedOf.j0 : Nat → Bool → Int → Int → Option (ByteArray × Bool)
 | 0, _, _, _ => none
 | k + 1, x19, x0, x1 => if x19 = true then (some ((⟨#[]⟩ : ByteArray), false)) else (spec_UntiedOf.l0 k (⟨#[]⟩ : ByteArray) x0 x1)
def spec_UntiedOf.l0 : Nat → ByteArray → Int → Int → Option (ByteArray × Bool)
 | 0, _, _, _ => none
 | k + 1, x4, x0, x1 => if x0 = 0 then (some (x4, true)) else (if x0 < 0 then ((spec_PlusOf.f k x0 x1 1).bind fun bt0 => (if x4.size + 1 ≤ 9223372036854775807 then (spec_UntiedOf.l0 k (x4 ++ (⟨#[84]⟩ : ByteArray)) bt0.1 bt0.2.1) else (none))) else ((spec_OverOf.f k x0 x1).bind fun bt1 => (if x4.size + 1 ≤ 9223372036854775807 then (spec_UntiedOf.l0 k (x4 ++ (⟨#[82]⟩ : ByteArray)) bt1.1 bt1.2) else (none))))
end
def spec_UntiedOf.f (k : Nat) (a0_0 : Int) (a0_1 : Int) : Option (ByteArray × Bool) := (spec_FractionOk.f k a0_0 a0_1).bind fun t0 => (if t0 = true then ((spec_l1In.f a0_0 (-12) 12).bind fun t1 => (if t1 = true then (spec_UntiedOf.j0 k (decide (a0_1 > 12)) a0_0 a0_1) else (spec_UntiedOf.j0 k true a0_0 a0_1))) else (spec_UntiedOf.j0 k true a0_0 a0_1))
abbrev spec_UntiedOf.M (k : Nat) : Prop := (∀ y0 y1 y2, LeO (spec_UntiedOf.j0 k y0 y1 y2) (spec_UntiedOf.j0 (k + 1) y0 y1 y2)) ∧ (∀ y0 y1 y2, LeO (spec_UntiedOf.l0 k y0 y1 y2) (spec_UntiedOf.l0 (k + 1) y0 y1 y2))
theorem spec_UntiedOf.mono_t : ∀ k, spec_UntiedOf.M k → spec_UntiedOf.M (k + 1) ∧ ∀ a0 a1, LeO (spec_UntiedOf.f k a0 a1) (spec_UntiedOf.f (k + 1) a0 a1) := by
  rintro k ⟨ih0, ih1⟩
  refine ⟨⟨?_, ?_⟩, ?_⟩ <;> intros <;> (first | unfold spec_UntiedOf.j0 | unfold spec_UntiedOf.l0 | unfold spec_UntiedOf.f) <;> repeat' (with_reducible first | exact ih0 _ _ _ | exact ih1 _ _ _ | exact spec_FractionOk.mono _ _ _ | exact spec_OverOf.mono _ _ _ | exact spec_PlusOf.mono _ _ _ _ | exact LeO.refl _ | exact LeO.none _ | refine LeO.ite ?_ ?_ | refine LeO.bind ?_ fun _ => ?_)
theorem spec_UntiedOf.mono_l : ∀ k, spec_UntiedOf.M k
 | 0 => ⟨fun _ _ _ r h => by simp [spec_UntiedOf.j0] at h, fun _ _ _ r h => by simp [spec_UntiedOf.l0] at h⟩
 | k + 1 => (spec_UntiedOf.mono_t k (spec_UntiedOf.mono_l k)).1
theorem spec_UntiedOf.mono a0 a1 k : LeO (spec_UntiedOf.f k a0 a1) (spec_UntiedOf.f (k + 1) a0 a1) := (spec_UntiedOf.mono_t k (spec_UntiedOf.mono_l k)).2 a0 a1
theorem spec_UntiedOf.calls (k : Nat) (a0_0 : Int) (a0_1 : Int) (r1 : ByteArray) (r2 : Bool) (w : World) (H : spec_UntiedOf.f k a0_0 a0_1 = some (r1, r2)) :
  Calls prog 90 #[.agg #[.int .i64 a0_0, .int .i64 a0_1]] w fun e w' => e = .returned (.tuple #[.string r1, .bool r2]) ∧ Below w.heap.size w w' := by
 have hu31 := underlying31
 have HB := sqh w
 unfold spec_UntiedOf.f at H
 have HC2 := sqa H
 clear H
 go_enter func90, ntmps90
 go_upto_region 1 with (first | ((with_reducible refine sqd 1 rfl ?_); refine sqBx w (sqB HB) (cs := #[.int .i64 a0_0, .int .i64 a0_1]) (t := 31) ?_; intro g0 hg w3 B0 E0 HB hb; clear hb hg))
 (try simp only [Act.put, List.setIfInBounds_toArray, List.set_cons_zero, List.set_cons_succ])
 go_cut [19] (fun v19 wc => ∃ (kq : Nat) (x19_1 : Bool), v19 = .bool x19_1 ∧ Aside0 (spec_UntiedOf.j0 kq x19_1 a0_0 a0_1 = some (r1, r2)) ∧ Aside0 (kq ≤ k) ∧ Aside0 (wc.heap[g0]? = some (.cells #[.int .i64 a0_0, .int .i64 a0_1] 31 (0, 0))) ∧ Aside0 (Below w.heap.size w wc))
 case first =>
  have H := HC2.1
  clear HC2
  obtain ⟨t0, A4, H⟩ := sqD H
  by_cases c5 : t0 = true
  ·subst c5
   rw [if_pos rfl] at H
   obtain ⟨t1, A6, H⟩ := sqD H
   by_cases c7 : t1 = true
   ·subst c7
    rw [if_pos rfl] at H
    have H' := sqa H
    clear H
    obtain ⟨_, _, _, _⟩ := sqY2 B0
    go_wp2_with (first | ((with_reducible refine sqc 77 rfl ?_); refine sqC (some 7) func77 #[.agg #[.int .i64 a0_0, .int .i64 a0_1]] ?_; (with_reducible refine (spec_FractionOk.calls k a0_0 a0_1 true _ A4.1).mono ?_); refine sqV fun w9 hb => ?_; replace B0 := sqT B0 hb; replace HB := sqS (sqB1 HB E0) hb; (try clear hb); obtain ⟨_, _, _, _⟩ := sqY2 B0) | (go_at_call 101; (with_reducible refine (spec_l1In.calls a0_0 (-12) 12 true _ A6.1).mono ?_); rintro e w' ⟨rfl, ⟨nd, rfl⟩⟩))
    go_meet
    case rel => exact ⟨_, (decide (a0_1 > 12)), Z4, H', ⟨Z5⟩, ⟨sqK B0⟩, ⟨sqB1 HB E0⟩⟩
   obtain rfl := sqb c7
   rw [if_neg sqF] at H
   have H' := sqa H
   clear H
   obtain ⟨_, _, _, _⟩ := sqY2 B0
   go_wp2_with (first | ((with_reducible refine sqc 77 rfl ?_); refine sqC (some 7) func77 #[.agg #[.int .i64 a0_0, .int .i64 a0_1]] ?_; (with_reducible refine (spec_FractionOk.calls k a0_0 a0_1 true _ A4.1).mono ?_); refine sqV fun w12 hb => ?_; replace B0 := sqT B0 hb; replace HB := sqS (sqB1 HB E0) hb; (try clear hb); obtain ⟨_, _, _, _⟩ := sqY2 B0) | (go_at_call 101; (with_reducible refine (spec_l1In.calls a0_0 (-12) 12 false _ A6.1).mono ?_); rintro e w' ⟨rfl, ⟨nd, rfl⟩⟩))
   go_meet
   case rel => exact ⟨_, (true), Z4, H', ⟨Z5⟩, ⟨sqK B0⟩, ⟨sqB1 HB E0⟩⟩
  obtain rfl := sqb c5
  rw [if_neg sqF] at H
  have H' := sqa H
  clear H
  obtain ⟨_, _, _, _⟩ := sqY2 B0
  go_wp2_with (first | ((with_reducible refine sqc 77 rfl ?_); refine sqC (some 7) func77 #[.agg #[.int .i64 a0_0, .int .i64 a0_1]] ?_; (with_reducible refine (spec_FractionOk.calls k a0_0 a0_1 false _ A4.1).mono ?_); refine sqV fun w15 hb => ?_; replace B0 := sqT B0 hb; replace HB := sqS (sqB1 HB E0) hb; (try clear hb)))
  go_meet
  case rel => exact ⟨_, (true), Z4, H', ⟨Z5⟩, ⟨sqK B0⟩, ⟨sqB1 HB E0⟩⟩
 case rest =>
  clear HC2
  obtain ⟨kq, x19_1, rfl, HA, HJ1, B0, HB⟩ := hcut
  cases kq with
  | zero => exact absurd HA.out (by simp [spec_UntiedOf.j0])
  | succ kj1 =>
   have H := HA.out
   clear HA
   simp only [spec_UntiedOf.j0] at H
   by_cases c16 : x19_1 = true
   ·subst c16
    rw [if_pos rfl] at H
    obtain ⟨rfl, rfl⟩ := sqO2 H
    go_wp2
    go_ret2
    exact ⟨Z16, sqB1 HB E0⟩
   obtain rfl := sqb c16
   rw [if_neg sqF] at H
   have H' := sqa H
   clear H
   obtain ⟨_, _, _, _⟩ := sqY2 B0
   go_wp2_with (first | ((with_reducible refine sqd 5 rfl ?_); refine sqBx w (sqB1 HB E0) (cs := #[.int .i64 0, .int .i64 0]) (t := 31) ?_; intro g1 hg w18 B2 E1 HB hb; obtain ⟨N0, N1⟩ := sqM hg B0; replace B0 := sqT B0 hb; clear hb hg; have := N1.1; have := N0.1; obtain ⟨_, _, _, _⟩ := sqY2 B2))
   go_loopg [4] kj1 (fun kq v4 w' => ∃ (x4_2 : ByteArray) (x0 : Int) (x1 : Int), v4 = .string x4_2 ∧ Aside0 (spec_UntiedOf.l0 kq x4_2 x0 x1 = some (r1, r2)) ∧ Aside0 (kq ≤ kj1) ∧ Aside0 (w'.heap[g0]? = some (.cells #[.int .i64 a0_0, .int .i64 a0_1] 31 (0, 0))) ∧ Aside0 (w'.heap[g1]? = some (.cells #[.int .i64 x0, .int .i64 x1] 31 (0, 0))) ∧ Aside0 (Below w.heap.size w w'))
   case atStart => exact ⟨((⟨#[]⟩ : ByteArray)), (a0_0), (a0_1), Z4, H', ⟨Nat.le_refl _⟩, ⟨Z11 N0 B0⟩, ⟨Z27 B2⟩, ⟨sqB2 HB E0 E1⟩⟩
   case round =>
    clear H'
    obtain ⟨x4_2, x0, x1, rfl, HA, HK2, B0, B2, HB⟩ := hrel
    cases gk with
    | zero => exact absurd HA.out (by simp [spec_UntiedOf.l0])
    | succ k2 =>
     have H := HA.out
     clear HA
     simp only [spec_UntiedOf.l0] at H
     by_cases c21 : x0 = 0
     ·rw [if_pos c21] at H
      have c21b0 : (x0 == 0) = true := sqe1 c21
      have c21b1 : (x0 != 0) = false := sqn0 c21
      clear c21
      obtain ⟨rfl, rfl⟩ := sqO2 H
      have := N1.1
      have := N0.1
      obtain ⟨_, _, _, _⟩ := sqY2 B2
      go_wp2
      go_ret2
      exact ⟨Z16, sqB2 HB E0 E1⟩
     rw [if_neg c21] at H
     have c21b0 : (x0 == 0) = false := sqe0 c21
     have c21b1 : (x0 != 0) = true := sqn1 c21
     by_cases c24 : x0 < 0
     ·rw [if_pos c24] at H
      have c24b0 : decide (x0 < 0) = true := decide_eq_true c24
      clear c24
      obtain ⟨⟨t2, t3, t4⟩, A25, H⟩ := sqD H
      try dsimp only at H
      obtain ⟨c26, H⟩ := sqI H
      have c26b0 := eq_true c26
      have c26b1 : decide (x4_2.size + 1 ≤ 9223372036854775807) = true := decide_eq_true c26
      try have c26b2 : (9223372036854775807 < x4_2.size + 1) = False := eq_false (Nat.not_lt.2 c26)
      have H' := sqa H
      clear H
      have := N1.1
      have := N0.1
      obtain ⟨_, _, _, _⟩ := sqY2 B2
      go_wp2_with (first | ((with_reducible refine sqc 127 rfl ?_); refine sqC (some 29) func127 #[.agg #[.int .i64 x0, .int .i64 x1], .int .i64 1] ?_; (with_reducible refine (spec_PlusOf.calls k2 x0 x1 1 t2 t3 t4 _ A25.1).mono ?_); refine sqV fun w29 hb => ?_; replace B0 := sqT B0 hb; replace B2 := sqT B2 hb; replace HB := sqS (sqB2 HB E0 E1) hb; (try clear hb); obtain ⟨_, _, _, _⟩ := sqY2 B2))
      go_roundg k2
      case measure => have := HJ1.out; have := HK2.out; omega
      case rel => exact ⟨(x4_2 ++ (⟨#[84]⟩ : ByteArray)), (t2), (t3), Z4, H', ⟨by have := HJ1.out; have := HK2.out; omega⟩, ⟨Z11 N0 B0⟩, ⟨by refine sqPut (cs := #[.int .i64 t2, .int .i64 x1]) ?_ 1; refine sqPut (cs := #[.int .i64 x0, .int .i64 x1]) ?_ 0; exact sqK B2⟩, ⟨sqB2 HB E0 E1⟩⟩
     rw [if_neg c24] at H
     have c24b0 : decide (x0 < 0) = false := decide_eq_false c24
     clear c24
     obtain ⟨⟨t5, t6⟩, A31, H⟩ := sqD H
     try dsimp only at H
     obtain ⟨c32, H⟩ := sqI H
     have c32b0 := eq_true c32
     have c32b1 : decide (x4_2.size + 1 ≤ 9223372036854775807) = true := decide_eq_true c32
     try have c32b2 : (9223372036854775807 < x4_2.size + 1) = False := eq_false (Nat.not_lt.2 c32)
     have H' := sqa H
     clear H
     have := N1.1
     have := N0.1
     obtain ⟨_, _, _, _⟩ := sqY2 B2
     go_wp2_with (first | ((with_reducible refine sqc 128 rfl ?_); refine sqC (some 35) func128 #[.agg #[.int .i64 x0, .int .i64 x1]] ?_; (with_reducible refine (spec_OverOf.calls k2 x0 x1 t5 t6 _ A31.1).mono ?_); refine sqV fun w35 hb => ?_; replace B0 := sqT B0 hb; replace B2 := sqT B2 hb; replace HB := sqS (sqB2 HB E0 E1) hb; (try clear hb); obtain ⟨_, _, _, _⟩ := sqY2 B2))
     go_roundg k2
     case measure => have := HJ1.out; have := HK2.out; omega
     case rel => exact ⟨(x4_2 ++ (⟨#[82]⟩ : ByteArray)), (t5), (t6), Z4, H', ⟨by have := HJ1.out; have := HK2.out; omega⟩, ⟨Z11 N0 B0⟩, ⟨by refine sqPut (cs := #[.int .i64 t5, .int .i64 x1]) ?_ 1; refine sqPut (cs := #[.int .i64 x0, .int .i64 x1]) ?_ 0; exact sqK B2⟩, ⟨sqB2 HB E0 E1⟩⟩

/-! ### spec_DanceOk: function 134 -/
def spec_DanceOk.l0 : Nat → ByteArray → Int → Option (Bool)
 | 0, _, _ => none
 | k + 1, x0, x3 => if x3 < (x0.size : Int) then (if 0 ≤ x3 then (if (bt x0 x3) = 84 then (spec_DanceOk.l0 k x0 (wrap64 (x3 + 1))) else (if (bt x0 x3) = 116 then (spec_DanceOk.l0 k x0 (wrap64 (x3 + 1))) else (if (bt x0 x3) = 82 then (spec_DanceOk.l0 k x0 (wrap64 (x3 + 1))) else (some false)))) else (none)) else (some (decide ((x0.size : Int) ≤ 40)))
def spec_DanceOk.f (k : Nat) (a0 : ByteArray) : Option (Bool) := spec_DanceOk.l0 k a0 0
abbrev spec_DanceOk.M (k : Nat) : Prop := (∀ y0 y1, LeO (spec_DanceOk.l0 k y0 y1) (spec_DanceOk.l0 (k + 1) y0 y1))
theorem spec_DanceOk.mono_t : ∀ k, spec_DanceOk.M k → spec_DanceOk.M (k + 1) ∧ ∀ a0, LeO (spec_DanceOk.f k a0) (spec_DanceOk.f (k + 1) a0) := by
  rintro k ih0
  refine ⟨?_, ?_⟩ <;> (try unfold spec_DanceOk.M) <;> intros <;> (first | unfold spec_DanceOk.l0 | unfold spec_DanceOk.f) <;> repeat' (with_reducible first | exact ih0 _ _ | exact LeO.refl _ | exact LeO.none _ | refine LeO.ite ?_ ?_ | refine LeO.bind ?_ fun _ => ?_)
theorem spec_DanceOk.mono_l : ∀ k, spec_DanceOk.M k
 | 0 => fun _ _ r h => by simp [spec_DanceOk.l0] at h
 | k + 1 => (spec_DanceOk.mono_t k (spec_DanceOk.mono_l k)).1
theorem spec_DanceOk.mono a0 k : LeO (spec_DanceOk.f k a0) (spec_DanceOk.f (k + 1) a0) := (spec_DanceOk.mono_t k (spec_DanceOk.mono_l k)).2 a0
theorem spec_DanceOk.calls (k : Nat) (a0 : ByteArray) (r : Bool) (w : World) (H : spec_DanceOk.f k a0 = some r) :
  Calls prog 134 #[.string a0] w fun e w' => e = .returned (.bool r) ∧ Drawn0 w w' := by
 unfold spec_DanceOk.f at H
 have H' := sqa H
 clear H
 go_enter func134, ntmps134
 go_wp2
 go_loopg [3] k (fun kq v3 w' => ∃ (x3_1 : Int), v3 = .int .i64 x3_1 ∧ Aside0 (spec_DanceOk.l0 kq a0 x3_1 = some r) ∧ Aside0 (kq ≤ k) ∧ Drawn0 w w')
 case atStart => exact ⟨(0), Z4, H', ⟨Nat.le_refl _⟩, Z51⟩
 case round =>
  clear H'
  obtain ⟨x3_1, rfl, HA, HK1, ⟨m1, rfl⟩⟩ := hrel
  cases gk with
  | zero => exact absurd HA.out (by simp [spec_DanceOk.l0])
  | succ k1 =>
   have H := HA.out
   clear HA
   simp only [spec_DanceOk.l0] at H
   by_cases c2 : x3_1 < (a0.size : Int)
   ·rw [if_pos c2] at H
    have c2b0 : decide (x3_1 < (a0.size : Int)) = true := decide_eq_true c2
    clear c2
    obtain ⟨c3, H⟩ := sqI H
    have c3b0 : decide (0 ≤ x3_1) = true := decide_eq_true c3
    clear c3
    by_cases c5 : (bt a0 x3_1) = 84
    ·rw [if_pos c5] at H
     have c5b0 : ((bt a0 x3_1) == 84) = true := sqe1 c5
     have c5b1 : ((bt a0 x3_1) != 84) = false := sqn0 c5
     clear c5
     have H' := sqa H
     clear H
     have p4 : 0 ≤ (x3_1 : Int) := of_decide_eq_true Z9
     have q4 : x3_1 < (a0.size : Int) := of_decide_eq_true Z9
     have hx4 := bt_at a0 x3_1
     replace p4 := eq_true p4
     replace q4 := eq_true q4
     go_wp2
     go_roundg k1
     case measure => have := HK1.out; omega
     case rel => exact ⟨(wrap64 (x3_1 + 1)), Z4, H', ⟨Z17 HK1⟩, Z51⟩
    rw [if_neg c5] at H
    have c5b0 : ((bt a0 x3_1) == 84) = false := sqe0 c5
    have c5b1 : ((bt a0 x3_1) != 84) = true := sqn1 c5
    by_cases c7 : (bt a0 x3_1) = 116
    ·rw [if_pos c7] at H
     have c7b0 : ((bt a0 x3_1) == 116) = true := sqe1 c7
     have c7b1 : ((bt a0 x3_1) != 116) = false := sqn0 c7
     clear c7
     have H' := sqa H
     clear H
     have p4 : 0 ≤ (x3_1 : Int) := of_decide_eq_true Z9
     have q4 : x3_1 < (a0.size : Int) := of_decide_eq_true Z9
     have hx4 := bt_at a0 x3_1
     replace p4 := eq_true p4
     replace q4 := eq_true q4
     have p6 : 0 ≤ (x3_1 : Int) := of_decide_eq_true Z9
     have q6 : x3_1 < (a0.size : Int) := of_decide_eq_true Z9
     have hx6 := bt_at a0 x3_1
     replace p6 := eq_true p6
     replace q6 := eq_true q6
     go_wp2
     go_roundg k1
     case measure => have := HK1.out; omega
     case rel => exact ⟨(wrap64 (x3_1 + 1)), Z4, H', ⟨Z17 HK1⟩, Z51⟩
    rw [if_neg c7] at H
    have c7b0 : ((bt a0 x3_1) == 116) = false := sqe0 c7
    have c7b1 : ((bt a0 x3_1) != 116) = true := sqn1 c7
    by_cases c9 : (bt a0 x3_1) = 82
    ·rw [if_pos c9] at H
     have c9b0 : ((bt a0 x3_1) == 82) = true := sqe1 c9
     have c9b1 : ((bt a0 x3_1) != 82) = false := sqn0 c9
     clear c9
     have H' := sqa H
     clear H
     have p4 : 0 ≤ (x3_1 : Int) := of_decide_eq_true Z9
     have q4 : x3_1 < (a0.size : Int) := of_decide_eq_true Z9
     have hx4 := bt_at a0 x3_1
     replace p4 := eq_true p4
     replace q4 := eq_true q4
     have p6 : 0 ≤ (x3_1 : Int) := of_decide_eq_true Z9
     have q6 : x3_1 < (a0.size : Int) := of_decide_eq_true Z9
     have hx6 := bt_at a0 x3_1
     replace p6 := eq_true p6
     replace q6 := eq_true q6
     have p8 : 0 ≤ (x3_1 : Int) := of_decide_eq_true Z9
     have q8 : x3_1 < (a0.size : Int) := of_decide_eq_true Z9
     have hx8 := bt_at a0 x3_1
     replace p8 := eq_true p8
     replace q8 := eq_true q8
     go_wp2
     go_roundg k1
     case measure => have := HK1.out; omega
     case rel => exact ⟨(wrap64 (x3_1 + 1)), Z4, H', ⟨Z17 HK1⟩, Z51⟩
    rw [if_neg c9] at H
    have c9b0 : ((bt a0 x3_1) == 82) = false := sqe0 c9
    have c9b1 : ((bt a0 x3_1) != 82) = true := sqn1 c9
    obtain rfl := sqo H
    have p4 : 0 ≤ (x3_1 : Int) := of_decide_eq_true Z9
    have q4 : x3_1 < (a0.size : Int) := of_decide_eq_true Z9
    have hx4 := bt_at a0 x3_1
    replace p4 := eq_true p4
    replace q4 := eq_true q4
    have p6 : 0 ≤ (x3_1 : Int) := of_decide_eq_true Z9
    have q6 : x3_1 < (a0.size : Int) := of_decide_eq_true Z9
    have hx6 := bt_at a0 x3_1
    replace p6 := eq_true p6
    replace q6 := eq_true q6
    have p8 : 0 ≤ (x3_1 : Int) := of_decide_eq_true Z9
    have q8 : x3_1 < (a0.size : Int) := of_decide_eq_true Z9
    have hx8 := bt_at a0 x3_1
    replace p8 := eq_true p8
    replace q8 := eq_true q8
    go_wp2
    go_ret
    exact ⟨Z4, Z51⟩
   rw [if_neg c2] at H
   have c2b0 : decide (x3_1 < (a0.size : Int)) = false := decide_eq_false c2
   clear c2
   obtain rfl := sqo H
   go_wp2
   go_ret
   exact ⟨Z4, Z51⟩

/-! ### spec_l2Move: function 135 -/
def spec_l2Move.f (k : Nat) (a0_0 : Int) (a0_1 : Int) (a1 : Int) : Option (Int × Int × Bool) := if a1 = 84 then ((spec_PlusOf.f k a0_0 a0_1 1).bind fun bt0 => (some (bt0.1, bt0.2.1, bt0.2.2))) else (if a1 = 116 then ((spec_PlusOf.f k a0_0 a0_1 (-1)).bind fun bt1 => (some (bt1.1, bt1.2.1, bt1.2.2))) else ((spec_OverOf.f k a0_0 a0_1).bind fun bt2 => ((spec_FractionOk.f k a0_0 a0_1).bind fun t0 => (some (bt2.1, bt2.2, t0)))))
theorem spec_l2Move.mono : ∀ a0 a1 a2 k, LeO (spec_l2Move.f k a0 a1 a2) (spec_l2Move.f (k + 1) a0 a1 a2) := by
 intro a0 a1 a2 k
 unfold spec_l2Move.f
 repeat' (with_reducible first | exact spec_FractionOk.mono _ _ _ | exact spec_OverOf.mono _ _ _ | exact spec_PlusOf.mono _ _ _ _ | exact LeO.refl _ | exact LeO.none _ | refine LeO.ite ?_ ?_ | refine LeO.bind ?_ fun _ => ?_)
theorem spec_l2Move.calls (k : Nat) (a0_0 : Int) (a0_1 : Int) (a1 : Int) (r1 : Int) (r2 : Int) (r3 : Bool) (w : World) (H : spec_l2Move.f k a0_0 a0_1 a1 = some (r1, r2, r3)) :
  Calls prog 135 #[.agg #[.int .i64 a0_0, .int .i64 a0_1], .int .u8 a1] w fun e w' => e = .returned (.tuple #[.agg #[.int .i64 r1, .int .i64 r2], .bool r3]) ∧ Below w.heap.size w w' := by
 have hu31 := underlying31
 have HB := sqh w
 unfold spec_l2Move.f at H
 by_cases c3 : a1 = 84
 ·rw [if_pos c3] at H
  have c3b0 : (a1 == 84) = true := sqe1 c3
  have c3b1 : (a1 != 84) = false := sqn0 c3
  clear c3
  obtain ⟨⟨t0, t1, t2⟩, A4, H⟩ := sqD H
  try dsimp only at H
  obtain ⟨rfl, rfl, rfl⟩ := sqO3 H
  go_enter func135, ntmps135
  go_wp2_with (first | ((with_reducible refine sqd 2 rfl ?_); refine sqBx w (sqB HB) (cs := #[.int .i64 a0_0, .int .i64 a0_1]) (t := 31) ?_; intro g0 hg w5 B0 E0 HB hb; clear hb hg) | ((with_reducible refine sqd 4 rfl ?_); refine sqBx w (sqB1 HB E0) (cs := #[.int .i64 0, .int .i64 0]) (t := 31) ?_; intro g1 hg w6 B2 E1 HB hb; obtain ⟨N0, N1⟩ := sqM hg B0; replace B0 := sqT B0 hb; clear hb hg; have := N0.1; have := N1.1; obtain ⟨_, _, _, _⟩ := sqY2 B0) | ((with_reducible refine sqc 127 rfl ?_); refine sqC (some 10) func127 #[.agg #[.int .i64 a0_0, .int .i64 a0_1], .int .i64 1] ?_; (with_reducible refine (spec_PlusOf.calls k a0_0 a0_1 1 t0 t1 t2 _ A4.1).mono ?_); refine sqV fun w9 hb => ?_; replace B0 := sqT B0 hb; replace B2 := sqT B2 hb; replace HB := sqS (sqB2 HB E0 E1) hb; (try clear hb); obtain ⟨_, _, _, _⟩ := sqY2 B2))
  refine sqE g1 31 #[.int .i64 t0, .int .i64 t1] (by refine sqPut (cs := #[.int .i64 t0, .int .i64 0]) ?_ 1; refine sqPut (cs := #[.int .i64 0, .int .i64 0]) ?_ 0; exact sqK B2) underlying31 ?_
  exact ⟨Z16, sqB2 HB E0 E1⟩
 rw [if_neg c3] at H
 have c3b0 : (a1 == 84) = false := sqe0 c3
 have c3b1 : (a1 != 84) = true := sqn1 c3
 by_cases c11 : a1 = 116
 ·rw [if_pos c11] at H
  have c11b0 : (a1 == 116) = true := sqe1 c11
  have c11b1 : (a1 != 116) = false := sqn0 c11
  clear c11
  obtain ⟨⟨t3, t4, t5⟩, A12, H⟩ := sqD H
  try dsimp only at H
  obtain ⟨rfl, rfl, rfl⟩ := sqO3 H
  go_enter func135, ntmps135
  go_wp2_with (first | ((with_reducible refine sqd 2 rfl ?_); refine sqBx w (sqB HB) (cs := #[.int .i64 a0_0, .int .i64 a0_1]) (t := 31) ?_; intro g0 hg w13 B0 E0 HB hb; clear hb hg) | ((with_reducible refine sqd 4 rfl ?_); refine sqBx w (sqB1 HB E0) (cs := #[.int .i64 0, .int .i64 0]) (t := 31) ?_; intro g1 hg w14 B2 E1 HB hb; obtain ⟨N0, N1⟩ := sqM hg B0; replace B0 := sqT B0 hb; clear hb hg; have := N0.1; have := N1.1; obtain ⟨_, _, _, _⟩ := sqY2 B0) | ((with_reducible refine sqc 127 rfl ?_); refine sqC (some 16) func127 #[.agg #[.int .i64 a0_0, .int .i64 a0_1], .int .i64 (-1)] ?_; (with_reducible refine (spec_PlusOf.calls k a0_0 a0_1 (-1) t3 t4 t5 _ A12.1).mono ?_); refine sqV fun w17 hb => ?_; replace B0 := sqT B0 hb; replace B2 := sqT B2 hb; replace HB := sqS (sqB2 HB E0 E1) hb; (try clear hb); obtain ⟨_, _, _, _⟩ := sqY2 B2))
  refine sqE g1 31 #[.int .i64 t3, .int .i64 t4] (by refine sqPut (cs := #[.int .i64 t3, .int .i64 0]) ?_ 1; refine sqPut (cs := #[.int .i64 0, .int .i64 0]) ?_ 0; exact sqK B2) underlying31 ?_
  exact ⟨Z16, sqB2 HB E0 E1⟩
 rw [if_neg c11] at H
 have c11b0 : (a1 == 116) = false := sqe0 c11
 have c11b1 : (a1 != 116) = true := sqn1 c11
 obtain ⟨⟨t6, t7⟩, A19, H⟩ := sqD H
 try dsimp only at H
 obtain ⟨t8, A20, H⟩ := sqD H
 obtain ⟨rfl, rfl, rfl⟩ := sqO3 H
 go_enter func135, ntmps135
 try go_wp2_with (first | ((with_reducible refine sqd 2 rfl ?_); refine sqBx w (sqB HB) (cs := #[.int .i64 a0_0, .int .i64 a0_1]) (t := 31) ?_; intro g0 hg w21 B0 E0 HB hb; clear hb hg) | ((with_reducible refine sqd 4 rfl ?_); refine sqBx w (sqB1 HB E0) (cs := #[.int .i64 0, .int .i64 0]) (t := 31) ?_; intro g1 hg w22 B2 E1 HB hb; obtain ⟨N0, N1⟩ := sqM hg B0; replace B0 := sqT B0 hb; clear hb hg))
 replace B0 := sqa (blk_drew B0.1)
 replace B2 := sqa (blk_drew B2.1)
 replace HB := sqa (below_drew1 HB.1)
 refine start_ (n := 6) (S := fun w' => w'.cell? ⟨g0, 0, none⟩ = some (.int .i64 a0_0) ∧ w'.cell? ⟨g0, 1, none⟩ = some (.int .i64 a0_1)) (ds := []) #[false, false, false, false, false, false] (by kernel_rfl) rfl rfl (sqk1 B0) (fun hHeld => ?_)
 generalize w22.drew = w23 at B0 B2 HB hHeld ⊢
 refine sqQk 0 (some 19) hHeld (h := ?_)
 refine sqQk 2 (some 21) hHeld (h := ?_)
 refine one_ (i := 1) (N := some 20) #[true, true, true, false, false, false] rfl rfl (by kernel_rfl) (by decide) (fun K hK => ?_)
 refine goes_ func128 (by kernel_rfl) rfl #[.agg #[.int .i64 a0_0, .int .i64 a0_1]] (by rfl) rfl rfl sqA ?_
 with_reducible refine (spec_OverOf.calls k a0_0 a0_1 t6 t7 _ A19.1).mono ?_
 rintro e w24 ⟨rfl, hb⟩
 refine ⟨_, rfl, ?_⟩
 replace B0 := sqT B0 hb
 replace B2 := sqT B2 hb
 replace HB := sqS (sqB2 HB E0 E1) hb
 (try clear hb)
 (try clear hb2)
 (try clear hk)
 (try clear hi)
 refine hK.out _ _ (sqk1 B0) (fun hHeld => ?_)
 clear hK K
 refine sqN (some 20) ?_
 refine one_ (i := 3) (N := some 22) #[true, true, true, true, false, false] rfl rfl (by kernel_rfl) (by decide) (fun K hK => ?_)
 refine goes_ func77 (by kernel_rfl) rfl #[.agg #[.int .i64 a0_0, .int .i64 a0_1]] (by rfl) rfl rfl sqA ?_
 with_reducible refine (spec_FractionOk.calls k a0_0 a0_1 t8 _ A20.1).mono ?_
 rintro e w25 ⟨rfl, hb⟩
 refine ⟨_, rfl, ?_⟩
 replace B0 := sqT B0 hb
 replace B2 := sqT B2 hb
 replace HB := sqS (sqB2 HB E0 E1) hb
 (try clear hb)
 (try clear hb2)
 (try clear hk)
 (try clear hi)
 refine hK.out _ _ (sqk1 B0) (fun hHeld => ?_)
 clear hK K
 refine sqN (some 22) ?_
 refine one_ (i := 4) (N := none) #[true, true, true, true, true, false] rfl rfl (by kernel_rfl) (by decide) (fun K hK => ?_)
 have hs26 : w25.cell? ⟨g1, 0, none⟩ = some (.int .i64 0) := (blk_cell B2.1 0).trans rfl
 have hfs26 := blk_frozen B2.1 0
 have hns26_0 := N0.1
 have hms26_0 := N1.1
 have hs27 : w25.cell? ⟨g1, 1, none⟩ = some (.int .i64 0) := (blk_cell B2.1 1).trans rfl
 have hfs27 := blk_frozen B2.1 1
 refine skip_ (w1 := ?_) (by rfl) rfl ?_ ?_
 rotate_left
 ·go_simp
  rfl
 refine hK.out _ _ (sql1 N0 hHeld) (fun hHeld => ?_)
 clear hK K
 refine sqPk 5 (some 5) (h := ?_)
 refine done_ (by kernel_rfl) ?_
 try go_wp2
 refine sqE g1 31 #[.int .i64 t6, .int .i64 t7] (by refine sqPut (cs := #[.int .i64 t6, .int .i64 0]) ?_ 1; refine sqPut (cs := #[.int .i64 0, .int .i64 0]) ?_ 0; exact sqK B2) underlying31 ?_
 exact ⟨Z16, sqB2 HB E0 E1⟩

end Go.Proofs.YtofmlbgfcohhoaaGreatDoor.PFnExactDeskSay
