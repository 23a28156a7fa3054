/- Lean functions of the Go functions that the law FnExactDeskLine reaches, each with its contract: made by a program of this session. -/
import Derived.Test.YtofmlbgfcohhoaaGreatDoorPFnExactDeskLinex13
namespace Go.Proofs.YtofmlbgfcohhoaaGreatDoor.PFnExactDeskLine
open Go.RowKit Go.Proofs.YtofmlbgfcohhoaaGreatDoorW.PrintWords Go.Proofs.YtofmlbgfcohhoaaGreatDoorW.PrintLast Go.Proofs.YtofmlbgfcohhoaaGreatDoorW.PrintMore Go.Proofs.YtofmlbgfcohhoaaGreatDoor.Lib
attribute [local go_sem] max2_int min2_int max_two min_two max_three min_three max_four min_four   -- for this text's walks alone
set_option linter.unusedVariables false
set_option linter.unusedSimpArgs false

/-! ### spec_UntiedOf: function 90 -/
mutual
def spec_UntiedOf.j0 : Nat → Bool → Int → Int → Option (ByteArray × Bool)
 | 0, _, _, _ => none
 | k + 1, x19, x430000, x430001 => if x19 = true then (some ((⟨#[]⟩ : ByteArray), false)) else (spec_UntiedOf.l0 k (⟨#[]⟩ : ByteArray) x430000 x430001)
def spec_UntiedOf.l0 : Nat → ByteArray → Int → Int → Option (ByteArray × Bool)
 | 0, _, _, _ => none
 | k + 1, x4, x433000, x433001 => if x433000 = 0 then (some (x4, true)) else (if x433000 < 0 then ((spec_PlusOf.f k x433000 x433001 1).bind fun bt433 => (if x4.size + 1 ≤ 9223372036854775807 then (spec_UntiedOf.l0 k (x4 ++ (⟨#[84]⟩ : ByteArray)) bt433.1 bt433.2.1) else (none))) else ((spec_OverOf.f k x433000 x433001).bind fun bt436 => (if x4.size + 1 ≤ 9223372036854775807 then (spec_UntiedOf.l0 k (x4 ++ (⟨#[82]⟩ : ByteArray)) bt436.1 bt436.2) else (none))))
end
def spec_UntiedOf.f (k : Nat) (a0_0 : Int) (a0_1 : Int) : Option (ByteArray × Bool) := (spec_FractionOk.f k a0_0 a0_1).bind fun t430 => (if t430 = true then ((spec_l1In.f a0_0 (-12) 12).bind fun t431 => (if t431 = true then (spec_UntiedOf.j0 k (decide (a0_1 > 12)) a0_0 a0_1) else (spec_UntiedOf.j0 k true a0_0 a0_1))) else (spec_UntiedOf.j0 k true a0_0 a0_1))
abbrev spec_UntiedOf.M (k : Nat) : Prop := (∀ y0 y1 y2, LeO (spec_UntiedOf.j0 k y0 y1 y2) (spec_UntiedOf.j0 (k + 1) y0 y1 y2)) ∧ (∀ y0 y1 y2, LeO (spec_UntiedOf.l0 k y0 y1 y2) (spec_UntiedOf.l0 (k + 1) y0 y1 y2))
theorem spec_UntiedOf.mono_t : ∀ k, spec_UntiedOf.M k → spec_UntiedOf.M (k + 1) ∧ ∀ a0 a1, LeO (spec_UntiedOf.f k a0 a1) (spec_UntiedOf.f (k + 1) a0 a1) := by
  rintro k ⟨ih0, ih1⟩
  refine ⟨⟨?_, ?_⟩, ?_⟩ <;> intros <;> (first | unfold spec_UntiedOf.j0 | unfold spec_UntiedOf.l0 | unfold spec_UntiedOf.f) <;> repeat' (with_reducible first | exact ih0 _ _ _ | exact ih1 _ _ _ | exact spec_FractionOk.mono _ _ _ | exact spec_OverOf.mono _ _ _ | exact spec_PlusOf.mono _ _ _ _ | exact LeO.refl _ | exact LeO.none _ | refine LeO.ite ?_ ?_ | refine LeO.bind ?_ fun _ => ?_)
theorem spec_UntiedOf.mono_l : ∀ k, spec_UntiedOf.M k
 | 0 => ⟨fun _ _ _ r h => by simp [spec_UntiedOf.j0] at h, fun _ _ _ r h => by simp [spec_UntiedOf.l0] at h⟩
 | k + 1 => (spec_UntiedOf.mono_t k (spec_UntiedOf.mono_l k)).1
theorem spec_UntiedOf.mono a0 a1 k : LeO (spec_UntiedOf.f k a0 a1) (spec_UntiedOf.f (k + 1) a0 a1) := (spec_UntiedOf.mono_t k (spec_UntiedOf.mono_l k)).2 a0 a1
set_option maxHeartbeats 8000000 in
set_option maxRecDepth 100000 in
theorem spec_UntiedOf.calls (k : Nat) (a0_0 : Int) (a0_1 : Int) (r1 : ByteArray) (r2 : Bool) (w : World) (h : spec_UntiedOf.f k a0_0 a0_1 = some (r1, r2)) :
  Calls Tryz.prog 90 #[.agg #[.int .i64 a0_0, .int .i64 a0_1]] w fun e w' => e = .returned (.tuple #[.string r1, .bool r2]) ∧ Below w.heap.size w w' := by
 have hu31 := Tryz.underlying31
 have HB := Aside0.mk (Below.refl w.heap.size w)
 unfold spec_UntiedOf.f at h
 have H := h
 clear h
 have HC2 := Aside0.mk H
 clear H
 go_enter Tryz.func90, Tryz.ntmps90
 go_upto_region 1 with (first | ((with_reducible refine gate_dst (N := 1) rfl ?_); refine sqBx w (sqB HB) (N := 1) (cs := #[.int .i64 a0_0, .int .i64 a0_1]) (t := 31) ?_; intro gb429 hg w3 BK429 GE429 HB hb; clear hb hg))
 (try simp only [Act.put, List.setIfInBounds_toArray, List.set_cons_zero, List.set_cons_succ])
 go_cut [19] (fun v19 wc => ∃ (kq : Nat) (x19_1 : Bool), v19 = .bool x19_1 ∧ Aside0 (spec_UntiedOf.j0 kq x19_1 a0_0 a0_1 = some (r1, r2)) ∧ Aside0 (kq ≤ k) ∧ Aside0 (wc.heap[gb429]? = some (.cells #[.int .i64 a0_0, .int .i64 a0_1] 31 (0, 0))) ∧ Aside0 (Below w.heap.size w wc))
 case first =>
  have H := HC2.out
  clear HC2
  obtain ⟨t430, A4, H⟩ := sqD H
  by_cases c5 : t430 = true
  ·subst c5
   rw [if_pos rfl] at H
   obtain ⟨t431, A6, H⟩ := sqD H
   by_cases c7 : t431 = true
   ·subst c7
    rw [if_pos rfl] at H
    have H' := Aside0.mk H
    clear H
    obtain ⟨hcz8_0, hcz8_1, hfz8_0, hfz8_1⟩ := sqY2 BK429
    go_wp2_with (first | ((with_reducible refine gate_callee (f := 77) rfl ?_); refine sqC (some 7) Tryz.func77 #[.agg #[.int .i64 a0_0, .int .i64 a0_1]] ?_; (with_reducible refine (spec_FractionOk.calls k a0_0 a0_1 true _ A4.out).mono ?_); rintro e w9 ⟨rfl, hb⟩; refine ⟨_, rfl, ?_⟩; replace BK429 := sqT BK429 hb; replace HB := sqS (sqB1 HB GE429) hb; (try clear hb); obtain ⟨hcz10_0, hcz10_1, hfz10_0, hfz10_1⟩ := sqY2 BK429) | (go_at_call 101; (with_reducible refine (spec_l1In.calls a0_0 (-12) 12 true _ A6.out).mono ?_); rintro e w' ⟨rfl, ⟨nd, rfl⟩⟩))
    go_meet
    case rel => exact ⟨_, (decide (a0_1 > 12)), Z2, H', ⟨Z12⟩, ⟨sqK BK429⟩, ⟨sqB1 HB GE429⟩⟩
   replace c7 := Bool.eq_false_iff.mpr c7
   subst c7
   rw [if_neg sqF] at H
   have H' := Aside0.mk H
   clear H
   obtain ⟨hcz11_0, hcz11_1, hfz11_0, hfz11_1⟩ := sqY2 BK429
   go_wp2_with (first | ((with_reducible refine gate_callee (f := 77) rfl ?_); refine sqC (some 7) Tryz.func77 #[.agg #[.int .i64 a0_0, .int .i64 a0_1]] ?_; (with_reducible refine (spec_FractionOk.calls k a0_0 a0_1 true _ A4.out).mono ?_); rintro e w12 ⟨rfl, hb⟩; refine ⟨_, rfl, ?_⟩; replace BK429 := sqT BK429 hb; replace HB := sqS (sqB1 HB GE429) hb; (try clear hb); obtain ⟨hcz13_0, hcz13_1, hfz13_0, hfz13_1⟩ := sqY2 BK429) | (go_at_call 101; (with_reducible refine (spec_l1In.calls a0_0 (-12) 12 false _ A6.out).mono ?_); rintro e w' ⟨rfl, ⟨nd, rfl⟩⟩))
   go_meet
   case rel => exact ⟨_, (true), Z2, H', ⟨Z12⟩, ⟨sqK BK429⟩, ⟨sqB1 HB GE429⟩⟩
  replace c5 := Bool.eq_false_iff.mpr c5
  subst c5
  rw [if_neg sqF] at H
  have H' := Aside0.mk H
  clear H
  obtain ⟨hcz14_0, hcz14_1, hfz14_0, hfz14_1⟩ := sqY2 BK429
  go_wp2_with (first | ((with_reducible refine gate_callee (f := 77) rfl ?_); refine sqC (some 7) Tryz.func77 #[.agg #[.int .i64 a0_0, .int .i64 a0_1]] ?_; (with_reducible refine (spec_FractionOk.calls k a0_0 a0_1 false _ A4.out).mono ?_); rintro e w15 ⟨rfl, hb⟩; refine ⟨_, rfl, ?_⟩; replace BK429 := sqT BK429 hb; replace HB := sqS (sqB1 HB GE429) hb; (try clear hb)))
  go_meet
  case rel => exact ⟨_, (true), Z2, H', ⟨Z12⟩, ⟨sqK BK429⟩, ⟨sqB1 HB GE429⟩⟩
 case rest =>
  clear HC2
  obtain ⟨kq, x19_1, rfl, HA, HJ1, BK429, HB⟩ := hcut
  cases kq with
  | zero => exact absurd HA.out (by simp [spec_UntiedOf.j0])
  | succ kj1 =>
   have H := HA.out
   clear HA
   simp only [spec_UntiedOf.j0] at H
   by_cases c16 : x19_1 = true
   ·subst c16
    rw [if_pos rfl] at H
    obtain ⟨rfl, rfl⟩ := sqO2 H
    go_wp2
    go_ret2
    exact ⟨Z6, sqB1 HB GE429⟩
   replace c16 := Bool.eq_false_iff.mpr c16
   subst c16
   rw [if_neg sqF] at H
   have H' := Aside0.mk H
   clear H
   obtain ⟨hcz17_0, hcz17_1, hfz17_0, hfz17_1⟩ := sqY2 BK429
   go_wp2_with (first | ((with_reducible refine gate_dst (N := 5) rfl ?_); refine sqBx w (sqB1 HB GE429) (N := 5) (cs := #[.int .i64 0, .int .i64 0]) (t := 31) ?_; intro gb432 hg w18 BK432 GE432 HB hb; obtain ⟨NB429_432, NB432_429⟩ := sqM hg BK429; replace BK429 := sqT BK429 hb; clear hb hg; have hnb19 := NB432_429.out; have hnc19 := NB429_432.out; obtain ⟨hcz20_0, hcz20_1, hfz20_0, hfz20_1⟩ := sqY2 BK432))
   go_loopg [4] kj1 (fun kq v4 w' => ∃ (x4_2 : ByteArray) (x433000_2 : Int) (x433001_2 : Int), v4 = .string x4_2 ∧ Aside0 (spec_UntiedOf.l0 kq x4_2 x433000_2 x433001_2 = some (r1, r2)) ∧ Aside0 (kq ≤ kj1) ∧ Aside0 (w'.heap[gb429]? = some (.cells #[.int .i64 a0_0, .int .i64 a0_1] 31 (0, 0))) ∧ Aside0 (w'.heap[gb432]? = some (.cells #[.int .i64 x433000_2, .int .i64 x433001_2] 31 (0, 0))) ∧ Aside0 (Below w.heap.size w w'))
   case atStart => exact ⟨((⟨#[]⟩ : ByteArray)), (a0_0), (a0_1), Z2, H', ⟨Nat.le_refl _⟩, ⟨Z10 NB429_432 BK429⟩, ⟨Z5 BK432⟩, ⟨sqB2 HB GE429 GE432⟩⟩
   case round =>
    clear H'
    try clear p2; try clear c5; try clear c7; try clear c9; try clear c16; try clear hcz10_0; try clear hcz10_1; try clear hcz11_0; try clear hcz11_1; try clear hcz13_0; try clear hcz13_1; try clear hcz14_0; try clear hcz14_1; try clear hcz17_0; try clear hcz17_1; try clear hcz20_0; try clear hcz20_1; try clear hcz8_0; try clear hcz8_1; try clear hfz10_0; try clear hfz10_1; try clear hfz11_0; try clear hfz11_1; try clear hfz13_0; try clear hfz13_1; try clear hfz14_0; try clear hfz14_1; try clear hfz17_0; try clear hfz17_1; try clear hfz20_0; try clear hfz20_1; try clear hfz8_0; try clear hfz8_1; try clear p2
    obtain ⟨x4_2, x433000_2, x433001_2, rfl, HA, HK2, BK429, BK432, HB⟩ := hrel
    cases gk with
    | zero => exact absurd HA.out (by simp [spec_UntiedOf.l0])
    | succ k2 =>
     have H := HA.out
     clear HA
     simp only [spec_UntiedOf.l0] at H
     by_cases c21 : x433000_2 = 0
     ·rw [if_pos c21] at H
      have c21b0 : (x433000_2 == 0) = true := beq_iff_eq.mpr c21
      have c21b1 : (x433000_2 != 0) = false := bne_eq_false_iff_eq.mpr c21
      clear c21
      obtain ⟨rfl, rfl⟩ := sqO2 H
      have hnb22 := NB432_429.out
      have hnc22 := NB429_432.out
      obtain ⟨hcz23_0, hcz23_1, hfz23_0, hfz23_1⟩ := sqY2 BK432
      go_wp2
      go_ret2
      exact ⟨Z6, sqB2 HB GE429 GE432⟩
     rw [if_neg c21] at H
     have c21b0 : (x433000_2 == 0) = false := beq_eq_false_iff_ne.mpr c21
     have c21b1 : (x433000_2 != 0) = true := bne_iff_ne.mpr c21
     by_cases c24 : x433000_2 < 0
     ·rw [if_pos c24] at H
      have c24b0 : decide (x433000_2 < 0) = true := decide_eq_true c24
      clear c24
      obtain ⟨⟨t433, t434, t435⟩, A25, H⟩ := sqD H
      try dsimp only at H
      obtain ⟨c26, H⟩ := sqI H
      have c26b0 := eq_true c26
      have c26b1 : decide (x4_2.size + 1 ≤ 9223372036854775807) = true := decide_eq_true c26
      try have c26b2 : (9223372036854775807 < x4_2.size + 1) = False := eq_false (Nat.not_lt.2 c26)
      have H' := Aside0.mk H
      clear H
      have hnb27 := NB432_429.out
      have hnc27 := NB429_432.out
      obtain ⟨hcz28_0, hcz28_1, hfz28_0, hfz28_1⟩ := sqY2 BK432
      go_wp2_with (first | ((with_reducible refine gate_callee (f := 127) rfl ?_); refine sqC (some 29) Tryz.func127 #[.agg #[.int .i64 x433000_2, .int .i64 x433001_2], .int .i64 1] ?_; (with_reducible refine (spec_PlusOf.calls k2 x433000_2 x433001_2 1 t433 t434 t435 _ A25.out).mono ?_); rintro e w29 ⟨rfl, hb⟩; refine ⟨_, rfl, ?_⟩; replace BK429 := sqT BK429 hb; replace BK432 := sqT BK432 hb; replace HB := sqS (sqB2 HB GE429 GE432) hb; (try clear hb); obtain ⟨hcz30_0, hcz30_1, hfz30_0, hfz30_1⟩ := sqY2 BK432))
      go_roundg k2
      case measure => have := HJ1.out; have := HK2.out; omega
      case rel => exact ⟨(x4_2 ++ (⟨#[84]⟩ : ByteArray)), (t433), (t434), Z2, H', ⟨by have := HJ1.out; have := HK2.out; omega⟩, ⟨Z10 NB429_432 BK429⟩, ⟨by refine sqPut (cs := #[.int .i64 t433, .int .i64 x433001_2]) ?_ 1; refine sqPut (cs := #[.int .i64 x433000_2, .int .i64 x433001_2]) ?_ 0; exact sqK BK432⟩, ⟨sqB2 HB GE429 GE432⟩⟩
     rw [if_neg c24] at H
     have c24b0 : decide (x433000_2 < 0) = false := decide_eq_false c24
     clear c24
     obtain ⟨⟨t436, t437⟩, A31, H⟩ := sqD H
     try dsimp only at H
     obtain ⟨c32, H⟩ := sqI H
     have c32b0 := eq_true c32
     have c32b1 : decide (x4_2.size + 1 ≤ 9223372036854775807) = true := decide_eq_true c32
     try have c32b2 : (9223372036854775807 < x4_2.size + 1) = False := eq_false (Nat.not_lt.2 c32)
     have H' := Aside0.mk H
     clear H
     have hnb33 := NB432_429.out
     have hnc33 := NB429_432.out
     obtain ⟨hcz34_0, hcz34_1, hfz34_0, hfz34_1⟩ := sqY2 BK432
     go_wp2_with (first | ((with_reducible refine gate_callee (f := 128) rfl ?_); refine sqC (some 35) Tryz.func128 #[.agg #[.int .i64 x433000_2, .int .i64 x433001_2]] ?_; (with_reducible refine (spec_OverOf.calls k2 x433000_2 x433001_2 t436 t437 _ A31.out).mono ?_); rintro e w35 ⟨rfl, hb⟩; refine ⟨_, rfl, ?_⟩; replace BK429 := sqT BK429 hb; replace BK432 := sqT BK432 hb; replace HB := sqS (sqB2 HB GE429 GE432) hb; (try clear hb); obtain ⟨hcz36_0, hcz36_1, hfz36_0, hfz36_1⟩ := sqY2 BK432))
     go_roundg k2
     case measure => have := HJ1.out; have := HK2.out; omega
     case rel => exact ⟨(x4_2 ++ (⟨#[82]⟩ : ByteArray)), (t436), (t437), Z2, H', ⟨by have := HJ1.out; have := HK2.out; omega⟩, ⟨Z10 NB429_432 BK429⟩, ⟨by refine sqPut (cs := #[.int .i64 t436, .int .i64 x433001_2]) ?_ 1; refine sqPut (cs := #[.int .i64 x433000_2, .int .i64 x433001_2]) ?_ 0; exact sqK BK432⟩, ⟨sqB2 HB GE429 GE432⟩⟩

/-! ### spec_DanceOk: function 134 -/
def spec_DanceOk.l0 : Nat → ByteArray → Int → Option (Bool)
 | 0, _, _ => none
 | k + 1, x0, x3 => if x3 < (x0.size : Int) then (if 0 ≤ x3 then (if (bt x0 x3) = 84 then (spec_DanceOk.l0 k x0 (wrap64 (x3 + 1))) else (if (bt x0 x3) = 116 then (spec_DanceOk.l0 k x0 (wrap64 (x3 + 1))) else (if (bt x0 x3) = 82 then (spec_DanceOk.l0 k x0 (wrap64 (x3 + 1))) else (some false)))) else (none)) else (some (decide ((x0.size : Int) ≤ 40)))
def spec_DanceOk.f (k : Nat) (a0 : ByteArray) : Option (Bool) := spec_DanceOk.l0 k a0 0
abbrev spec_DanceOk.M (k : Nat) : Prop := (∀ y0 y1, LeO (spec_DanceOk.l0 k y0 y1) (spec_DanceOk.l0 (k + 1) y0 y1))
theorem spec_DanceOk.mono_t : ∀ k, spec_DanceOk.M k → spec_DanceOk.M (k + 1) ∧ ∀ a0, LeO (spec_DanceOk.f k a0) (spec_DanceOk.f (k + 1) a0) := by
  rintro k ih0
  refine ⟨?_, ?_⟩ <;> (try unfold spec_DanceOk.M) <;> intros <;> (first | unfold spec_DanceOk.l0 | unfold spec_DanceOk.f) <;> repeat' (with_reducible first | exact ih0 _ _ | exact LeO.refl _ | exact LeO.none _ | refine LeO.ite ?_ ?_ | refine LeO.bind ?_ fun _ => ?_)
theorem spec_DanceOk.mono_l : ∀ k, spec_DanceOk.M k
 | 0 => fun _ _ r h => by simp [spec_DanceOk.l0] at h
 | k + 1 => (spec_DanceOk.mono_t k (spec_DanceOk.mono_l k)).1
theorem spec_DanceOk.mono a0 k : LeO (spec_DanceOk.f k a0) (spec_DanceOk.f (k + 1) a0) := (spec_DanceOk.mono_t k (spec_DanceOk.mono_l k)).2 a0
set_option maxHeartbeats 8000000 in
set_option maxRecDepth 100000 in
theorem spec_DanceOk.calls (k : Nat) (a0 : ByteArray) (r : Bool) (w : World) (h : spec_DanceOk.f k a0 = some r) :
  Calls Tryz.prog 134 #[.string a0] w fun e w' => e = .returned (.bool r) ∧ Drawn0 w w' := by
 unfold spec_DanceOk.f at h
 have H := h
 clear h
 have H' := Aside0.mk H
 clear H
 go_enter Tryz.func134, Tryz.ntmps134
 go_wp2
 go_loopg [3] k (fun kq v3 w' => ∃ (x3_1 : Int), v3 = .int .i64 x3_1 ∧ Aside0 (spec_DanceOk.l0 kq a0 x3_1 = some r) ∧ Aside0 (kq ≤ k) ∧ Drawn0 w w')
 case atStart => exact ⟨(0), Z2, H', ⟨Nat.le_refl _⟩, Z19⟩
 case round =>
  clear H'
  obtain ⟨x3_1, rfl, HA, HK1, ⟨m1, rfl⟩⟩ := hrel
  cases gk with
  | zero => exact absurd HA.out (by simp [spec_DanceOk.l0])
  | succ k1 =>
   have H := HA.out
   clear HA
   simp only [spec_DanceOk.l0] at H
   by_cases c2 : x3_1 < (a0.size : Int)
   ·rw [if_pos c2] at H
    have c2b0 : decide (x3_1 < (a0.size : Int)) = true := decide_eq_true c2
    clear c2
    obtain ⟨c3, H⟩ := sqI H
    have c3b0 : decide (0 ≤ x3_1) = true := decide_eq_true c3
    clear c3
    by_cases c5 : (bt a0 x3_1) = 84
    ·rw [if_pos c5] at H
     have c5b0 : ((bt a0 x3_1) == 84) = true := beq_iff_eq.mpr c5
     have c5b1 : ((bt a0 x3_1) != 84) = false := bne_eq_false_iff_eq.mpr c5
     clear c5
     have H' := Aside0.mk H
     clear H
     have p4 : 0 ≤ (x3_1 : Int) := of_decide_eq_true Z20
     have q4 : x3_1 < (a0.size : Int) := of_decide_eq_true Z20
     have hx4 := bt_at a0 x3_1
     replace p4 := eq_true p4
     replace q4 := eq_true q4
     go_wp2
     go_roundg k1
     case measure => have := HK1.out; omega
     case rel => exact ⟨(wrap64 (x3_1 + 1)), Z2, H', ⟨Z3 HK1⟩, Z19⟩
    rw [if_neg c5] at H
    have c5b0 : ((bt a0 x3_1) == 84) = false := beq_eq_false_iff_ne.mpr c5
    have c5b1 : ((bt a0 x3_1) != 84) = true := bne_iff_ne.mpr c5
    by_cases c7 : (bt a0 x3_1) = 116
    ·rw [if_pos c7] at H
     have c7b0 : ((bt a0 x3_1) == 116) = true := beq_iff_eq.mpr c7
     have c7b1 : ((bt a0 x3_1) != 116) = false := bne_eq_false_iff_eq.mpr c7
     clear c7
     have H' := Aside0.mk H
     clear H
     have p4 : 0 ≤ (x3_1 : Int) := of_decide_eq_true Z20
     have q4 : x3_1 < (a0.size : Int) := of_decide_eq_true Z20
     have hx4 := bt_at a0 x3_1
     replace p4 := eq_true p4
     replace q4 := eq_true q4
     have p6 : 0 ≤ (x3_1 : Int) := of_decide_eq_true Z20
     have q6 : x3_1 < (a0.size : Int) := of_decide_eq_true Z20
     have hx6 := bt_at a0 x3_1
     replace p6 := eq_true p6
     replace q6 := eq_true q6
     go_wp2
     go_roundg k1
     case measure => have := HK1.out; omega
     case rel => exact ⟨(wrap64 (x3_1 + 1)), Z2, H', ⟨Z3 HK1⟩, Z19⟩
    rw [if_neg c7] at H
    have c7b0 : ((bt a0 x3_1) == 116) = false := beq_eq_false_iff_ne.mpr c7
    have c7b1 : ((bt a0 x3_1) != 116) = true := bne_iff_ne.mpr c7
    by_cases c9 : (bt a0 x3_1) = 82
    ·rw [if_pos c9] at H
     have c9b0 : ((bt a0 x3_1) == 82) = true := beq_iff_eq.mpr c9
     have c9b1 : ((bt a0 x3_1) != 82) = false := bne_eq_false_iff_eq.mpr c9
     clear c9
     have H' := Aside0.mk H
     clear H
     have p4 : 0 ≤ (x3_1 : Int) := of_decide_eq_true Z20
     have q4 : x3_1 < (a0.size : Int) := of_decide_eq_true Z20
     have hx4 := bt_at a0 x3_1
     replace p4 := eq_true p4
     replace q4 := eq_true q4
     have p6 : 0 ≤ (x3_1 : Int) := of_decide_eq_true Z20
     have q6 : x3_1 < (a0.size : Int) := of_decide_eq_true Z20
     have hx6 := bt_at a0 x3_1
     replace p6 := eq_true p6
     replace q6 := eq_true q6
     have p8 : 0 ≤ (x3_1 : Int) := of_decide_eq_true Z20
     have q8 : x3_1 < (a0.size : Int) := of_decide_eq_true Z20
     have hx8 := bt_at a0 x3_1
     replace p8 := eq_true p8
     replace q8 := eq_true q8
     go_wp2
     go_roundg k1
     case measure => have := HK1.out; omega
     case rel => exact ⟨(wrap64 (x3_1 + 1)), Z2, H', ⟨Z3 HK1⟩, Z19⟩
    rw [if_neg c9] at H
    have c9b0 : ((bt a0 x3_1) == 82) = false := beq_eq_false_iff_ne.mpr c9
    have c9b1 : ((bt a0 x3_1) != 82) = true := bne_iff_ne.mpr c9
    obtain rfl := Option.some.inj H
    have p4 : 0 ≤ (x3_1 : Int) := of_decide_eq_true Z20
    have q4 : x3_1 < (a0.size : Int) := of_decide_eq_true Z20
    have hx4 := bt_at a0 x3_1
    replace p4 := eq_true p4
    replace q4 := eq_true q4
    have p6 : 0 ≤ (x3_1 : Int) := of_decide_eq_true Z20
    have q6 : x3_1 < (a0.size : Int) := of_decide_eq_true Z20
    have hx6 := bt_at a0 x3_1
    replace p6 := eq_true p6
    replace q6 := eq_true q6
    have p8 : 0 ≤ (x3_1 : Int) := of_decide_eq_true Z20
    have q8 : x3_1 < (a0.size : Int) := of_decide_eq_true Z20
    have hx8 := bt_at a0 x3_1
    replace p8 := eq_true p8
    replace q8 := eq_true q8
    go_wp2
    go_ret
    exact ⟨Z2, Z19⟩
   rw [if_neg c2] at H
   have c2b0 : decide (x3_1 < (a0.size : Int)) = false := decide_eq_false c2
   clear c2
   obtain rfl := Option.some.inj H
   go_wp2
   go_ret
   exact ⟨Z2, Z19⟩

/-! ### spec_l2Move: function 135 -/
def spec_l2Move.f (k : Nat) (a0_0 : Int) (a0_1 : Int) (a1 : Int) : Option (Int × Int × Bool) := if a1 = 84 then ((spec_PlusOf.f k a0_0 a0_1 1).bind fun bt440 => (some (bt440.1, bt440.2.1, bt440.2.2))) else (if a1 = 116 then ((spec_PlusOf.f k a0_0 a0_1 (-1)).bind fun bt443 => (some (bt443.1, bt443.2.1, bt443.2.2))) else ((spec_OverOf.f k a0_0 a0_1).bind fun bt446 => ((spec_FractionOk.f k a0_0 a0_1).bind fun t448 => (some (bt446.1, bt446.2, t448)))))
theorem spec_l2Move.mono : ∀ a0 a1 a2 k, LeO (spec_l2Move.f k a0 a1 a2) (spec_l2Move.f (k + 1) a0 a1 a2) := by
 intro a0 a1 a2 k
 unfold spec_l2Move.f
 repeat' (with_reducible first | exact spec_FractionOk.mono _ _ _ | exact spec_OverOf.mono _ _ _ | exact spec_PlusOf.mono _ _ _ _ | exact LeO.refl _ | exact LeO.none _ | refine LeO.ite ?_ ?_ | refine LeO.bind ?_ fun _ => ?_)
set_option maxHeartbeats 8000000 in
set_option maxRecDepth 100000 in
theorem spec_l2Move.calls (k : Nat) (a0_0 : Int) (a0_1 : Int) (a1 : Int) (r1 : Int) (r2 : Int) (r3 : Bool) (w : World) (h : spec_l2Move.f k a0_0 a0_1 a1 = some (r1, r2, r3)) :
  Calls Tryz.prog 135 #[.agg #[.int .i64 a0_0, .int .i64 a0_1], .int .u8 a1] w fun e w' => e = .returned (.tuple #[.agg #[.int .i64 r1, .int .i64 r2], .bool r3]) ∧ Below w.heap.size w w' := by
 have hu31 := Tryz.underlying31
 have HB := Aside0.mk (Below.refl w.heap.size w)
 unfold spec_l2Move.f at h
 have H := h
 clear h
 by_cases c3 : a1 = 84
 ·rw [if_pos c3] at H
  have c3b0 : (a1 == 84) = true := beq_iff_eq.mpr c3
  have c3b1 : (a1 != 84) = false := bne_eq_false_iff_eq.mpr c3
  clear c3
  obtain ⟨⟨t440, t441, t442⟩, A4, H⟩ := sqD H
  try dsimp only at H
  obtain ⟨rfl, rfl, rfl⟩ := sqO3 H
  go_enter Tryz.func135, Tryz.ntmps135
  go_wp2_with (first | ((with_reducible refine gate_dst (N := 2) rfl ?_); refine sqBx w (sqB HB) (N := 2) (cs := #[.int .i64 a0_0, .int .i64 a0_1]) (t := 31) ?_; intro gb438 hg w5 BK438 GE438 HB hb; clear hb hg) | ((with_reducible refine gate_dst (N := 4) rfl ?_); refine sqBx w (sqB1 HB GE438) (N := 4) (cs := #[.int .i64 0, .int .i64 0]) (t := 31) ?_; intro gb439 hg w6 BK439 GE439 HB hb; obtain ⟨NB438_439, NB439_438⟩ := sqM hg BK438; replace BK438 := sqT BK438 hb; clear hb hg; have hnb7 := NB438_439.out; have hnc7 := NB439_438.out; obtain ⟨hcz8_0, hcz8_1, hfz8_0, hfz8_1⟩ := sqY2 BK438) | ((with_reducible refine gate_callee (f := 127) rfl ?_); refine sqC (some 10) Tryz.func127 #[.agg #[.int .i64 a0_0, .int .i64 a0_1], .int .i64 1] ?_; (with_reducible refine (spec_PlusOf.calls k a0_0 a0_1 1 t440 t441 t442 _ A4.out).mono ?_); rintro e w9 ⟨rfl, hb⟩; refine ⟨_, rfl, ?_⟩; replace BK438 := sqT BK438 hb; replace BK439 := sqT BK439 hb; replace HB := sqS (sqB2 HB GE438 GE439) hb; (try clear hb); obtain ⟨hcz10_0, hcz10_1, hfz10_0, hfz10_1⟩ := sqY2 BK439))
  refine bodyPost_ret (results_ct rfl _ _ gb439 31 #[.int .i64 t440, .int .i64 t441] (0, 0) _ rfl (by refine sqPut (cs := #[.int .i64 t440, .int .i64 0]) ?_ 1; refine sqPut (cs := #[.int .i64 0, .int .i64 0]) ?_ 0; exact sqK BK439) Tryz.underlying31 rfl (by kernel_rfl)) rfl ?_
  exact ⟨Z6, sqB2 HB GE438 GE439⟩
 rw [if_neg c3] at H
 have c3b0 : (a1 == 84) = false := beq_eq_false_iff_ne.mpr c3
 have c3b1 : (a1 != 84) = true := bne_iff_ne.mpr c3
 by_cases c11 : a1 = 116
 ·rw [if_pos c11] at H
  have c11b0 : (a1 == 116) = true := beq_iff_eq.mpr c11
  have c11b1 : (a1 != 116) = false := bne_eq_false_iff_eq.mpr c11
  clear c11
  obtain ⟨⟨t443, t444, t445⟩, A12, H⟩ := sqD H
  try dsimp only at H
  obtain ⟨rfl, rfl, rfl⟩ := sqO3 H
  go_enter Tryz.func135, Tryz.ntmps135
  go_wp2_with (first | ((with_reducible refine gate_dst (N := 2) rfl ?_); refine sqBx w (sqB HB) (N := 2) (cs := #[.int .i64 a0_0, .int .i64 a0_1]) (t := 31) ?_; intro gb438 hg w13 BK438 GE438 HB hb; clear hb hg) | ((with_reducible refine gate_dst (N := 4) rfl ?_); refine sqBx w (sqB1 HB GE438) (N := 4) (cs := #[.int .i64 0, .int .i64 0]) (t := 31) ?_; intro gb439 hg w14 BK439 GE439 HB hb; obtain ⟨NB438_439, NB439_438⟩ := sqM hg BK438; replace BK438 := sqT BK438 hb; clear hb hg; have hnb15 := NB438_439.out; have hnc15 := NB439_438.out; obtain ⟨hcz16_0, hcz16_1, hfz16_0, hfz16_1⟩ := sqY2 BK438) | ((with_reducible refine gate_callee (f := 127) rfl ?_); refine sqC (some 16) Tryz.func127 #[.agg #[.int .i64 a0_0, .int .i64 a0_1], .int .i64 (-1)] ?_; (with_reducible refine (spec_PlusOf.calls k a0_0 a0_1 (-1) t443 t444 t445 _ A12.out).mono ?_); rintro e w17 ⟨rfl, hb⟩; refine ⟨_, rfl, ?_⟩; replace BK438 := sqT BK438 hb; replace BK439 := sqT BK439 hb; replace HB := sqS (sqB2 HB GE438 GE439) hb; (try clear hb); obtain ⟨hcz18_0, hcz18_1, hfz18_0, hfz18_1⟩ := sqY2 BK439))
  refine bodyPost_ret (results_ct rfl _ _ gb439 31 #[.int .i64 t443, .int .i64 t444] (0, 0) _ rfl (by refine sqPut (cs := #[.int .i64 t443, .int .i64 0]) ?_ 1; refine sqPut (cs := #[.int .i64 0, .int .i64 0]) ?_ 0; exact sqK BK439) Tryz.underlying31 rfl (by kernel_rfl)) rfl ?_
  exact ⟨Z6, sqB2 HB GE438 GE439⟩
 rw [if_neg c11] at H
 have c11b0 : (a1 == 116) = false := beq_eq_false_iff_ne.mpr c11
 have c11b1 : (a1 != 116) = true := bne_iff_ne.mpr c11
 obtain ⟨⟨t446, t447⟩, A19, H⟩ := sqD H
 try dsimp only at H
 obtain ⟨t448, A20, H⟩ := sqD H
 obtain ⟨rfl, rfl, rfl⟩ := sqO3 H
 go_enter Tryz.func135, Tryz.ntmps135
 try go_wp2_with (first | ((with_reducible refine gate_dst (N := 2) rfl ?_); refine sqBx w (sqB HB) (N := 2) (cs := #[.int .i64 a0_0, .int .i64 a0_1]) (t := 31) ?_; intro gb438 hg w21 BK438 GE438 HB hb; clear hb hg) | ((with_reducible refine gate_dst (N := 4) rfl ?_); refine sqBx w (sqB1 HB GE438) (N := 4) (cs := #[.int .i64 0, .int .i64 0]) (t := 31) ?_; intro gb439 hg w22 BK439 GE439 HB hb; obtain ⟨NB438_439, NB439_438⟩ := sqM hg BK438; replace BK438 := sqT BK438 hb; clear hb hg))
 replace BK438 := Aside0.mk (blk_drew BK438.out)
 replace BK439 := Aside0.mk (blk_drew BK439.out)
 replace HB := Aside0.mk (below_drew1 HB.out)
 refine start_ (n := 6) (S := fun w' => w'.cell? ⟨gb438, 0, none⟩ = some (.int .i64 a0_0) ∧ w'.cell? ⟨gb438, 1, none⟩ = some (.int .i64 a0_1)) (ds := []) #[false, false, false, false, false, false] (by kernel_rfl) rfl rfl ⟨(blk_cell BK438.out 0).trans rfl, (blk_cell BK438.out 1).trans rfl⟩ (fun hHeld => ?_)
 generalize w22.drew = w23 at BK438 BK439 HB hHeld ⊢
 refine sqQk (i := 0) (N := some 19) hHeld (h := ?_)
 refine sqQk (i := 2) (N := some 21) hHeld (h := ?_)
 refine one_ (i := 1) (N := some 20) #[true, true, true, false, false, false] rfl rfl (by kernel_rfl) (by decide) (fun K hK => ?_)
 refine goes_ Tryz.func128 (by kernel_rfl) rfl #[.agg #[.int .i64 a0_0, .int .i64 a0_1]] (by rfl) rfl rfl sqA ?_
 with_reducible refine (spec_OverOf.calls k a0_0 a0_1 t446 t447 _ A19.out).mono ?_
 rintro e w24 ⟨rfl, hb⟩
 refine ⟨_, rfl, ?_⟩
 replace BK438 := sqT BK438 hb
 replace BK439 := sqT BK439 hb
 replace HB := sqS (sqB2 HB GE438 GE439) hb
 (try clear hb)
 (try clear hb2)
 (try clear hk)
 (try clear hi)
 refine hK.out _ _ ⟨(blk_cell BK438.out 0).trans rfl, (blk_cell BK438.out 1).trans rfl⟩ (fun hHeld => ?_)
 clear hK K
 refine sqN (some 20) ?_
 refine one_ (i := 3) (N := some 22) #[true, true, true, true, false, false] rfl rfl (by kernel_rfl) (by decide) (fun K hK => ?_)
 refine goes_ Tryz.func77 (by kernel_rfl) rfl #[.agg #[.int .i64 a0_0, .int .i64 a0_1]] (by rfl) rfl rfl sqA ?_
 with_reducible refine (spec_FractionOk.calls k a0_0 a0_1 t448 _ A20.out).mono ?_
 rintro e w25 ⟨rfl, hb⟩
 refine ⟨_, rfl, ?_⟩
 replace BK438 := sqT BK438 hb
 replace BK439 := sqT BK439 hb
 replace HB := sqS (sqB2 HB GE438 GE439) hb
 (try clear hb)
 (try clear hb2)
 (try clear hk)
 (try clear hi)
 refine hK.out _ _ ⟨(blk_cell BK438.out 0).trans rfl, (blk_cell BK438.out 1).trans rfl⟩ (fun hHeld => ?_)
 clear hK K
 refine sqN (some 22) ?_
 refine one_ (i := 4) (N := none) #[true, true, true, true, true, false] rfl rfl (by kernel_rfl) (by decide) (fun K hK => ?_)
 have hs26 : w25.cell? ⟨gb439, 0, none⟩ = some (.int .i64 0) := (blk_cell BK439.out 0).trans rfl
 have hfs26 := blk_frozen BK439.out 0
 have hns26_0 := NB438_439.out
 have hms26_0 := NB439_438.out
 have hs27 : w25.cell? ⟨gb439, 1, none⟩ = some (.int .i64 0) := (blk_cell BK439.out 1).trans rfl
 have hfs27 := blk_frozen BK439.out 1
 refine skip_ (w1 := ?_) (by rfl) rfl ?_ ?_
 rotate_left
 ·go_simp
  rfl
 refine hK.out _ _ ⟨((cell_far (p := ⟨gb439, _, none⟩) NB438_439.out _).trans (((cell_far (p := ⟨gb439, _, none⟩) NB438_439.out _).trans (hHeld.1)))), ((cell_far (p := ⟨gb439, _, none⟩) NB438_439.out _).trans (((cell_far (p := ⟨gb439, _, none⟩) NB438_439.out _).trans (hHeld.2))))⟩ (fun hHeld => ?_)
 clear hK K
 refine sqPk (i := 5) (N := some 5) (h := ?_)
 refine done_ (by kernel_rfl) ?_
 try go_wp2
 refine bodyPost_ret (results_ct rfl _ _ gb439 31 #[.int .i64 t446, .int .i64 t447] (0, 0) _ rfl (by refine sqPut (cs := #[.int .i64 t446, .int .i64 0]) ?_ 1; refine sqPut (cs := #[.int .i64 0, .int .i64 0]) ?_ 0; exact sqK BK439) Tryz.underlying31 rfl (by kernel_rfl)) rfl ?_
 exact ⟨Z6, sqB2 HB GE438 GE439⟩

end Go.Proofs.YtofmlbgfcohhoaaGreatDoor.PFnExactDeskLine
