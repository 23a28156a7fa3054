/- Lean functions of the Go functions that the law FnDeskOk reaches, each with its contract: made by a program of this session. -/
import Derived.Test.YtcfnihniaakbeaaPFnDeskOkx0
import Derived.Test.YtcfnihniaakbeaaPFnDeskOkx2
import Derived.Test.YtcfnihniaakbeaaPFnDeskOkx3
import Derived.Test.YtcfnihniaakbeaaPFnDeskOkx5
import Derived.Test.YtcfnihniaakbeaaPFnDeskOkx6
import Derived.Test.YtcfnihniaakbeaaPFnDeskOkx8
namespace Go.Proofs.Ytcfnihniaakbeaa.PFnDeskOk
open Go.RowKit Go.Proofs.YtcfnihniaakbeaaW.PrintWords Go.Proofs.YtcfnihniaakbeaaW.PrintLast Go.Proofs.YtcfnihniaakbeaaW.PrintMore
attribute [local go_sem] max2_int min2_int max_two min_two max_three min_three max_four min_four   -- for this text's walks alone
set_option linter.unusedVariables false
set_option linter.unusedSimpArgs false

attribute [local go_sem high] eqA42
/-! ### spec_UntiedOf: function 36 -/
mutual
def spec_UntiedOf.j0 : Nat → Bool → Int → Int → Option (ByteArray × Bool)
 | 0, _, _, _ => none
 | k + 1, x19, x235000, x235001 => if x19 = true then (some ((⟨#[]⟩ : ByteArray), false)) else (spec_UntiedOf.l0 k (⟨#[]⟩ : ByteArray) x235000 x235001)
def spec_UntiedOf.l0 : Nat → ByteArray → Int → Int → Option (ByteArray × Bool)
 | 0, _, _, _ => none
 | k + 1, x4, x238000, x238001 => if x238000 = 0 then (some (x4, true)) else (if x238000 < 0 then ((spec_PlusOf.f k x238000 x238001 1).bind fun bt238 => (if x4.size + 1 ≤ 9223372036854775807 then (spec_UntiedOf.l0 k (x4 ++ (⟨#[84]⟩ : ByteArray)) bt238.1 bt238.2.1) else (none))) else ((spec_OverOf.f k x238000 x238001).bind fun bt241 => (if x4.size + 1 ≤ 9223372036854775807 then (spec_UntiedOf.l0 k (x4 ++ (⟨#[82]⟩ : ByteArray)) bt241.1 bt241.2) else (none))))
end
def spec_UntiedOf.f (k : Nat) (a0_0 : Int) (a0_1 : Int) : Option (ByteArray × Bool) := (spec_FractionOk.f k a0_0 a0_1).bind fun t235 => (if t235 = true then ((spec_l1In.f a0_0 (-12) 12).bind fun t236 => (if t236 = true then (spec_UntiedOf.j0 k (decide (a0_1 > 12)) a0_0 a0_1) else (spec_UntiedOf.j0 k true a0_0 a0_1))) else (spec_UntiedOf.j0 k true a0_0 a0_1))
theorem spec_UntiedOf.mono_l : ∀ k, (∀ y0 y1 y2, LeO (spec_UntiedOf.j0 k y0 y1 y2) (spec_UntiedOf.j0 (k + 1) y0 y1 y2)) ∧ (∀ y0 y1 y2, LeO (spec_UntiedOf.l0 k y0 y1 y2) (spec_UntiedOf.l0 (k + 1) y0 y1 y2))
 | 0 => ⟨fun _ _ _ r h => by simp [spec_UntiedOf.j0] at h, fun _ _ _ r h => by simp [spec_UntiedOf.l0] at h⟩
 | k + 1 => by
  obtain ⟨ih0, ih1⟩ := spec_UntiedOf.mono_l k
  refine ⟨?_, ?_⟩
  ·intro y0 y1 y2
   unfold spec_UntiedOf.j0
   repeat' first
   | (with_reducible exact ih0 _ _ _)
   | (with_reducible exact ih1 _ _ _)
   | (with_reducible exact spec_FractionOk.mono _ _ _)
   | (with_reducible exact spec_OverOf.mono _ _ _)
   | (with_reducible exact spec_PlusOf.mono _ _ _ _)
   | (with_reducible exact LeO.refl _)
   | (with_reducible exact LeO.none _)
   | (with_reducible refine LeO.ite ?_ ?_)
   | (with_reducible refine LeO.bind ?_ (fun _ => ?_))
  ·intro y0 y1 y2
   unfold spec_UntiedOf.l0
   repeat' first
   | (with_reducible exact ih0 _ _ _)
   | (with_reducible exact ih1 _ _ _)
   | (with_reducible exact spec_FractionOk.mono _ _ _)
   | (with_reducible exact spec_OverOf.mono _ _ _)
   | (with_reducible exact spec_PlusOf.mono _ _ _ _)
   | (with_reducible exact LeO.refl _)
   | (with_reducible exact LeO.none _)
   | (with_reducible refine LeO.ite ?_ ?_)
   | (with_reducible refine LeO.bind ?_ (fun _ => ?_))
theorem spec_UntiedOf.mono : ∀ a0 a1 k, LeO (spec_UntiedOf.f k a0 a1) (spec_UntiedOf.f (k + 1) a0 a1) := by
 intro a0 a1 k
 obtain ⟨ih0, ih1⟩ := spec_UntiedOf.mono_l k
 unfold spec_UntiedOf.f
 repeat' first
   | (with_reducible exact ih0 _ _ _)
   | (with_reducible exact ih1 _ _ _)
   | (with_reducible exact spec_FractionOk.mono _ _ _)
   | (with_reducible exact spec_OverOf.mono _ _ _)
   | (with_reducible exact spec_PlusOf.mono _ _ _ _)
   | (with_reducible exact LeO.refl _)
   | (with_reducible exact LeO.none _)
   | (with_reducible refine LeO.ite ?_ ?_)
   | (with_reducible refine LeO.bind ?_ (fun _ => ?_))
set_option maxHeartbeats 8000000 in
set_option maxRecDepth 100000 in
theorem spec_UntiedOf.calls (k : Nat) (a0_0 : Int) (a0_1 : Int) (r1 : ByteArray) (r2 : Bool) (w : World) (h : spec_UntiedOf.f k a0_0 a0_1 = some (r1, r2)) :
  Calls Try.prog 36 #[.agg #[.int .i64 a0_0, .int .i64 a0_1]] w fun e w' => e = .returned (.tuple #[.string r1, .bool r2]) ∧ Below w.heap.size w w' := by
 have hu24 := Try.underlying24
 have HB := Aside0.mk (Below.refl w.heap.size w)
 have H : ((spec_FractionOk.f k a0_0 a0_1).bind fun t235 => (if t235 = true then ((spec_l1In.f a0_0 (-12) 12).bind fun t236 => (if t236 = true then (spec_UntiedOf.j0 k (decide (a0_1 > 12)) a0_0 a0_1) else (spec_UntiedOf.j0 k true a0_0 a0_1))) else (spec_UntiedOf.j0 k true a0_0 a0_1))) = some (r1, r2) := h
 clear h
 have HC2 := Aside0.mk H
 clear H
 go_enter Try.func36, Try.ntmps36
 go_upto_region 1 with (first | ((with_reducible refine gate_dst (N := 1) rfl ?_); refine sqBox (N := 1) (cs := #[.int .i64 a0_0, .int .i64 a0_1]) (t := 24) ?_; intro gb234 hg w3 BK234 hb; have GW234 := Aside0.mk ((sqG hg (sqB HB))); have GE234 := GW234; replace HB := sqS (sqB HB) hb; clear hb hg))
 (try simp only [Act.put, List.setIfInBounds_toArray, List.set_cons_zero, List.set_cons_succ])
 go_cut [19] (fun v19 wc => ∃ (kq : Nat) (x19_1 : Bool), v19 = .bool x19_1 ∧ Aside0 (spec_UntiedOf.j0 kq x19_1 a0_0 a0_1 = some (r1, r2)) ∧ Aside0 (kq ≤ k) ∧ Aside0 (wc.heap[gb234]? = some (.cells #[.int .i64 a0_0, .int .i64 a0_1] 24 (0, 0))) ∧ Aside0 (Below w.heap.size w wc))
 case first =>
  have H := HC2.out
  clear HC2
  obtain ⟨t235, A4, H⟩ := sqD H
  by_cases c5 : t235 = true
  ·subst c5
   have H1 : ((spec_l1In.f a0_0 (-12) 12).bind fun t236 => (if t236 = true then (spec_UntiedOf.j0 k (decide (a0_1 > 12)) a0_0 a0_1) else (spec_UntiedOf.j0 k true a0_0 a0_1))) = some (r1, r2) := by rw [if_pos rfl] at H; exact H
   clear H
   have H := H1
   clear H1
   obtain ⟨t236, A6, H⟩ := sqD H
   by_cases c7 : t236 = true
   ·subst c7
    have H1 : (spec_UntiedOf.j0 k (decide (a0_1 > 12)) a0_0 a0_1) = some (r1, r2) := by rw [if_pos rfl] at H; exact H
    clear H
    have H := H1
    clear H1
    have H' := Aside0.mk H
    clear H
    obtain ⟨hcz8_0, hcz8_1, hfz8_0, hfz8_1⟩ := sqY2 BK234
    go_wp2_with (first | ((with_reducible refine gate_callee (f := 11) rfl ?_); refine goesL_ (some 7) rfl rfl Try.func11 (by kernel_rfl) rfl #[.agg #[.int .i64 a0_0, .int .i64 a0_1]] rfl sqA ?_; (with_reducible refine (spec_FractionOk.calls k a0_0 a0_1 true _ A4.out).mono ?_); rintro e w9 ⟨rfl, hb⟩; refine ⟨_, rfl, ?_⟩; replace BK234 := sqT BK234 hb; replace HB := sqS (sqB1 HB GE234) hb; (try clear hb); obtain ⟨hcz10_0, hcz10_1, hfz10_0, hfz10_1⟩ := sqY2 BK234) | (go_at_call 22; (with_reducible refine (spec_l1In.calls a0_0 (-12) 12 true _ A6.out).mono ?_); rintro e w' ⟨rfl, ⟨nd, rfl⟩⟩))
    go_meet
    case rel => exact ⟨_, (decide (a0_1 > 12)), Z2, H', ⟨Z3⟩, ⟨sqK BK234⟩, ⟨sqB1 HB GE234⟩⟩
   ·replace c7 := Bool.eq_false_iff.mpr c7
    subst c7
    have H1 : (spec_UntiedOf.j0 k true a0_0 a0_1) = some (r1, r2) := by rw [if_neg (show ¬ (false = true) by decide)] at H; exact H
    clear H
    have H := H1
    clear H1
    have H' := Aside0.mk H
    clear H
    obtain ⟨hcz11_0, hcz11_1, hfz11_0, hfz11_1⟩ := sqY2 BK234
    go_wp2_with (first | ((with_reducible refine gate_callee (f := 11) rfl ?_); refine goesL_ (some 7) rfl rfl Try.func11 (by kernel_rfl) rfl #[.agg #[.int .i64 a0_0, .int .i64 a0_1]] rfl sqA ?_; (with_reducible refine (spec_FractionOk.calls k a0_0 a0_1 true _ A4.out).mono ?_); rintro e w12 ⟨rfl, hb⟩; refine ⟨_, rfl, ?_⟩; replace BK234 := sqT BK234 hb; replace HB := sqS (sqB1 HB GE234) hb; (try clear hb); obtain ⟨hcz13_0, hcz13_1, hfz13_0, hfz13_1⟩ := sqY2 BK234) | (go_at_call 22; (with_reducible refine (spec_l1In.calls a0_0 (-12) 12 false _ A6.out).mono ?_); rintro e w' ⟨rfl, ⟨nd, rfl⟩⟩))
    go_meet
    case rel => exact ⟨_, (true), Z2, H', ⟨Z3⟩, ⟨sqK BK234⟩, ⟨sqB1 HB GE234⟩⟩
  ·replace c5 := Bool.eq_false_iff.mpr c5
   subst c5
   have H1 : (spec_UntiedOf.j0 k true a0_0 a0_1) = some (r1, r2) := by rw [if_neg (show ¬ (false = true) by decide)] at H; exact H
   clear H
   have H := H1
   clear H1
   have H' := Aside0.mk H
   clear H
   obtain ⟨hcz14_0, hcz14_1, hfz14_0, hfz14_1⟩ := sqY2 BK234
   go_wp2_with (first | ((with_reducible refine gate_callee (f := 11) rfl ?_); refine goesL_ (some 7) rfl rfl Try.func11 (by kernel_rfl) rfl #[.agg #[.int .i64 a0_0, .int .i64 a0_1]] rfl sqA ?_; (with_reducible refine (spec_FractionOk.calls k a0_0 a0_1 false _ A4.out).mono ?_); rintro e w15 ⟨rfl, hb⟩; refine ⟨_, rfl, ?_⟩; replace BK234 := sqT BK234 hb; replace HB := sqS (sqB1 HB GE234) hb; (try clear hb)))
   go_meet
   case rel => exact ⟨_, (true), Z2, H', ⟨Z3⟩, ⟨sqK BK234⟩, ⟨sqB1 HB GE234⟩⟩
 case rest =>
  clear HC2
  try clear c1; try clear p2; try clear c3; try clear c5; try clear c7; try clear c11; try clear hcz10_0; try clear hcz10_1; try clear hcz11_0; try clear hcz11_1; try clear hcz13_0; try clear hcz13_1; try clear hcz14_0; try clear hcz14_1; try clear hcz8_0; try clear hcz8_1; try clear hfz10_0; try clear hfz10_1; try clear hfz11_0; try clear hfz11_1; try clear hfz13_0; try clear hfz13_1; try clear hfz14_0; try clear hfz14_1; try clear hfz8_0; try clear hfz8_1
  obtain ⟨kq, x19_1, rfl, HA, HJ1, BK234, HB⟩ := hcut
  cases kq with
  | zero => exact absurd HA.out (by simp [spec_UntiedOf.j0])
  | succ kj1 =>
   have H := HA.out
   clear HA
   simp only [spec_UntiedOf.j0] at H
   by_cases c16 : x19_1 = true
   ·subst c16
    have H1 : (some ((⟨#[]⟩ : ByteArray), false)) = some (r1, r2) := by rw [if_pos rfl] at H; exact H
    clear H
    have H := H1
    clear H1
    simp only [Option.some.injEq, Prod.mk.injEq] at H
    obtain ⟨rfl, rfl⟩ := H
    go_wp2
    go_ret2
    exact ⟨Z14, sqB1 HB GE234⟩
   ·replace c16 := Bool.eq_false_iff.mpr c16
    subst c16
    have H1 : (spec_UntiedOf.l0 kj1 (⟨#[]⟩ : ByteArray) a0_0 a0_1) = some (r1, r2) := by rw [if_neg (show ¬ (false = true) by decide)] at H; exact H
    clear H
    have H := H1
    clear H1
    have H' := Aside0.mk H
    clear H
    obtain ⟨hcz17_0, hcz17_1, hfz17_0, hfz17_1⟩ := sqY2 BK234
    go_wp2_with (first | ((with_reducible refine gate_dst (N := 5) rfl ?_); refine sqBox (N := 5) (cs := #[.int .i64 0, .int .i64 0]) (t := 24) ?_; intro gb237 hg w18 BK237 hb; have GW237 := Aside0.mk ((sqG hg (sqB1 HB GE234))); have GE237 := GW237; replace HB := sqS (sqB1 HB GE234) hb; obtain ⟨NB234_237, NB237_234⟩ := sqM hg BK234; replace BK234 := sqT BK234 hb; clear hb hg; have hnb19 := NB237_234.out; have hnc19 := NB234_237.out; obtain ⟨hcz20_0, hcz20_1, hfz20_0, hfz20_1⟩ := sqY2 BK237))
    go_loopg [4] kj1 (fun kq v4 w' => ∃ (x4_2 : ByteArray) (x238000_2 : Int) (x238001_2 : Int), v4 = .string x4_2 ∧ Aside0 (spec_UntiedOf.l0 kq x4_2 x238000_2 x238001_2 = some (r1, r2)) ∧ Aside0 (kq ≤ kj1) ∧ Aside0 (w'.heap[gb234]? = some (.cells #[.int .i64 a0_0, .int .i64 a0_1] 24 (0, 0))) ∧ Aside0 (w'.heap[gb237]? = some (.cells #[.int .i64 x238000_2, .int .i64 x238001_2] 24 (0, 0))) ∧ Aside0 (Below w.heap.size w w'))
    case atStart => exact ⟨((⟨#[]⟩ : ByteArray)), (a0_0), (a0_1), Z2, H', ⟨Nat.le_refl _⟩, ⟨Z9 NB234_237 BK234⟩, ⟨Z54 BK237⟩, ⟨sqB2 HB GE234 GE237⟩⟩
    case round =>
     clear H'
     try clear c1; try clear p2; try clear c3; try clear c5; try clear c7; try clear c11; try clear c16; try clear c19; try clear hcz10_0; try clear hcz10_1; try clear hcz11_0; try clear hcz11_1; try clear hcz13_0; try clear hcz13_1; try clear hcz14_0; try clear hcz14_1; try clear hcz17_0; try clear hcz17_1; try clear hcz20_0; try clear hcz20_1; try clear hcz8_0; try clear hcz8_1; try clear hfz10_0; try clear hfz10_1; try clear hfz11_0; try clear hfz11_1; try clear hfz13_0; try clear hfz13_1; try clear hfz14_0; try clear hfz14_1; try clear hfz17_0; try clear hfz17_1; try clear hfz20_0; try clear hfz20_1; try clear hfz8_0; try clear hfz8_1; try clear p2
     obtain ⟨x4_2, x238000_2, x238001_2, rfl, HA, HK2, BK234, BK237, HB⟩ := hrel
     cases gk with
     | zero => exact absurd HA.out (by simp [spec_UntiedOf.l0])
     | succ k2 =>
      have H := HA.out
      clear HA
      simp only [spec_UntiedOf.l0] at H
      by_cases c21 : x238000_2 = 0
      ·rw [if_pos c21] at H
       have c21b0 : (x238000_2 == 0) = true := beq_iff_eq.mpr c21
       have c21b1 : (x238000_2 != 0) = false := bne_eq_false_iff_eq.mpr c21
       clear c21
       simp only [Option.some.injEq, Prod.mk.injEq] at H
       obtain ⟨rfl, rfl⟩ := H
       have hnb22 := NB237_234.out
       have hnc22 := NB234_237.out
       obtain ⟨hcz23_0, hcz23_1, hfz23_0, hfz23_1⟩ := sqY2 BK237
       go_wp2
       go_ret2
       exact ⟨Z14, sqB2 HB GE234 GE237⟩
      ·rw [if_neg c21] at H
       have c21b0 : (x238000_2 == 0) = false := beq_eq_false_iff_ne.mpr c21
       have c21b1 : (x238000_2 != 0) = true := bne_iff_ne.mpr c21
       by_cases c24 : x238000_2 < 0
       ·rw [if_pos c24] at H
        have c24b0 : decide (x238000_2 < 0) = true := decide_eq_true c24
        clear c24
        replace H := Option.bind_eq_some_iff.mp H
        obtain ⟨⟨t238, t239, t240⟩, A250, H⟩ := H
        replace H : (if x4_2.size + 1 ≤ 9223372036854775807 then (spec_UntiedOf.l0 k2 (x4_2 ++ (⟨#[84]⟩ : ByteArray)) t238 t239) else (none)) = some (r1, r2) := H
        have A25 := Aside0.mk A250
        clear A250
        by_cases c26 : x4_2.size + 1 ≤ 9223372036854775807
        ·rw [if_pos c26] at H
         have c26b0 := eq_true c26
         have c26b1 : decide (x4_2.size + 1 ≤ 9223372036854775807) = true := decide_eq_true c26
         try have c26b2 : (9223372036854775807 < x4_2.size + 1) = False := eq_false (Nat.not_lt.2 c26)
         have H' := Aside0.mk H
         clear H
         have hnb27 := NB237_234.out
         have hnc27 := NB234_237.out
         obtain ⟨hcz28_0, hcz28_1, hfz28_0, hfz28_1⟩ := sqY2 BK237
         go_wp2_with (first | ((with_reducible refine gate_callee (f := 42) rfl ?_); refine goesL_ (some 29) rfl rfl Try.func42 (by kernel_rfl) rfl #[.agg #[.int .i64 x238000_2, .int .i64 x238001_2], .int .i64 1] rfl sqA ?_; (with_reducible refine (spec_PlusOf.calls k2 x238000_2 x238001_2 1 t238 t239 t240 _ A25.out).mono ?_); rintro e w29 ⟨rfl, hb⟩; refine ⟨_, rfl, ?_⟩; replace BK234 := sqT BK234 hb; replace BK237 := sqT BK237 hb; replace HB := sqS (sqB2 HB GE234 GE237) hb; (try clear hb); obtain ⟨hcz30_0, hcz30_1, hfz30_0, hfz30_1⟩ := sqY2 BK237))
         go_roundg k2
         case measure => have := HJ1.out; have := HK2.out; omega
         case rel => exact ⟨(x4_2 ++ (⟨#[84]⟩ : ByteArray)), (t238), (t239), Z2, H', ⟨by have := HJ1.out; have := HK2.out; omega⟩, ⟨Z9 NB234_237 BK234⟩, ⟨by refine sqPut (cs := #[.int .i64 t238, .int .i64 x238001_2]) ?_ 1; refine sqPut (cs := #[.int .i64 x238000_2, .int .i64 x238001_2]) ?_ 0; exact sqK BK237⟩, ⟨sqB2 HB GE234 GE237⟩⟩
        ·rw [if_neg c26] at H
         exact absurd H (by simp)
       ·rw [if_neg c24] at H
        have c24b0 : decide (x238000_2 < 0) = false := decide_eq_false c24
        clear c24
        replace H := Option.bind_eq_some_iff.mp H
        obtain ⟨⟨t241, t242⟩, A310, H⟩ := H
        replace H : (if x4_2.size + 1 ≤ 9223372036854775807 then (spec_UntiedOf.l0 k2 (x4_2 ++ (⟨#[82]⟩ : ByteArray)) t241 t242) else (none)) = some (r1, r2) := H
        have A31 := Aside0.mk A310
        clear A310
        by_cases c32 : x4_2.size + 1 ≤ 9223372036854775807
        ·rw [if_pos c32] at H
         have c32b0 := eq_true c32
         have c32b1 : decide (x4_2.size + 1 ≤ 9223372036854775807) = true := decide_eq_true c32
         try have c32b2 : (9223372036854775807 < x4_2.size + 1) = False := eq_false (Nat.not_lt.2 c32)
         have H' := Aside0.mk H
         clear H
         have hnb33 := NB237_234.out
         have hnc33 := NB234_237.out
         obtain ⟨hcz34_0, hcz34_1, hfz34_0, hfz34_1⟩ := sqY2 BK237
         go_wp2_with (first | ((with_reducible refine gate_callee (f := 43) rfl ?_); refine goesL_ (some 35) rfl rfl Try.func43 (by kernel_rfl) rfl #[.agg #[.int .i64 x238000_2, .int .i64 x238001_2]] rfl sqA ?_; (with_reducible refine (spec_OverOf.calls k2 x238000_2 x238001_2 t241 t242 _ A31.out).mono ?_); rintro e w35 ⟨rfl, hb⟩; refine ⟨_, rfl, ?_⟩; replace BK234 := sqT BK234 hb; replace BK237 := sqT BK237 hb; replace HB := sqS (sqB2 HB GE234 GE237) hb; (try clear hb); obtain ⟨hcz36_0, hcz36_1, hfz36_0, hfz36_1⟩ := sqY2 BK237))
         go_roundg k2
         case measure => have := HJ1.out; have := HK2.out; omega
         case rel => exact ⟨(x4_2 ++ (⟨#[82]⟩ : ByteArray)), (t241), (t242), Z2, H', ⟨by have := HJ1.out; have := HK2.out; omega⟩, ⟨Z9 NB234_237 BK234⟩, ⟨by refine sqPut (cs := #[.int .i64 t241, .int .i64 x238001_2]) ?_ 1; refine sqPut (cs := #[.int .i64 x238000_2, .int .i64 x238001_2]) ?_ 0; exact sqK BK237⟩, ⟨sqB2 HB GE234 GE237⟩⟩
        ·rw [if_neg c32] at H
         exact absurd H (by simp)

/-! ### spec_l11Made: function 26 -/
def spec_l11Made.f (k : Nat) (a0_0 : Int) (a0_1 : Int) (a1_0 : Int) (a1_1 : ByteArray) : Option (Int × Int × Bool) := if a1_0 = 0 then ((spec_DancedFrom.f k a0_0 a0_1 a1_1).bind fun bt246 => (some (bt246.1, bt246.2.1, bt246.2.2))) else (if a1_0 = 1 then ((spec_ReadFraction.f k a1_1).bind fun bt249 => (some (bt249.1, bt249.2.1, bt249.2.2))) else (if (a1_0 == 2 && (a1_1.toList == ([] : List UInt8))) = true then ((spec_MirrorOf.f k a0_0 a0_1).bind fun bt252 => (some (bt252.1, bt252.2, true))) else (if (a1_0 == 3 && (a1_1.toList == ([] : List UInt8))) = true then ((spec_UntiedOf.f k a0_0 a0_1).bind fun bt254 => (some (0, 1, bt254.2))) else (some (a0_0, a0_1, false)))))
theorem spec_l11Made.mono : ∀ a0 a1 a2 a3 k, LeO (spec_l11Made.f k a0 a1 a2 a3) (spec_l11Made.f (k + 1) a0 a1 a2 a3) := by
 intro a0 a1 a2 a3 k
 unfold spec_l11Made.f
 repeat' first
   | (with_reducible exact spec_DancedFrom.mono _ _ _ _)
   | (with_reducible exact spec_MirrorOf.mono _ _ _)
   | (with_reducible exact spec_ReadFraction.mono _ _)
   | (with_reducible exact spec_UntiedOf.mono _ _ _)
   | (with_reducible exact LeO.refl _)
   | (with_reducible exact LeO.none _)
   | (with_reducible refine LeO.ite ?_ ?_)
   | (with_reducible refine LeO.bind ?_ (fun _ => ?_))
set_option maxHeartbeats 8000000 in
set_option maxRecDepth 100000 in
theorem spec_l11Made.calls (k : Nat) (a0_0 : Int) (a0_1 : Int) (a1_0 : Int) (a1_1 : ByteArray) (r1 : Int) (r2 : Int) (r3 : Bool) (w : World) (h : spec_l11Made.f k a0_0 a0_1 a1_0 a1_1 = some (r1, r2, r3)) :
  Calls Try.prog 26 #[.agg #[.int .i64 a0_0, .int .i64 a0_1], .agg #[.int .i64 a1_0, .string a1_1]] w fun e w' => e = .returned (.tuple #[.agg #[.int .i64 r1, .int .i64 r2], .bool r3]) ∧ Below w.heap.size w w' := by
 have hu24 := Try.underlying24
 have hu42 := Try.underlying42
 have HB := Aside0.mk (Below.refl w.heap.size w)
 have H : (if a1_0 = 0 then ((spec_DancedFrom.f k a0_0 a0_1 a1_1).bind fun bt246 => (some (bt246.1, bt246.2.1, bt246.2.2))) else (if a1_0 = 1 then ((spec_ReadFraction.f k a1_1).bind fun bt249 => (some (bt249.1, bt249.2.1, bt249.2.2))) else (if (a1_0 == 2 && (a1_1.toList == ([] : List UInt8))) = true then ((spec_MirrorOf.f k a0_0 a0_1).bind fun bt252 => (some (bt252.1, bt252.2, true))) else (if (a1_0 == 3 && (a1_1.toList == ([] : List UInt8))) = true then ((spec_UntiedOf.f k a0_0 a0_1).bind fun bt254 => (some (0, 1, bt254.2))) else (some (a0_0, a0_1, false)))))) = some (r1, r2, r3) := h
 clear h
 by_cases c3 : a1_0 = 0
 ·rw [if_pos c3] at H
  have c3b0 : (a1_0 == 0) = true := beq_iff_eq.mpr c3
  have c3b1 : (a1_0 != 0) = false := bne_eq_false_iff_eq.mpr c3
  clear c3
  replace H := Option.bind_eq_some_iff.mp H
  obtain ⟨⟨t246, t247, t248⟩, A40, H⟩ := H
  replace H : (some (t246, t247, t248)) = some (r1, r2, r3) := H
  have A4 := Aside0.mk A40
  clear A40
  simp only [Option.some.injEq, Prod.mk.injEq] at H
  obtain ⟨rfl, rfl, rfl⟩ := H
  go_enter Try.func26, Try.ntmps26
  go_wp2_with (first | ((with_reducible refine gate_dst (N := 2) rfl ?_); refine sqBox (N := 2) (cs := #[.int .i64 a0_0, .int .i64 a0_1]) (t := 24) ?_; intro gb243 hg w5 BK243 hb; have GW243 := Aside0.mk ((sqG hg (sqB HB))); have GE243 := GW243; replace HB := sqS (sqB HB) hb; clear hb hg) | ((with_reducible refine gate_dst (N := 3) rfl ?_); refine sqBox (N := 3) (cs := #[.int .i64 a1_0, .string a1_1]) (t := 42) ?_; intro gb244 hg w6 BK244 hb; have GW244 := Aside0.mk ((sqG hg (sqB1 HB GE243))); have GE244 := GW244; replace HB := sqS (sqB1 HB GE243) hb; obtain ⟨NB243_244, NB244_243⟩ := sqM hg BK243; replace BK243 := sqT BK243 hb; clear hb hg) | ((with_reducible refine gate_dst (N := 4) rfl ?_); refine sqBox (N := 4) (cs := #[.int .i64 0, .int .i64 0]) (t := 24) ?_; intro gb245 hg w7 BK245 hb; have GW245 := Aside0.mk ((sqG hg (sqB2 HB GE243 GE244))); have GE245 := GW245; replace HB := sqS (sqB2 HB GE243 GE244) hb; obtain ⟨NB243_245, NB245_243⟩ := sqM hg BK243; replace BK243 := sqT BK243 hb; obtain ⟨NB244_245, NB245_244⟩ := sqM hg BK244; replace BK244 := sqT BK244 hb; clear hb hg; have hnb8 := NB244_243.out; have hnc8 := NB243_244.out; have hnb9 := NB244_245.out; have hnc9 := NB245_244.out; obtain ⟨hcz10_0, hcz10_1, hfz10_0, hfz10_1⟩ := sqY2 BK244; have hnb11 := NB243_245.out; have hnc11 := NB245_243.out; obtain ⟨hcz12_0, hcz12_1, hfz12_0, hfz12_1⟩ := sqY2 BK243) | ((with_reducible refine gate_callee (f := 33) rfl ?_); refine goesL_ (some 15) rfl rfl Try.func33 (by kernel_rfl) rfl #[.agg #[.int .i64 a0_0, .int .i64 a0_1], .string a1_1] rfl sqA ?_; (with_reducible refine (spec_DancedFrom.calls k a0_0 a0_1 a1_1 t246 t247 t248 _ A4.out).mono ?_); rintro e w13 ⟨rfl, hb⟩; refine ⟨_, rfl, ?_⟩; replace BK243 := sqT BK243 hb; replace BK244 := sqT BK244 hb; replace BK245 := sqT BK245 hb; replace HB := sqS (sqB3 HB GE243 GE244 GE245) hb; (try clear hb); obtain ⟨hcz14_0, hcz14_1, hfz14_0, hfz14_1⟩ := sqY2 BK245))
  refine bodyPost_ret (results_ct rfl _ _ gb245 24 #[.int .i64 t246, .int .i64 t247] (0, 0) _ rfl (by refine sqPut (cs := #[.int .i64 t246, .int .i64 0]) ?_ 1; refine sqPut (cs := #[.int .i64 0, .int .i64 0]) ?_ 0; exact sqK BK245) Try.underlying24 rfl (by kernel_rfl)) rfl ?_
  exact ⟨Z14, sqB3 HB GE243 GE244 GE245⟩
 ·rw [if_neg c3] at H
  have c3b0 : (a1_0 == 0) = false := beq_eq_false_iff_ne.mpr c3
  have c3b1 : (a1_0 != 0) = true := bne_iff_ne.mpr c3
  by_cases c15 : a1_0 = 1
  ·rw [if_pos c15] at H
   have c15b0 : (a1_0 == 1) = true := beq_iff_eq.mpr c15
   have c15b1 : (a1_0 != 1) = false := bne_eq_false_iff_eq.mpr c15
   clear c15
   replace H := Option.bind_eq_some_iff.mp H
   obtain ⟨⟨t249, t250, t251⟩, A160, H⟩ := H
   replace H : (some (t249, t250, t251)) = some (r1, r2, r3) := H
   have A16 := Aside0.mk A160
   clear A160
   simp only [Option.some.injEq, Prod.mk.injEq] at H
   obtain ⟨rfl, rfl, rfl⟩ := H
   go_enter Try.func26, Try.ntmps26
   go_wp2_with (first | ((with_reducible refine gate_dst (N := 2) rfl ?_); refine sqBox (N := 2) (cs := #[.int .i64 a0_0, .int .i64 a0_1]) (t := 24) ?_; intro gb243 hg w17 BK243 hb; have GW243 := Aside0.mk ((sqG hg (sqB HB))); have GE243 := GW243; replace HB := sqS (sqB HB) hb; clear hb hg) | ((with_reducible refine gate_dst (N := 3) rfl ?_); refine sqBox (N := 3) (cs := #[.int .i64 a1_0, .string a1_1]) (t := 42) ?_; intro gb244 hg w18 BK244 hb; have GW244 := Aside0.mk ((sqG hg (sqB1 HB GE243))); have GE244 := GW244; replace HB := sqS (sqB1 HB GE243) hb; obtain ⟨NB243_244, NB244_243⟩ := sqM hg BK243; replace BK243 := sqT BK243 hb; clear hb hg) | ((with_reducible refine gate_dst (N := 4) rfl ?_); refine sqBox (N := 4) (cs := #[.int .i64 0, .int .i64 0]) (t := 24) ?_; intro gb245 hg w19 BK245 hb; have GW245 := Aside0.mk ((sqG hg (sqB2 HB GE243 GE244))); have GE245 := GW245; replace HB := sqS (sqB2 HB GE243 GE244) hb; obtain ⟨NB243_245, NB245_243⟩ := sqM hg BK243; replace BK243 := sqT BK243 hb; obtain ⟨NB244_245, NB245_244⟩ := sqM hg BK244; replace BK244 := sqT BK244 hb; clear hb hg; have hnb20 := NB244_243.out; have hnc20 := NB243_244.out; have hnb21 := NB244_245.out; have hnc21 := NB245_244.out; obtain ⟨hcz22_0, hcz22_1, hfz22_0, hfz22_1⟩ := sqY2 BK244) | ((with_reducible refine gate_callee (f := 34) rfl ?_); refine goesL_ (some 24) rfl rfl Try.func34 (by kernel_rfl) rfl #[.string a1_1] rfl sqA ?_; (with_reducible refine (spec_ReadFraction.calls k a1_1 t249 t250 t251 _ A16.out).mono ?_); rintro e w23 ⟨rfl, hb⟩; refine ⟨_, rfl, ?_⟩; replace BK243 := sqT BK243 hb; replace BK244 := sqT BK244 hb; replace BK245 := sqT BK245 hb; replace HB := sqS (sqB3 HB GE243 GE244 GE245) hb; (try clear hb); have hnb24 := NB245_243.out; have hnc24 := NB243_245.out; obtain ⟨hcz25_0, hcz25_1, hfz25_0, hfz25_1⟩ := sqY2 BK245))
   refine bodyPost_ret (results_ct rfl _ _ gb245 24 #[.int .i64 t249, .int .i64 t250] (0, 0) _ rfl (by refine sqPut (cs := #[.int .i64 t249, .int .i64 0]) ?_ 1; refine sqPut (cs := #[.int .i64 0, .int .i64 0]) ?_ 0; exact sqK BK245) Try.underlying24 rfl (by kernel_rfl)) rfl ?_
   exact ⟨Z14, sqB3 HB GE243 GE244 GE245⟩
  ·rw [if_neg c15] at H
   have c15b0 : (a1_0 == 1) = false := beq_eq_false_iff_ne.mpr c15
   have c15b1 : (a1_0 != 1) = true := bne_iff_ne.mpr c15
   by_cases c26 : (a1_0 == 2 && (a1_1.toList == ([] : List UInt8))) = true
   ·rw [if_pos c26] at H
    have c26b0 : (a1_0 == 2 && (a1_1.toList == ([] : List UInt8))) = true := c26
    try have c26b8 : (a1_0 == 2 && a1_1.toList.isEmpty) = true := by (have h_ := c26b0; (repeat rw [show ∀ z : List UInt8, (z == ([] : List UInt8)) = z.isEmpty from fun z => by cases z <;> rfl] at h_); exact h_)
    (try (have c26b1 : decide (a1_0 = 2 && (a1_1.toList == ([] : List UInt8))) = true := by simpa using c26))
    (try (have c26b2 : (a1_0 == 2 && (a1_1.toList == ([] : List UInt8))) = true := by simpa using c26))
    clear c26
    replace H := Option.bind_eq_some_iff.mp H
    obtain ⟨⟨t252, t253⟩, A270, H⟩ := H
    replace H : (some (t252, t253, true)) = some (r1, r2, r3) := H
    have A27 := Aside0.mk A270
    clear A270
    simp only [Option.some.injEq, Prod.mk.injEq] at H
    obtain ⟨rfl, rfl, rfl⟩ := H
    go_enter Try.func26, Try.ntmps26
    go_wp2_with (first | ((with_reducible refine gate_dst (N := 2) rfl ?_); refine sqBox (N := 2) (cs := #[.int .i64 a0_0, .int .i64 a0_1]) (t := 24) ?_; intro gb243 hg w28 BK243 hb; have GW243 := Aside0.mk ((sqG hg (sqB HB))); have GE243 := GW243; replace HB := sqS (sqB HB) hb; clear hb hg) | ((with_reducible refine gate_dst (N := 3) rfl ?_); refine sqBox (N := 3) (cs := #[.int .i64 a1_0, .string a1_1]) (t := 42) ?_; intro gb244 hg w29 BK244 hb; have GW244 := Aside0.mk ((sqG hg (sqB1 HB GE243))); have GE244 := GW244; replace HB := sqS (sqB1 HB GE243) hb; obtain ⟨NB243_244, NB244_243⟩ := sqM hg BK243; replace BK243 := sqT BK243 hb; clear hb hg) | ((with_reducible refine gate_dst (N := 4) rfl ?_); refine sqBox (N := 4) (cs := #[.int .i64 0, .int .i64 0]) (t := 24) ?_; intro gb245 hg w30 BK245 hb; have GW245 := Aside0.mk ((sqG hg (sqB2 HB GE243 GE244))); have GE245 := GW245; replace HB := sqS (sqB2 HB GE243 GE244) hb; obtain ⟨NB243_245, NB245_243⟩ := sqM hg BK243; replace BK243 := sqT BK243 hb; obtain ⟨NB244_245, NB245_244⟩ := sqM hg BK244; replace BK244 := sqT BK244 hb; clear hb hg; have hnb31 := NB244_243.out; have hnc31 := NB243_244.out; have hnb32 := NB244_245.out; have hnc32 := NB245_244.out; obtain ⟨hcz33_0, hcz33_1, hfz33_0, hfz33_1⟩ := sqY2 BK244; have hnb34 := NB243_245.out; have hnc34 := NB245_243.out; obtain ⟨hcz35_0, hcz35_1, hfz35_0, hfz35_1⟩ := sqY2 BK243) | ((with_reducible refine gate_callee (f := 35) rfl ?_); refine goesL_ (some 32) rfl rfl Try.func35 (by kernel_rfl) rfl #[.agg #[.int .i64 a0_0, .int .i64 a0_1]] rfl sqA ?_; (with_reducible refine (spec_MirrorOf.calls k a0_0 a0_1 t252 t253 _ A27.out).mono ?_); rintro e w36 ⟨rfl, hb⟩; refine ⟨_, rfl, ?_⟩; replace BK243 := sqT BK243 hb; replace BK244 := sqT BK244 hb; replace BK245 := sqT BK245 hb; replace HB := sqS (sqB3 HB GE243 GE244 GE245) hb; (try clear hb); obtain ⟨hcz37_0, hcz37_1, hfz37_0, hfz37_1⟩ := sqY2 BK245))
    refine bodyPost_ret (results_ct rfl _ _ gb245 24 #[.int .i64 t252, .int .i64 t253] (0, 0) _ rfl (by refine sqPut (cs := #[.int .i64 t252, .int .i64 0]) ?_ 1; refine sqPut (cs := #[.int .i64 0, .int .i64 0]) ?_ 0; exact sqK BK245) Try.underlying24 rfl (by kernel_rfl)) rfl ?_
    exact ⟨Z14, sqB3 HB GE243 GE244 GE245⟩
   ·rw [if_neg c26] at H
    have c26b0 : (a1_0 == 2 && (a1_1.toList == ([] : List UInt8))) = false := by simpa using c26
    try have c26b8 : (a1_0 == 2 && a1_1.toList.isEmpty) = false := by (have h_ := c26b0; (repeat rw [show ∀ z : List UInt8, (z == ([] : List UInt8)) = z.isEmpty from fun z => by cases z <;> rfl] at h_); exact h_)
    (try (have c26b1 : decide (a1_0 = 2 && (a1_1.toList == ([] : List UInt8))) = false := by simpa using c26))
    (try (have c26b2 : (a1_0 == 2 && (a1_1.toList == ([] : List UInt8))) = false := by simpa using c26))
    (try (have c26b3 : ¬ (a1_0 = 2 && (a1_1.toList == ([] : List UInt8))) := by simpa using c26))
    clear c26
    by_cases c38 : (a1_0 == 3 && (a1_1.toList == ([] : List UInt8))) = true
    ·rw [if_pos c38] at H
     have c38b0 : (a1_0 == 3 && (a1_1.toList == ([] : List UInt8))) = true := c38
     try have c38b8 : (a1_0 == 3 && a1_1.toList.isEmpty) = true := by (have h_ := c38b0; (repeat rw [show ∀ z : List UInt8, (z == ([] : List UInt8)) = z.isEmpty from fun z => by cases z <;> rfl] at h_); exact h_)
     (try (have c38b1 : decide (a1_0 = 3 && (a1_1.toList == ([] : List UInt8))) = true := by simpa using c38))
     (try (have c38b2 : (a1_0 == 3 && (a1_1.toList == ([] : List UInt8))) = true := by simpa using c38))
     clear c38
     replace H := Option.bind_eq_some_iff.mp H
     obtain ⟨⟨t254, t255⟩, A390, H⟩ := H
     replace H : (some (0, 1, t255)) = some (r1, r2, r3) := H
     have A39 := Aside0.mk A390
     clear A390
     simp only [Option.some.injEq, Prod.mk.injEq] at H
     obtain ⟨rfl, rfl, rfl⟩ := H
     go_enter Try.func26, Try.ntmps26
     go_wp2_with (first | ((with_reducible refine gate_dst (N := 2) rfl ?_); refine sqBox (N := 2) (cs := #[.int .i64 a0_0, .int .i64 a0_1]) (t := 24) ?_; intro gb243 hg w40 BK243 hb; have GW243 := Aside0.mk ((sqG hg (sqB HB))); have GE243 := GW243; replace HB := sqS (sqB HB) hb; clear hb hg) | ((with_reducible refine gate_dst (N := 3) rfl ?_); refine sqBox (N := 3) (cs := #[.int .i64 a1_0, .string a1_1]) (t := 42) ?_; intro gb244 hg w41 BK244 hb; have GW244 := Aside0.mk ((sqG hg (sqB1 HB GE243))); have GE244 := GW244; replace HB := sqS (sqB1 HB GE243) hb; obtain ⟨NB243_244, NB244_243⟩ := sqM hg BK243; replace BK243 := sqT BK243 hb; clear hb hg) | ((with_reducible refine gate_dst (N := 4) rfl ?_); refine sqBox (N := 4) (cs := #[.int .i64 0, .int .i64 0]) (t := 24) ?_; intro gb245 hg w42 BK245 hb; have GW245 := Aside0.mk ((sqG hg (sqB2 HB GE243 GE244))); have GE245 := GW245; replace HB := sqS (sqB2 HB GE243 GE244) hb; obtain ⟨NB243_245, NB245_243⟩ := sqM hg BK243; replace BK243 := sqT BK243 hb; obtain ⟨NB244_245, NB245_244⟩ := sqM hg BK244; replace BK244 := sqT BK244 hb; clear hb hg; have hnb43 := NB244_243.out; have hnc43 := NB243_244.out; have hnb44 := NB244_245.out; have hnc44 := NB245_244.out; obtain ⟨hcz45_0, hcz45_1, hfz45_0, hfz45_1⟩ := sqY2 BK244; have hnb46 := NB243_245.out; have hnc46 := NB245_243.out; obtain ⟨hcz47_0, hcz47_1, hfz47_0, hfz47_1⟩ := sqY2 BK243) | ((with_reducible refine gate_callee (f := 36) rfl ?_); refine goesL_ (some 39) rfl rfl Try.func36 (by kernel_rfl) rfl #[.agg #[.int .i64 a0_0, .int .i64 a0_1]] rfl sqA ?_; (with_reducible refine (spec_UntiedOf.calls k a0_0 a0_1 t254 t255 _ A39.out).mono ?_); rintro e w48 ⟨rfl, hb⟩; refine ⟨_, rfl, ?_⟩; replace BK243 := sqT BK243 hb; replace BK244 := sqT BK244 hb; replace BK245 := sqT BK245 hb; replace HB := sqS (sqB3 HB GE243 GE244 GE245) hb; (try clear hb); obtain ⟨hcz49_0, hcz49_1, hfz49_0, hfz49_1⟩ := sqY2 BK245))
     refine bodyPost_ret (results_ct rfl _ _ gb245 24 #[.int .i64 0, .int .i64 1] (0, 0) _ rfl (Z26 BK245) Try.underlying24 rfl (by kernel_rfl)) rfl ?_
     exact ⟨Z14, sqB3 HB GE243 GE244 GE245⟩
    ·rw [if_neg c38] at H
     have c38b0 : (a1_0 == 3 && (a1_1.toList == ([] : List UInt8))) = false := by simpa using c38
     try have c38b8 : (a1_0 == 3 && a1_1.toList.isEmpty) = false := by (have h_ := c38b0; (repeat rw [show ∀ z : List UInt8, (z == ([] : List UInt8)) = z.isEmpty from fun z => by cases z <;> rfl] at h_); exact h_)
     (try (have c38b1 : decide (a1_0 = 3 && (a1_1.toList == ([] : List UInt8))) = false := by simpa using c38))
     (try (have c38b2 : (a1_0 == 3 && (a1_1.toList == ([] : List UInt8))) = false := by simpa using c38))
     (try (have c38b3 : ¬ (a1_0 = 3 && (a1_1.toList == ([] : List UInt8))) := by simpa using c38))
     clear c38
     simp only [Option.some.injEq, Prod.mk.injEq] at H
     obtain ⟨rfl, rfl, rfl⟩ := H
     go_enter Try.func26, Try.ntmps26
     go_wp2_with (first | ((with_reducible refine gate_dst (N := 2) rfl ?_); refine sqBox (N := 2) (cs := #[.int .i64 a0_0, .int .i64 a0_1]) (t := 24) ?_; intro gb243 hg w50 BK243 hb; have GW243 := Aside0.mk ((sqG hg (sqB HB))); have GE243 := GW243; replace HB := sqS (sqB HB) hb; clear hb hg) | ((with_reducible refine gate_dst (N := 3) rfl ?_); refine sqBox (N := 3) (cs := #[.int .i64 a1_0, .string a1_1]) (t := 42) ?_; intro gb244 hg w51 BK244 hb; have GW244 := Aside0.mk ((sqG hg (sqB1 HB GE243))); have GE244 := GW244; replace HB := sqS (sqB1 HB GE243) hb; obtain ⟨NB243_244, NB244_243⟩ := sqM hg BK243; replace BK243 := sqT BK243 hb; clear hb hg) | ((with_reducible refine gate_dst (N := 4) rfl ?_); refine sqBox (N := 4) (cs := #[.int .i64 0, .int .i64 0]) (t := 24) ?_; intro gb245 hg w52 BK245 hb; have GW245 := Aside0.mk ((sqG hg (sqB2 HB GE243 GE244))); have GE245 := GW245; replace HB := sqS (sqB2 HB GE243 GE244) hb; obtain ⟨NB243_245, NB245_243⟩ := sqM hg BK243; replace BK243 := sqT BK243 hb; obtain ⟨NB244_245, NB245_244⟩ := sqM hg BK244; replace BK244 := sqT BK244 hb; clear hb hg; have hnb53 := NB244_243.out; have hnc53 := NB243_244.out; have hnb54 := NB244_245.out; have hnc54 := NB245_244.out; obtain ⟨hcz55_0, hcz55_1, hfz55_0, hfz55_1⟩ := sqY2 BK244; have hnb56 := NB243_245.out; have hnc56 := NB245_243.out; obtain ⟨hcz57_0, hcz57_1, hfz57_0, hfz57_1⟩ := sqY2 BK243; obtain ⟨hcz58_0, hcz58_1, hfz58_0, hfz58_1⟩ := sqY2 BK245))
     refine bodyPost_ret (results_ct rfl _ _ gb245 24 #[.int .i64 a0_0, .int .i64 a0_1] (0, 0) _ rfl (Z54 BK245) Try.underlying24 rfl (by kernel_rfl)) rfl ?_
     exact ⟨Z14, sqB3 HB GE243 GE244 GE245⟩

end Go.Proofs.Ytcfnihniaakbeaa.PFnDeskOk
