/- The walk of the law FnDeskOk, for the answer true: turned by a program of this session from the printed walk. -/
import Derived.Test.YtcfnihniaakbeaaPFnDeskOkx0
import Derived.Test.YtcfnihniaakbeaaPFnDeskOkx1
import Derived.Test.YtcfnihniaakbeaaPFnDeskOkx2
import Derived.Test.YtcfnihniaakbeaaPFnDeskOkx3
import Derived.Test.YtcfnihniaakbeaaPFnDeskOkx4
import Derived.Test.YtcfnihniaakbeaaPFnDeskOkx5
import Derived.Test.YtcfnihniaakbeaaPFnDeskOkx6
import Derived.Test.YtcfnihniaakbeaaPFnDeskOkx7
import Derived.Test.YtcfnihniaakbeaaPFnDeskOkx8
import Derived.Test.YtcfnihniaakbeaaPFnDeskOkx9
import Derived.Test.YtcfnihniaakbeaaPFnDeskOkx10
import Derived.Test.YtcfnihniaakbeaaPFnDeskOkx11
import Derived.Test.YtcfnihniaakbeaaPFnDeskOkx12
import Derived.Test.YtcfnihniaakbeaaPFnDeskOkx13
namespace Go.Proofs.Ytcfnihniaakbeaa.PFnDeskOk
open Go.RowKit Go.Proofs.YtcfnihniaakbeaaW.PrintWords Go.Proofs.YtcfnihniaakbeaaW.PrintLast Go.Proofs.YtcfnihniaakbeaaW.PrintMore
attribute [local go_sem] max2_int min2_int max_two min_two max_three min_three max_four min_four   -- for this text's walks alone
set_option linter.unusedVariables false
set_option linter.unusedSimpArgs false

/-! ### spec_l20Open: function 9 -/
def spec_l20Open.f (l0 : List Int) : Option (List Int × Int) := if (l0.length : Int) > 2000 then (if 2000 ≤ (l0.length : Int) then (some (l0.take 2000, 0)) else (none)) else (some (l0, 0))
set_option maxHeartbeats 8000000 in
set_option maxRecDepth 100000 in
theorem spec_l20Open.calls (A0 : Option Addr) (c0 : Nat) (l0 : List Int) (r1 : List Int) (r2 : Int) (w0 w : World) (hB : Below w0.heap.size w0 w) (hr0 : Kd.C (Kd.int .u8) w0 A0 l0.length l0) (hc0 : l0.length ≤ c0) (h : spec_l20Open.f l0 = some (r1, r2)) :
  Calls Try.prog 9 #[.slice A0 l0.length c0] w fun e w' => ∃ g_ : Nat, e = .returned (.pointer (some ⟨g_, 0, none⟩)) ∧ IsS46 w0 w' g_ r1 r2 ∧ Below w0.heap.size w0 w' ∧ Below w.heap.size w w' := by
 have hu46 := Try.underlying46
 have HR0 := Aside0.mk hr0
 have HC0 := Aside0.mk hc0
 clear hr0 hc0
 have HBW := Aside0.mk (Below.refl w.heap.size w)
 have HW0 := Aside0.mk hB.size
 have HB := Aside0.mk hB
 clear hB
 have H : (if (l0.length : Int) > 2000 then (if 2000 ≤ (l0.length : Int) then (some (l0.take 2000, 0)) else (none)) else (some (l0, 0))) = some (r1, r2) := h
 clear h
 by_cases c2 : (l0.length : Int) > 2000
 ·rw [if_pos c2] at H
  have c2b0 : decide (2000 < (l0.length : Int)) = true := decide_eq_true c2
  have c2b1 : decide (2000 < l0.length) = true := decide_eq_true (by omega)
  clear c2
  by_cases c3 : 2000 ≤ (l0.length : Int)
  ·rw [if_pos c3] at H
   have c3b0 := eq_true c3
   have c3b1 : decide (2000 ≤ (l0.length : Int)) = true := decide_eq_true c3
   clear c3
   simp only [Option.some.injEq, Prod.mk.injEq] at H
   obtain ⟨rfl, rfl⟩ := H
   obtain ⟨i04, hi04, _, hsz4, _⟩ := info_parts info5
   obtain ⟨hcut4, hA4, hC4⟩ := print_take_of (P := Try.prog) (Value.int .u8) 0 22 5 .i64 Try.underlying22 hi04 hsz4 A0 c0 l0 2000 (by omega) (of_decide_eq_true Z7) HC0.out
   have HR360 := Aside0.mk (Kd.C_of_reads (h1 := fun _ => rfl) (hA4 _ (Kd.reads_of_C HR0.out)))
   have HC360 := Aside0.mk hC4
   clear hA4 hC4 hi04 hsz4
   go_enter Try.func9, Try.ntmps9
   go_wp2_with (first | ((with_reducible refine gate_dst (N := 10) rfl ?_); refine sqBox (N := 10) (cs := #[.slice A0 (l0.take 2000).length c0, .int .i64 0]) (t := 46) ?_; intro gb361 hg w5 BK361 hb; replace HB := sqS (sqB HB) hb; have GW361 := Aside0.mk ((sqG hg (sqB HBW))); have GE361 := Aside0.mk ((Nat.le_trans HW0.out (sqG hg (sqB HBW)) : w0.heap.size ≤ gb361)); replace HBW := Aside0.mk (below_step HBW.out hb); clear hb hg))
   go_ret
   exact ⟨_, rfl, (show IsS46 w0 _ gb361 (l0.take 2000) 0 from ⟨_, _, by exact sqK BK361, GE361.out, HR360.out⟩), sqB1 HB GE361, sqB1 HBW GW361⟩
  ·rw [if_neg c3] at H
   exact absurd H (by simp)
 ·rw [if_neg c2] at H
  have c2b0 : decide (2000 < (l0.length : Int)) = false := decide_eq_false c2
  have c2b1 : decide (2000 < l0.length) = false := decide_eq_false (by omega)
  clear c2
  simp only [Option.some.injEq, Prod.mk.injEq] at H
  obtain ⟨rfl, rfl⟩ := H
  go_enter Try.func9, Try.ntmps9
  go_wp2_with (first | ((with_reducible refine gate_dst (N := 10) rfl ?_); refine sqBox (N := 10) (cs := #[.slice A0 l0.length c0, .int .i64 0]) (t := 46) ?_; intro gb362 hg w6 BK362 hb; replace HB := sqS (sqB HB) hb; have GW362 := Aside0.mk ((sqG hg (sqB HBW))); have GE362 := Aside0.mk ((Nat.le_trans HW0.out (sqG hg (sqB HBW)) : w0.heap.size ≤ gb362)); replace HBW := Aside0.mk (below_step HBW.out hb); clear hb hg))
  go_ret
  exact ⟨_, rfl, (show IsS46 w0 _ gb362 l0 0 from ⟨_, _, by exact sqK BK362, GE362.out, HR0.out⟩), sqB1 HB GE362, sqB1 HBW GW362⟩

/-! ### spec_DrawDeskOk: function 4 -/
def spec_DrawDeskOk.f (k : Nat) (l0 : List Int) : Option (Int × Int × (List (S24))) := (spec_l20Open.f l0).bind fun bt364 => ((spec_l20Desk.f k bt364.1 bt364.2 2).bind fun bt367 => (some (bt367.1, bt367.2.1, bt367.2.2.1)))
theorem spec_DrawDeskOk.mono : ∀ a0 k, LeO (spec_DrawDeskOk.f k a0) (spec_DrawDeskOk.f (k + 1) a0) := by
 intro a0 k
 unfold spec_DrawDeskOk.f
 repeat' first
   | (with_reducible exact spec_l20Desk.mono _ _ _ _)
   | (with_reducible exact LeO.refl _)
   | (with_reducible exact LeO.none _)
   | (with_reducible refine LeO.ite ?_ ?_)
   | (with_reducible refine LeO.bind ?_ (fun _ => ?_))
set_option maxHeartbeats 8000000 in
set_option maxRecDepth 100000 in
theorem spec_DrawDeskOk.calls (k : Nat) (A0 : Option Addr) (c0 : Nat) (l0 : List Int) (r1 : Int) (r2 : Int) (r3 : List (S24)) (w : World) (hr0 : Kd.C (Kd.int .u8) w A0 l0.length l0) (hc0 : l0.length ≤ c0) (h : spec_DrawDeskOk.f k l0 = some (r1, r2, r3)) :
  Calls Try.prog 4 #[.slice A0 l0.length c0] w fun e w' => ∃ v2_ : Value, e = .returned (.agg #[.int .i64 r1, .int .i64 r2, v2_]) ∧ Kd.Q k24 24 w' w.heap.size (fun _ => True) v2_ r3 ∧ Below w.heap.size w w' := by
 have hu27 := Try.underlying27
 have HR0 := Aside0.mk hr0
 have HC0 := Aside0.mk hc0
 clear hr0 hc0
 have HB := Aside0.mk (Below.refl w.heap.size w)
 have H : ((spec_l20Open.f l0).bind fun bt364 => ((spec_l20Desk.f k bt364.1 bt364.2 2).bind fun bt367 => (some (bt367.1, bt367.2.1, bt367.2.2.1)))) = some (r1, r2, r3) := h
 clear h
 replace H := Option.bind_eq_some_iff.mp H
 obtain ⟨⟨t364, t365⟩, A20, H⟩ := H
 replace H : ((spec_l20Desk.f k t364 t365 2).bind fun bt367 => (some (bt367.1, bt367.2.1, bt367.2.2.1))) = some (r1, r2, r3) := H
 have A2 := Aside0.mk A20
 clear A20
 replace H := Option.bind_eq_some_iff.mp H
 obtain ⟨⟨t367, t368, t369, t372⟩, A30, H⟩ := H
 replace H : (some (t367, t368, t369)) = some (r1, r2, r3) := H
 have A3 := Aside0.mk A30
 clear A30
 simp only [Option.some.injEq, Prod.mk.injEq] at H
 obtain ⟨rfl, rfl, rfl⟩ := H
 go_enter Try.func4, Try.ntmps4
 go_wp2_with (first | ((with_reducible refine gate_dst (N := 2) rfl ?_); refine sqBox (N := 2) (cs := #[.int .i64 0, .int .i64 0, .slice none 0 0]) (t := 27) ?_; intro gb363 hg w4 BK363 hb; have GW363 := Aside0.mk ((sqG hg (sqB HB))); have GE363 := GW363; replace HB := sqS (sqB HB) hb; clear hb hg) | ((with_reducible refine gate_callee (f := 9) rfl ?_); refine goesL_ (some 4) rfl rfl Try.func9 (by kernel_rfl) rfl #[.slice A0 l0.length c0] rfl sqA ?_; (with_reducible refine (spec_l20Open.calls _ _ l0 t364 t365 w _ ?side1 ?side2 ?side3 A2.out).mono ?_); (case side1 => repeat (first | (with_reducible first | exact HB.out | apply below_alloc | apply pw_below_drewN | apply below_drew1 | refine below_set ?_ GE363.out) | exact HB.out)); (case side2 => exact HR0.out); (case side3 => exact HC0.out); rintro e w5 ⟨g366, rfl, hi, hb, hb2⟩; refine ⟨_, rfl, ?_⟩; replace HB := Aside0.mk (hb); have HI366 := Aside0.mk (hi); have NB366_363 := Aside0.mk (IsS46.ne_blk hi (blk_below (sqK BK363) hb2) (by decide)); have NB363_366 := Aside0.mk (Ne.symm (IsS46.ne_blk hi (blk_below (sqK BK363) hb2) (by decide))); replace BK363 := Aside0.mk (blk_below (sqK BK363) hb2); (try clear hb)) | ((with_reducible refine gate_callee (f := 8) rfl ?_); refine goesL_ (some 5) rfl rfl Try.func8 (by kernel_rfl) rfl #[.pointer (some ⟨g366, 0, none⟩), .int .i64 2] rfl sqA ?_; (with_reducible refine (spec_l20Desk.calls k g366 t364 t365 2 t367 t368 t369 t372 w _ ?side1 ?side2 A3.out).mono ?_); (case side1 => exact Z27 HI366 NB366_363); (case side2 => exact Z28 HI366 GE363); rintro e w6 ⟨v370, rfl, ho0, hi, hb, hk⟩; refine ⟨_, rfl, ?_⟩; replace BK363 := Aside0.mk (KeepBut.blk hk (g' := gb363) (o := .cells #[.int .i64 0, .int .i64 0, .slice none 0 0] 27 (0, 0)) (sqK BK363) NB363_366.out (by simp)); have HO371 := Aside0.mk (Kd.Q_lower ho0 (below_size (Z28 HI366 GE363))); replace HB := Aside0.mk (hb); replace HI366 := Aside0.mk (hi); (try clear hb); (try clear ho0); have hnb7 := NB363_366.out; have hnc7 := NB366_363.out; obtain ⟨hcz8_0, hcz8_1, hcz8_2, hfz8_0, hfz8_1, hfz8_2⟩ := sqY3 BK363; obtain ⟨Ao9, co9, eo9, _⟩ := Kd.Q_slice HO371.out; subst eo9))
 refine bodyPost_ret (results_cell_row rfl _ _ gb363 27 #[.int .i64 t367, .int .i64 t368, .slice Ao9 t369.length co9] (0, 0) _ rfl (by refine sqPut (cs := #[.int .i64 t367, .int .i64 t368, .slice none 0 0]) ?_ 2; refine sqPut (cs := #[.int .i64 t367, .int .i64 0, .slice none 0 0]) ?_ 1; refine sqPut (cs := #[.int .i64 0, .int .i64 0, .slice none 0 0]) ?_ 0; exact sqK BK363) Try.underlying27 rfl (by kernel_rfl)) rfl ?_
 exact ⟨_, Z14, by (with_reducible repeat (first | apply Kd.Q_alloc | apply Kd.Q_drewN | apply Kd.Q_drew)); exact Kd.Q_mono (Kd.Q_far (p := ⟨gb363, 2, none⟩) (Kd.Q_far (p := ⟨gb363, 1, none⟩) (Kd.Q_far (p := ⟨gb363, 0, none⟩) (Kd.Q_types HO371.out BK363.out (by decide)) (fun _ hk => hk.2) (.int .i64 t367)) (fun _ hk => hk.2) (.int .i64 t368)) (fun _ hk => hk.2) (.slice Ao9 t369.length co9)) (fun _ hk => trivial), Z28 HI366 GE363⟩

/-! ### impl_isPart: function 30 -/
def impl_isPart.f (a0 : Int) : Option (Bool) := if a0 ≥ (-1000000) then (some (decide (a0 ≤ 1000000))) else (some false)
set_option maxHeartbeats 8000000 in
set_option maxRecDepth 100000 in
theorem impl_isPart.calls (a0 : Int) (r : Bool) (w : World) (h : impl_isPart.f a0 = some r) :
  Calls Try.prog 30 #[.int .i64 a0] w fun e w' => e = .returned (.bool r) ∧ Drawn0 w w' := by
 have H : (if a0 ≥ (-1000000) then (some (decide (a0 ≤ 1000000))) else (some false)) = some r := h
 clear h
 by_cases c2 : a0 ≥ (-1000000)
 ·rw [if_pos c2] at H
  have c2b0 : decide ((-1000000) ≤ a0) = true := decide_eq_true c2
  clear c2
  obtain rfl := Option.some.inj H
  go_enter Try.func30, Try.ntmps30
  go_wp2
  go_ret
  exact ⟨Z2, Z23⟩
 ·rw [if_neg c2] at H
  have c2b0 : decide ((-1000000) ≤ a0) = false := decide_eq_false c2
  clear c2
  obtain rfl := Option.some.inj H
  go_enter Try.func30, Try.ntmps30
  go_wp2
  go_ret
  exact ⟨Z2, Z23⟩

/-! ### impl_gcd: function 31 -/
def impl_gcd.l0 : Nat → Int → Int → Option (Int)
 | 0, _, _ => none
 | k + 1, x0, x1 => if x1 = 0 then (some (mx x0 (wrap64 (-x0)))) else (impl_gcd.l0 k x1 (Int.tmod x0 x1))
def impl_gcd.f (k : Nat) (a0 : Int) (a1 : Int) : Option (Int) := impl_gcd.l0 k a0 a1
theorem impl_gcd.mono_l : ∀ k, (∀ y0 y1, LeO (impl_gcd.l0 k y0 y1) (impl_gcd.l0 (k + 1) y0 y1))
 | 0 => fun _ _ r h => by simp [impl_gcd.l0] at h
 | k + 1 => by
  have ih0 := impl_gcd.mono_l k
  ·intro y0 y1
   unfold impl_gcd.l0
   repeat' first
   | (with_reducible exact ih0 _ _)
   | (with_reducible exact LeO.refl _)
   | (with_reducible exact LeO.none _)
   | (with_reducible refine LeO.ite ?_ ?_)
   | (with_reducible refine LeO.bind ?_ (fun _ => ?_))
theorem impl_gcd.mono : ∀ a0 a1 k, LeO (impl_gcd.f k a0 a1) (impl_gcd.f (k + 1) a0 a1) := by
 intro a0 a1 k
 have ih0 := impl_gcd.mono_l k
 unfold impl_gcd.f
 repeat' first
   | (with_reducible exact ih0 _ _)
   | (with_reducible exact LeO.refl _)
   | (with_reducible exact LeO.none _)
   | (with_reducible refine LeO.ite ?_ ?_)
   | (with_reducible refine LeO.bind ?_ (fun _ => ?_))
set_option maxHeartbeats 8000000 in
set_option maxRecDepth 100000 in
theorem impl_gcd.calls (k : Nat) (a0 : Int) (a1 : Int) (r : Int) (w : World) (h : impl_gcd.f k a0 a1 = some r) :
  Calls Try.prog 31 #[.int .i64 a0, .int .i64 a1] w fun e w' => e = .returned (.int .i64 r) ∧ Below w.heap.size w w' := by
 have HB := Aside0.mk (Below.refl w.heap.size w)
 have H : (impl_gcd.l0 k a0 a1) = some r := h
 clear h
 have H' := Aside0.mk H
 clear H
 go_enter Try.func31, Try.ntmps31
 go_wp2
 repeat (go_quiet (fail); try go_wp2)
 go_loopg [0, 1] k (fun kq v0 v1 w' => ∃ (x0_1 : Int) (x1_1 : Int), v0 = .int .i64 x0_1 ∧ v1 = .int .i64 x1_1 ∧ Aside0 (impl_gcd.l0 kq x0_1 x1_1 = some r) ∧ Aside0 (kq ≤ k) ∧ Aside0 (Below w.heap.size w w'))
 case atStart => exact ⟨(a0), (a1), Z2, Z2, H', ⟨Nat.le_refl _⟩, ⟨sqB HB⟩⟩
 case round =>
  clear H'
  try clear p2
  obtain ⟨x0_1, x1_1, rfl, rfl, HA, HK1, HB⟩ := hrel
  cases gk with
  | zero => exact absurd HA.out (by simp [impl_gcd.l0])
  | succ k1 =>
   have H := HA.out
   clear HA
   simp only [impl_gcd.l0] at H
   by_cases c3 : x1_1 = 0
   ·rw [if_pos c3] at H
    have c3b0 : (x1_1 == 0) = true := beq_iff_eq.mpr c3
    have c3b1 : (x1_1 != 0) = false := bne_eq_false_iff_eq.mpr c3
    clear c3
    obtain ⟨ji4, hji4⟩ : ∃ j_ : Int, (mx x0_1 (wrap64 (-x0_1))) = j_ := ⟨_, rfl⟩
    replace H : (some ji4) = some r := by first | (rw [hji4] at H; exact H) | (simp only [hji4] at H ⊢; exact H)
    have hji4_ : (if x0_1 < (wrap64 (-x0_1)) then (wrap64 (-x0_1)) else x0_1) = ji4 := hji4
    obtain rfl := Option.some.inj H
    go_wp2
    repeat (go_quiet (fail); try go_wp2)
    go_ret
    exact ⟨by first | rfl | (simp [errW_none, errW_some] <;> rfl) | (simp only [← hji4]; first | rfl | (simp [errW_none, errW_some] <;> rfl)) | (simp [*, errW_none, errW_some] <;> rfl), sqB HB⟩
   ·rw [if_neg c3] at H
    have c3b0 : (x1_1 == 0) = false := beq_eq_false_iff_ne.mpr c3
    have c3b1 : (x1_1 != 0) = true := bne_iff_ne.mpr c3
    have H' := Aside0.mk H
    clear H
    go_wp2
    repeat (go_quiet (fail); try go_wp2)
    go_roundg k1
    case measure => have := HK1.out; omega
    case rel => exact ⟨(x1_1), (Int.tmod x0_1 x1_1), Z2, Z2, H', ⟨Z15 HK1⟩, ⟨sqB HB⟩⟩

/-! ### impl_isFraction: function 19 -/
def impl_isFraction.f (k : Nat) (a0_0 : Int) (a0_1 : Int) : Option (Bool) := (impl_isPart.f a0_0).bind fun t374 => (if t374 = true then (if a0_1 < 0 then (some false) else (if a0_1 > 1000000 then (some false) else (if a0_1 = 0 then (if a0_0 = 1 then ((impl_gcd.f k a0_0 a0_1).bind fun t375 => (some (t375 == 1))) else (some false)) else ((impl_gcd.f k a0_0 a0_1).bind fun t376 => (some (t376 == 1)))))) else (some false))
theorem impl_isFraction.mono : ∀ a0 a1 k, LeO (impl_isFraction.f k a0 a1) (impl_isFraction.f (k + 1) a0 a1) := by
 intro a0 a1 k
 unfold impl_isFraction.f
 repeat' first
   | (with_reducible exact impl_gcd.mono _ _ _)
   | (with_reducible exact LeO.refl _)
   | (with_reducible exact LeO.none _)
   | (with_reducible refine LeO.ite ?_ ?_)
   | (with_reducible refine LeO.bind ?_ (fun _ => ?_))
set_option maxHeartbeats 8000000 in
set_option maxRecDepth 100000 in
theorem impl_isFraction.calls (k : Nat) (a0_0 : Int) (a0_1 : Int) (r : Bool) (w : World) (h : impl_isFraction.f k a0_0 a0_1 = some r) :
  Calls Try.prog 19 #[.agg #[.int .i64 a0_0, .int .i64 a0_1]] w fun e w' => e = .returned (.bool r) ∧ Below w.heap.size w w' := by
 have hu24 := Try.underlying24
 have HB := Aside0.mk (Below.refl w.heap.size w)
 have H : ((impl_isPart.f a0_0).bind fun t374 => (if t374 = true then (if a0_1 < 0 then (some false) else (if a0_1 > 1000000 then (some false) else (if a0_1 = 0 then (if a0_0 = 1 then ((impl_gcd.f k a0_0 a0_1).bind fun t375 => (some (t375 == 1))) else (some false)) else ((impl_gcd.f k a0_0 a0_1).bind fun t376 => (some (t376 == 1)))))) else (some false))) = some r := h
 clear h
 obtain ⟨t374, A2, H⟩ := sqD H
 by_cases c3 : t374 = true
 ·subst c3
  have H1 : (if a0_1 < 0 then (some false) else (if a0_1 > 1000000 then (some false) else (if a0_1 = 0 then (if a0_0 = 1 then ((impl_gcd.f k a0_0 a0_1).bind fun t375 => (some (t375 == 1))) else (some false)) else ((impl_gcd.f k a0_0 a0_1).bind fun t376 => (some (t376 == 1)))))) = some r := by rw [if_pos rfl] at H; exact H
  clear H
  have H := H1
  clear H1
  by_cases c4 : a0_1 < 0
  ·rw [if_pos c4] at H
   have c4b0 : decide (a0_1 < 0) = true := decide_eq_true c4
   clear c4
   obtain rfl := Option.some.inj H
   go_enter Try.func19, Try.ntmps19
   go_wp2_with (first | ((with_reducible refine gate_dst (N := 1) rfl ?_); refine sqBox (N := 1) (cs := #[.int .i64 a0_0, .int .i64 a0_1]) (t := 24) ?_; intro gb373 hg w5 BK373 hb; have GW373 := Aside0.mk ((sqG hg (sqB HB))); have GE373 := GW373; replace HB := sqS (sqB HB) hb; clear hb hg; obtain ⟨hcz6_0, hcz6_1, hfz6_0, hfz6_1⟩ := sqY2 BK373) | ((with_reducible refine gate_callee (f := 30) rfl ?_); refine goesL_ (some 5) rfl rfl Try.func30 (by kernel_rfl) rfl #[.int .i64 a0_0] rfl sqA ?_; (with_reducible refine (impl_isPart.calls a0_0 true _ A2.out).mono ?_); rintro e w' ⟨rfl, ⟨nd, rfl⟩⟩; refine ⟨_, rfl, ?_⟩))
   go_ret
   exact ⟨Z14, sqB1 HB GE373⟩
  ·rw [if_neg c4] at H
   have c4b0 : decide (a0_1 < 0) = false := decide_eq_false c4
   clear c4
   by_cases c7 : a0_1 > 1000000
   ·rw [if_pos c7] at H
    have c7b0 : decide (1000000 < a0_1) = true := decide_eq_true c7
    clear c7
    obtain rfl := Option.some.inj H
    go_enter Try.func19, Try.ntmps19
    go_wp2_with (first | ((with_reducible refine gate_dst (N := 1) rfl ?_); refine sqBox (N := 1) (cs := #[.int .i64 a0_0, .int .i64 a0_1]) (t := 24) ?_; intro gb373 hg w8 BK373 hb; have GW373 := Aside0.mk ((sqG hg (sqB HB))); have GE373 := GW373; replace HB := sqS (sqB HB) hb; clear hb hg; obtain ⟨hcz9_0, hcz9_1, hfz9_0, hfz9_1⟩ := sqY2 BK373) | ((with_reducible refine gate_callee (f := 30) rfl ?_); refine goesL_ (some 5) rfl rfl Try.func30 (by kernel_rfl) rfl #[.int .i64 a0_0] rfl sqA ?_; (with_reducible refine (impl_isPart.calls a0_0 true _ A2.out).mono ?_); rintro e w' ⟨rfl, ⟨nd, rfl⟩⟩; refine ⟨_, rfl, ?_⟩))
    go_ret
    exact ⟨Z14, sqB1 HB GE373⟩
   ·rw [if_neg c7] at H
    have c7b0 : decide (1000000 < a0_1) = false := decide_eq_false c7
    clear c7
    by_cases c10 : a0_1 = 0
    ·rw [if_pos c10] at H
     have c10b0 : (a0_1 == 0) = true := beq_iff_eq.mpr c10
     have c10b1 : (a0_1 != 0) = false := bne_eq_false_iff_eq.mpr c10
     clear c10
     by_cases c11 : a0_0 = 1
     ·rw [if_pos c11] at H
      have c11b0 : (a0_0 == 1) = true := beq_iff_eq.mpr c11
      have c11b1 : (a0_0 != 1) = false := bne_eq_false_iff_eq.mpr c11
      clear c11
      obtain ⟨t375, A12, H⟩ := sqD H
      obtain rfl := Option.some.inj H
      go_enter Try.func19, Try.ntmps19
      go_wp2_with (first | ((with_reducible refine gate_dst (N := 1) rfl ?_); refine sqBox (N := 1) (cs := #[.int .i64 a0_0, .int .i64 a0_1]) (t := 24) ?_; intro gb373 hg w13 BK373 hb; have GW373 := Aside0.mk ((sqG hg (sqB HB))); have GE373 := GW373; replace HB := sqS (sqB HB) hb; clear hb hg; obtain ⟨hcz14_0, hcz14_1, hfz14_0, hfz14_1⟩ := sqY2 BK373) | ((with_reducible refine gate_callee (f := 30) rfl ?_); refine goesL_ (some 5) rfl rfl Try.func30 (by kernel_rfl) rfl #[.int .i64 a0_0] rfl sqA ?_; (with_reducible refine (impl_isPart.calls a0_0 true _ A2.out).mono ?_); rintro e w' ⟨rfl, ⟨nd, rfl⟩⟩; refine ⟨_, rfl, ?_⟩) | ((with_reducible refine gate_callee (f := 31) rfl ?_); refine goesL_ (some 31) rfl rfl Try.func31 (by kernel_rfl) rfl #[.int .i64 a0_0, .int .i64 a0_1] rfl sqA ?_; (with_reducible refine (impl_gcd.calls k a0_0 a0_1 t375 _ A12.out).mono ?_); rintro e w15 ⟨rfl, hb⟩; refine ⟨_, rfl, ?_⟩; replace BK373 := sqT BK373 hb; replace HB := sqS (sqB1 HB GE373) hb; (try clear hb)))
      go_ret
      exact ⟨Z14, sqB1 HB GE373⟩
     ·rw [if_neg c11] at H
      have c11b0 : (a0_0 == 1) = false := beq_eq_false_iff_ne.mpr c11
      have c11b1 : (a0_0 != 1) = true := bne_iff_ne.mpr c11
      obtain rfl := Option.some.inj H
      go_enter Try.func19, Try.ntmps19
      go_wp2_with (first | ((with_reducible refine gate_dst (N := 1) rfl ?_); refine sqBox (N := 1) (cs := #[.int .i64 a0_0, .int .i64 a0_1]) (t := 24) ?_; intro gb373 hg w16 BK373 hb; have GW373 := Aside0.mk ((sqG hg (sqB HB))); have GE373 := GW373; replace HB := sqS (sqB HB) hb; clear hb hg; obtain ⟨hcz17_0, hcz17_1, hfz17_0, hfz17_1⟩ := sqY2 BK373) | ((with_reducible refine gate_callee (f := 30) rfl ?_); refine goesL_ (some 5) rfl rfl Try.func30 (by kernel_rfl) rfl #[.int .i64 a0_0] rfl sqA ?_; (with_reducible refine (impl_isPart.calls a0_0 true _ A2.out).mono ?_); rintro e w' ⟨rfl, ⟨nd, rfl⟩⟩; refine ⟨_, rfl, ?_⟩))
      go_ret
      exact ⟨Z14, sqB1 HB GE373⟩
    ·rw [if_neg c10] at H
     have c10b0 : (a0_1 == 0) = false := beq_eq_false_iff_ne.mpr c10
     have c10b1 : (a0_1 != 0) = true := bne_iff_ne.mpr c10
     obtain ⟨t376, A18, H⟩ := sqD H
     obtain rfl := Option.some.inj H
     go_enter Try.func19, Try.ntmps19
     go_wp2_with (first | ((with_reducible refine gate_dst (N := 1) rfl ?_); refine sqBox (N := 1) (cs := #[.int .i64 a0_0, .int .i64 a0_1]) (t := 24) ?_; intro gb373 hg w19 BK373 hb; have GW373 := Aside0.mk ((sqG hg (sqB HB))); have GE373 := GW373; replace HB := sqS (sqB HB) hb; clear hb hg; obtain ⟨hcz20_0, hcz20_1, hfz20_0, hfz20_1⟩ := sqY2 BK373) | ((with_reducible refine gate_callee (f := 30) rfl ?_); refine goesL_ (some 5) rfl rfl Try.func30 (by kernel_rfl) rfl #[.int .i64 a0_0] rfl sqA ?_; (with_reducible refine (impl_isPart.calls a0_0 true _ A2.out).mono ?_); rintro e w' ⟨rfl, ⟨nd, rfl⟩⟩; refine ⟨_, rfl, ?_⟩) | ((with_reducible refine gate_callee (f := 31) rfl ?_); refine goesL_ (some 31) rfl rfl Try.func31 (by kernel_rfl) rfl #[.int .i64 a0_0, .int .i64 a0_1] rfl sqA ?_; (with_reducible refine (impl_gcd.calls k a0_0 a0_1 t376 _ A18.out).mono ?_); rintro e w21 ⟨rfl, hb⟩; refine ⟨_, rfl, ?_⟩; replace BK373 := sqT BK373 hb; replace HB := sqS (sqB1 HB GE373) hb; (try clear hb)))
     go_ret
     exact ⟨Z14, sqB1 HB GE373⟩
 ·replace c3 := Bool.eq_false_iff.mpr c3
  subst c3
  have H1 : (some false) = some r := by rw [if_neg (show ¬ (false = true) by decide)] at H; exact H
  clear H
  have H := H1
  clear H1
  obtain rfl := Option.some.inj H
  go_enter Try.func19, Try.ntmps19
  go_wp2_with (first | ((with_reducible refine gate_dst (N := 1) rfl ?_); refine sqBox (N := 1) (cs := #[.int .i64 a0_0, .int .i64 a0_1]) (t := 24) ?_; intro gb373 hg w22 BK373 hb; have GW373 := Aside0.mk ((sqG hg (sqB HB))); have GE373 := GW373; replace HB := sqS (sqB HB) hb; clear hb hg; obtain ⟨hcz23_0, hcz23_1, hfz23_0, hfz23_1⟩ := sqY2 BK373) | ((with_reducible refine gate_callee (f := 30) rfl ?_); refine goesL_ (some 5) rfl rfl Try.func30 (by kernel_rfl) rfl #[.int .i64 a0_0] rfl sqA ?_; (with_reducible refine (impl_isPart.calls a0_0 false _ A2.out).mono ?_); rintro e w' ⟨rfl, ⟨nd, rfl⟩⟩; refine ⟨_, rfl, ?_⟩))
  go_ret
  exact ⟨Z14, sqB1 HB GE373⟩

/-! ### impl_isDesk_1: function 21 -/
def impl_isDesk_1.f (k : Nat) (a0_0 : Int) (a0_1 : Int) : Option (Bool) := (impl_isFraction.f k a0_0 a0_1).bind fun t378 => (some (!t378))
theorem impl_isDesk_1.mono : ∀ a0 a1 k, LeO (impl_isDesk_1.f k a0 a1) (impl_isDesk_1.f (k + 1) a0 a1) := by
 intro a0 a1 k
 unfold impl_isDesk_1.f
 repeat' first
   | (with_reducible exact impl_isFraction.mono _ _ _)
   | (with_reducible exact LeO.refl _)
   | (with_reducible exact LeO.none _)
   | (with_reducible refine LeO.ite ?_ ?_)
   | (with_reducible refine LeO.bind ?_ (fun _ => ?_))
set_option maxHeartbeats 8000000 in
set_option maxRecDepth 100000 in
theorem impl_isDesk_1.calls (k : Nat) (a0_0 : Int) (a0_1 : Int) (r : Bool) (w : World) (h : impl_isDesk_1.f k a0_0 a0_1 = some r) :
  Calls Try.prog 21 #[.agg #[.int .i64 a0_0, .int .i64 a0_1]] w fun e w' => e = .returned (.bool r) ∧ Below w.heap.size w w' := by
 have hu24 := Try.underlying24
 have HB := Aside0.mk (Below.refl w.heap.size w)
 have H : ((impl_isFraction.f k a0_0 a0_1).bind fun t378 => (some (!t378))) = some r := h
 clear h
 obtain ⟨t378, A2, H⟩ := sqD H
 obtain rfl := Option.some.inj H
 go_enter Try.func21, Try.ntmps21
 go_wp2_with (first | ((with_reducible refine gate_dst (N := 1) rfl ?_); refine sqBox (N := 1) (cs := #[.int .i64 a0_0, .int .i64 a0_1]) (t := 24) ?_; intro gb377 hg w3 BK377 hb; have GW377 := Aside0.mk ((sqG hg (sqB HB))); have GE377 := GW377; replace HB := sqS (sqB HB) hb; clear hb hg; obtain ⟨hcz4_0, hcz4_1, hfz4_0, hfz4_1⟩ := sqY2 BK377) | ((with_reducible refine gate_callee (f := 19) rfl ?_); refine goesL_ (some 4) rfl rfl Try.func19 (by kernel_rfl) rfl #[.agg #[.int .i64 a0_0, .int .i64 a0_1]] rfl sqA ?_; (with_reducible refine (impl_isFraction.calls k a0_0 a0_1 t378 _ A2.out).mono ?_); rintro e w5 ⟨rfl, hb⟩; refine ⟨_, rfl, ?_⟩; replace BK377 := sqT BK377 hb; replace HB := sqS (sqB1 HB GE377) hb; (try clear hb)))
 go_ret
 exact ⟨Z14, sqB1 HB GE377⟩

/-! ### impl_Fraction_32: function 32 -/
section
theorem gate_dyn {P : Program} {ops : Array Oper} {rest : List Oper} {o : Oper} {a : Act} {Q : Exit → Act → World → Prop} {W : World} {t : Tmp} {zs : Array Operand} {ts : Array TypeId} (_ho : o.op = .call { callee := .value (.tmp t), args := zs, argTypes := ts }) (h : wpList P ops Q (o :: rest) a W) : wpList P ops Q (o :: rest) a W := h
/-- A call of a function value that stands in a temporary: after the words' goesL_. -/
theorem goesV_ {P : Program} {ops : Array Oper} {Q : Exit → Act → World → Prop} {rest : List Oper} {oi : Oper} {a : Act} {w : World} (N : Option Tmp) (hd : oi.dst = N) (hg : oi.guard = none) {f : FuncId} {fn : Func} {t : Tmp} {zs : Array Operand} {ts : Array TypeId} (hf : P.funcs[f]? = some fn) (hname : (fn.name == "runtime.NumGoroutine") = false) (hb : fn.body.isSome = true) (args : Array Value)
  (hop : oi.op = .call { callee := .value (.tmp t), args := zs, argTypes := ts }) (hev : a.eval (.tmp t) = .func (.func f) #[] #[]) (hargs : zs.map a.eval = args)
  (h : Calls P f args w fun e w' => ∃ v, e = .returned v ∧ wpList P ops Q rest (a.put N v) w') : wpList P ops Q (oi :: rest) a w := by
 refine wpList_plain hg fun K hK => ?_
 have he := enters_ hf hname hb args w
 have hrun : (execOp a.eval oi).run P w = .ok (.enter f args) w := by
  unfold execOp
  simp [hop, resolve, Deferred.ofValue, invoke, hev, hargs, he]
 unfold Oper.wp
 rw [hrun, Oper.upon_enter]
 refine h.mono fun e w'' hh => ?_
 obtain ⟨v, rfl, hk⟩ := hh
 subst hd
 exact hK _ _ hk
end
def impl_Fraction_32.l0 : Nat → List (S24) → Int → Int → Option (Int)
 | 0, _, _, _ => none
 | k + 1, x0, x7, x8 => if x8 < x7 then (if 0 ≤ x8 then (if x8 < (x0.length : Int) then ((impl_isDesk_1.f k ((rd_T24 x0 x8).f0) ((rd_T24 x0 x8).f1)).bind fun t380 => (if t380 = true then (some x8) else (impl_Fraction_32.l0 k x0 x7 (wrap64 (x8 + 1))))) else (none)) else (none)) else (some (-1))
def impl_Fraction_32.f (k : Nat) (l0 : List (S24)) (a1 : Int) : Option (Int) := impl_Fraction_32.l0 k l0 (l0.length : Int) 0
theorem impl_Fraction_32.mono_l : ∀ k, (∀ y0 y1 y2, LeO (impl_Fraction_32.l0 k y0 y1 y2) (impl_Fraction_32.l0 (k + 1) y0 y1 y2))
 | 0 => fun _ _ _ r h => by simp [impl_Fraction_32.l0] at h
 | k + 1 => by
  have ih0 := impl_Fraction_32.mono_l k
  ·intro y0 y1 y2
   unfold impl_Fraction_32.l0
   repeat' first
   | (with_reducible exact ih0 _ _ _)
   | (with_reducible exact impl_isDesk_1.mono _ _ _)
   | (with_reducible exact LeO.refl _)
   | (with_reducible exact LeO.none _)
   | (with_reducible refine LeO.ite ?_ ?_)
   | (with_reducible refine LeO.bind ?_ (fun _ => ?_))
theorem impl_Fraction_32.mono : ∀ a0 a1 k, LeO (impl_Fraction_32.f k a0 a1) (impl_Fraction_32.f (k + 1) a0 a1) := by
 intro a0 a1 k
 have ih0 := impl_Fraction_32.mono_l k
 unfold impl_Fraction_32.f
 repeat' first
   | (with_reducible exact ih0 _ _ _)
   | (with_reducible exact impl_isDesk_1.mono _ _ _)
   | (with_reducible exact LeO.refl _)
   | (with_reducible exact LeO.none _)
   | (with_reducible refine LeO.ite ?_ ?_)
   | (with_reducible refine LeO.bind ?_ (fun _ => ?_))
set_option maxHeartbeats 8000000 in
set_option maxRecDepth 100000 in
theorem impl_Fraction_32.calls (k : Nat) (A0 : Option Addr) (c0 : Nat) (l0 : List (S24)) (a1 : Int) (r : Int) (w : World) (hr0 : Kd.C k24 w A0 l0.length l0) (hc0 : l0.length ≤ c0) (h : impl_Fraction_32.f k l0 a1 = some r) :
  Calls Try.prog 32 #[.slice A0 l0.length c0, .func (.func 21) #[] #[]] w fun e w' => e = .returned (.int .i64 r) ∧ Below w.heap.size w w' := by
 have hu24 := Try.underlying24
 have HR0 := Aside0.mk hr0
 have HC0 := Aside0.mk hc0
 clear hr0 hc0
 have HB := Aside0.mk (Below.refl w.heap.size w)
 have H : (impl_Fraction_32.l0 k l0 (l0.length : Int) 0) = some r := h
 clear h
 have H' := Aside0.mk H
 clear H
 go_enter Try.func32, Try.ntmps32
 go_wp2
 go_loopg [8] k (fun kq v8 w' => ∃ (x8_1 : Int), v8 = .int .i64 x8_1 ∧ Aside0 (impl_Fraction_32.l0 kq l0 (l0.length : Int) x8_1 = some r) ∧ Aside0 (kq ≤ k) ∧ Aside0 (Below w.heap.size w w'))
 case atStart => exact ⟨(0), Z2, H', ⟨Nat.le_refl _⟩, ⟨sqB HB⟩⟩
 case round =>
  clear H'
  try clear p2
  obtain ⟨x8_1, rfl, HA, HK1, HB⟩ := hrel
  cases gk with
  | zero => exact absurd HA.out (by simp [impl_Fraction_32.l0])
  | succ k1 =>
   have H := HA.out
   clear HA
   simp only [impl_Fraction_32.l0] at H
   by_cases c3 : x8_1 < (l0.length : Int)
   ·rw [if_pos c3] at H
    have c3b0 : decide (x8_1 < (l0.length : Int)) = true := decide_eq_true c3
    clear c3
    by_cases c4 : 0 ≤ x8_1
    ·rw [if_pos c4] at H
     have c4b0 : decide (0 ≤ x8_1) = true := decide_eq_true c4
     clear c4
     by_cases c5 : x8_1 < (l0.length : Int)
     ·rw [if_pos c5] at H
      have c5b0 : decide (x8_1 < (l0.length : Int)) = true := decide_eq_true c5
      clear c5
      obtain ⟨t380, A6, H⟩ := sqD H
      by_cases c7 : t380 = true
      ·subst c7
       have H1 : (some x8_1) = some r := by rw [if_pos rfl] at H; exact H
       clear H
       have H := H1
       clear H1
       obtain rfl := Option.some.inj H
       have p379 : 0 ≤ (x8_1 : Int) := of_decide_eq_true Z7
       have q379 : x8_1 < (l0.length : Int) := of_decide_eq_true Z7
       obtain ⟨ad379, e379, hx379_0, hx379_1⟩ := at_T24 HR0.out x8_1 p379 q379
       cases e379
       replace hx379_0 := (HB.out.cell (World.block_lt_of_cell? w _ hx379_0)).trans hx379_0
       replace hx379_1 := (HB.out.cell (World.block_lt_of_cell? w _ hx379_1)).trans hx379_1
       replace p379 := eq_true p379
       replace q379 := eq_true q379
       go_wp2_with (first | ((with_reducible refine gate_dyn rfl ?_); refine goesV_ (some 16) rfl rfl Try.func21 (by kernel_rfl) rfl #[.agg #[.int .i64 ((rd_T24 l0 x8_1).f0), .int .i64 ((rd_T24 l0 x8_1).f1)]] rfl (by rfl) sqA ?_; (with_reducible refine (impl_isDesk_1.calls k1 ((rd_T24 l0 x8_1).f0) ((rd_T24 l0 x8_1).f1) true _ A6.out).mono ?_); rintro e w8 ⟨rfl, hb⟩; refine ⟨_, rfl, ?_⟩; replace HB := sqS (sqB HB) hb; (try clear hb)))
       go_ret
       exact ⟨Z14, sqB HB⟩
      ·replace c7 := Bool.eq_false_iff.mpr c7
       subst c7
       have H1 : (impl_Fraction_32.l0 k1 l0 (l0.length : Int) (wrap64 (x8_1 + 1))) = some r := by rw [if_neg (show ¬ (false = true) by decide)] at H; exact H
       clear H
       have H := H1
       clear H1
       have H' := Aside0.mk H
       clear H
       have p379 : 0 ≤ (x8_1 : Int) := of_decide_eq_true Z7
       have q379 : x8_1 < (l0.length : Int) := of_decide_eq_true Z7
       obtain ⟨ad379, e379, hx379_0, hx379_1⟩ := at_T24 HR0.out x8_1 p379 q379
       cases e379
       replace hx379_0 := (HB.out.cell (World.block_lt_of_cell? w _ hx379_0)).trans hx379_0
       replace hx379_1 := (HB.out.cell (World.block_lt_of_cell? w _ hx379_1)).trans hx379_1
       replace p379 := eq_true p379
       replace q379 := eq_true q379
       go_wp2_with (first | ((with_reducible refine gate_dyn rfl ?_); refine goesV_ (some 16) rfl rfl Try.func21 (by kernel_rfl) rfl #[.agg #[.int .i64 ((rd_T24 l0 x8_1).f0), .int .i64 ((rd_T24 l0 x8_1).f1)]] rfl (by rfl) sqA ?_; (with_reducible refine (impl_isDesk_1.calls k1 ((rd_T24 l0 x8_1).f0) ((rd_T24 l0 x8_1).f1) false _ A6.out).mono ?_); rintro e w9 ⟨rfl, hb⟩; refine ⟨_, rfl, ?_⟩; replace HB := sqS (sqB HB) hb; (try clear hb)))
       go_roundg k1
       case measure => have := HK1.out; omega
       case rel => exact ⟨(wrap64 (x8_1 + 1)), Z2, H', ⟨Z15 HK1⟩, ⟨sqB HB⟩⟩
     ·rw [if_neg c5] at H
      exact absurd H (by simp)
    ·rw [if_neg c4] at H
     exact absurd H (by simp)
   ·rw [if_neg c3] at H
    have c3b0 : decide (x8_1 < (l0.length : Int)) = false := decide_eq_false c3
    clear c3
    obtain rfl := Option.some.inj H
    go_wp2
    go_ret
    exact ⟨Z14, sqB HB⟩

/-! ### impl_Fraction_20: function 20 -/
def impl_Fraction_20.f (k : Nat) (l0 : List (S24)) (a1 : Int) : Option (Bool) := (impl_Fraction_32.f k l0 a1).bind fun t381 => (some (decide (t381 ≥ 0)))
theorem impl_Fraction_20.mono : ∀ a0 a1 k, LeO (impl_Fraction_20.f k a0 a1) (impl_Fraction_20.f (k + 1) a0 a1) := by
 intro a0 a1 k
 unfold impl_Fraction_20.f
 repeat' first
   | (with_reducible exact impl_Fraction_32.mono _ _ _)
   | (with_reducible exact LeO.refl _)
   | (with_reducible exact LeO.none _)
   | (with_reducible refine LeO.ite ?_ ?_)
   | (with_reducible refine LeO.bind ?_ (fun _ => ?_))
set_option maxHeartbeats 8000000 in
set_option maxRecDepth 100000 in
theorem impl_Fraction_20.calls (k : Nat) (A0 : Option Addr) (c0 : Nat) (l0 : List (S24)) (a1 : Int) (r : Bool) (w : World) (hr0 : Kd.C k24 w A0 l0.length l0) (hc0 : l0.length ≤ c0) (h : impl_Fraction_20.f k l0 a1 = some r) :
  Calls Try.prog 20 #[.slice A0 l0.length c0, .func (.func 21) #[] #[]] w fun e w' => e = .returned (.bool r) ∧ Below w.heap.size w w' := by
 have HR0 := Aside0.mk hr0
 have HC0 := Aside0.mk hc0
 clear hr0 hc0
 have HB := Aside0.mk (Below.refl w.heap.size w)
 have H : ((impl_Fraction_32.f k l0 a1).bind fun t381 => (some (decide (t381 ≥ 0)))) = some r := h
 clear h
 obtain ⟨t381, A3, H⟩ := sqD H
 obtain rfl := Option.some.inj H
 go_enter Try.func20, Try.ntmps20
 go_wp2_with (first | ((with_reducible refine gate_callee (f := 32) rfl ?_); refine goesL_ (some 7) rfl rfl Try.func32 (by kernel_rfl) rfl #[.slice A0 l0.length c0, .func (.func 21) #[] #[]] rfl sqA ?_; (with_reducible refine (impl_Fraction_32.calls k _ _ l0 a1 t381 _ ?side1 ?side2 A3.out).mono ?_); (case side1 => exact Z29 HR0); (case side2 => exact HC0.out); rintro e w4 ⟨rfl, hb⟩; refine ⟨_, rfl, ?_⟩; replace HB := sqS (sqB HB) hb; (try clear hb)))
 go_ret
 exact ⟨Z14, sqB HB⟩

/-! ### impl_isDesk: function 10 -/
def impl_isDesk.f (k : Nat) (a0_0 : Int) (a0_1 : Int) (l0_2 : List (S24)) : Option (Bool) := (impl_isFraction.f k a0_0 a0_1).bind fun t383 => (if t383 = true then (if (l0_2.length : Int) ≤ 8 then ((impl_Fraction_20.f k l0_2 777777).bind fun t384 => (some (!t384))) else (some false)) else (some false))
theorem impl_isDesk.mono : ∀ a0 a1 a2 k, LeO (impl_isDesk.f k a0 a1 a2) (impl_isDesk.f (k + 1) a0 a1 a2) := by
 intro a0 a1 a2 k
 unfold impl_isDesk.f
 repeat' first
   | (with_reducible exact impl_Fraction_20.mono _ _ _)
   | (with_reducible exact impl_isFraction.mono _ _ _)
   | (with_reducible exact LeO.refl _)
   | (with_reducible exact LeO.none _)
   | (with_reducible refine LeO.ite ?_ ?_)
   | (with_reducible refine LeO.bind ?_ (fun _ => ?_))
set_option maxHeartbeats 8000000 in
set_option maxRecDepth 100000 in
theorem impl_isDesk.calls (k : Nat) (a0_0 : Int) (a0_1 : Int) (A0_2 : Option Addr) (c0_2 : Nat) (l0_2 : List (S24)) (r : Bool) (w : World) (hr0_2 : Kd.C k24 w A0_2 l0_2.length l0_2) (hc0_2 : l0_2.length ≤ c0_2) (h : impl_isDesk.f k a0_0 a0_1 l0_2 = some r) :
  Calls Try.prog 10 #[.agg #[.int .i64 a0_0, .int .i64 a0_1, .slice A0_2 l0_2.length c0_2]] w fun e w' => e = .returned (.bool r) ∧ Below w.heap.size w w' := by
 have hu27 := Try.underlying27
 have hu24 := Try.underlying24
 have HR0_2 := Aside0.mk hr0_2
 have HC0_2 := Aside0.mk hc0_2
 clear hr0_2 hc0_2
 have HB := Aside0.mk (Below.refl w.heap.size w)
 have H : ((impl_isFraction.f k a0_0 a0_1).bind fun t383 => (if t383 = true then (if (l0_2.length : Int) ≤ 8 then ((impl_Fraction_20.f k l0_2 777777).bind fun t384 => (some (!t384))) else (some false)) else (some false))) = some r := h
 clear h
 obtain ⟨t383, A2, H⟩ := sqD H
 by_cases c3 : t383 = true
 ·subst c3
  have H1 : (if (l0_2.length : Int) ≤ 8 then ((impl_Fraction_20.f k l0_2 777777).bind fun t384 => (some (!t384))) else (some false)) = some r := by rw [if_pos rfl] at H; exact H
  clear H
  have H := H1
  clear H1
  by_cases c4 : (l0_2.length : Int) ≤ 8
  ·rw [if_pos c4] at H
   have c4b0 : decide ((l0_2.length : Int) ≤ 8) = true := decide_eq_true c4
   have c4b1 : decide (l0_2.length ≤ 8) = true := decide_eq_true (by omega)
   clear c4
   obtain ⟨t384, A5, H⟩ := sqD H
   obtain rfl := Option.some.inj H
   go_enter Try.func10, Try.ntmps10
   go_wp2_with (first | ((with_reducible refine gate_dst (N := 1) rfl ?_); (try (refine gate_guard (by rfl) ?_; dsimp only)); refine sqBox (N := 1) (cs := #[.int .i64 a0_0, .int .i64 a0_1, .slice A0_2 l0_2.length c0_2]) (t := 27) ?_; intro gb382 hg w6 BK382 hb; have GW382 := Aside0.mk ((sqG hg (sqB HB))); have GE382 := GW382; replace HB := sqS (sqB HB) hb; clear hb hg; obtain ⟨hcz7_0, hcz7_1, hcz7_2, hfz7_0, hfz7_1, hfz7_2⟩ := sqY3 BK382) | ((with_reducible refine gate_callee (f := 19) rfl ?_); refine goesL_ (some 5) rfl rfl Try.func19 (by kernel_rfl) rfl #[.agg #[.int .i64 a0_0, .int .i64 a0_1]] rfl sqA ?_; (with_reducible refine (impl_isFraction.calls k a0_0 a0_1 true _ A2.out).mono ?_); rintro e w8 ⟨rfl, hb⟩; refine ⟨_, rfl, ?_⟩; replace BK382 := sqT BK382 hb; replace HB := sqS (sqB1 HB GE382) hb; (try clear hb); obtain ⟨hcz9_0, hcz9_1, hcz9_2, hfz9_0, hfz9_1, hfz9_2⟩ := sqY3 BK382) | (go_at_call 20; (with_reducible refine (impl_Fraction_20.calls k _ _ l0_2 777777 t384 _ ?side1 ?side2 A5.out).mono ?_); (case side1 => exact Z1); (case side2 => exact HC0_2.out); rintro e w10 ⟨rfl, hb⟩; replace BK382 := sqT BK382 hb; replace HB := sqS (sqB1 HB GE382) hb; (try clear hb)))
   go_ret
   exact ⟨Z14, sqB1 HB GE382⟩
  ·rw [if_neg c4] at H
   have c4b0 : decide ((l0_2.length : Int) ≤ 8) = false := decide_eq_false c4
   have c4b1 : decide (l0_2.length ≤ 8) = false := decide_eq_false (by omega)
   clear c4
   obtain rfl := Option.some.inj H
   go_enter Try.func10, Try.ntmps10
   go_wp2_with (first | ((with_reducible refine gate_dst (N := 1) rfl ?_); (try (refine gate_guard (by rfl) ?_; dsimp only)); refine sqBox (N := 1) (cs := #[.int .i64 a0_0, .int .i64 a0_1, .slice A0_2 l0_2.length c0_2]) (t := 27) ?_; intro gb382 hg w11 BK382 hb; have GW382 := Aside0.mk ((sqG hg (sqB HB))); have GE382 := GW382; replace HB := sqS (sqB HB) hb; clear hb hg; obtain ⟨hcz12_0, hcz12_1, hcz12_2, hfz12_0, hfz12_1, hfz12_2⟩ := sqY3 BK382) | ((with_reducible refine gate_callee (f := 19) rfl ?_); refine goesL_ (some 5) rfl rfl Try.func19 (by kernel_rfl) rfl #[.agg #[.int .i64 a0_0, .int .i64 a0_1]] rfl sqA ?_; (with_reducible refine (impl_isFraction.calls k a0_0 a0_1 true _ A2.out).mono ?_); rintro e w13 ⟨rfl, hb⟩; refine ⟨_, rfl, ?_⟩; replace BK382 := sqT BK382 hb; replace HB := sqS (sqB1 HB GE382) hb; (try clear hb); obtain ⟨hcz14_0, hcz14_1, hcz14_2, hfz14_0, hfz14_1, hfz14_2⟩ := sqY3 BK382))
   go_ret
   exact ⟨Z14, sqB1 HB GE382⟩
 ·replace c3 := Bool.eq_false_iff.mpr c3
  subst c3
  have H1 : (some false) = some r := by rw [if_neg (show ¬ (false = true) by decide)] at H; exact H
  clear H
  have H := H1
  clear H1
  obtain rfl := Option.some.inj H
  go_enter Try.func10, Try.ntmps10
  go_wp2_with (first | ((with_reducible refine gate_dst (N := 1) rfl ?_); (try (refine gate_guard (by rfl) ?_; dsimp only)); refine sqBox (N := 1) (cs := #[.int .i64 a0_0, .int .i64 a0_1, .slice A0_2 l0_2.length c0_2]) (t := 27) ?_; intro gb382 hg w15 BK382 hb; have GW382 := Aside0.mk ((sqG hg (sqB HB))); have GE382 := GW382; replace HB := sqS (sqB HB) hb; clear hb hg; obtain ⟨hcz16_0, hcz16_1, hcz16_2, hfz16_0, hfz16_1, hfz16_2⟩ := sqY3 BK382) | ((with_reducible refine gate_callee (f := 19) rfl ?_); refine goesL_ (some 5) rfl rfl Try.func19 (by kernel_rfl) rfl #[.agg #[.int .i64 a0_0, .int .i64 a0_1]] rfl sqA ?_; (with_reducible refine (impl_isFraction.calls k a0_0 a0_1 false _ A2.out).mono ?_); rintro e w17 ⟨rfl, hb⟩; refine ⟨_, rfl, ?_⟩; replace BK382 := sqT BK382 hb; replace HB := sqS (sqB1 HB GE382) hb; (try clear hb)))
  go_ret
  exact ⟨Z14, sqB1 HB GE382⟩

/-! ### impl_DeskOk: function 5 -/
def impl_DeskOk.f (k : Nat) (a0_0 : Int) (a0_1 : Int) (l0_2 : List (S24)) : Option (Bool) := (impl_isDesk.f k a0_0 a0_1 l0_2).bind fun t386 => (some t386)
theorem impl_DeskOk.mono : ∀ a0 a1 a2 k, LeO (impl_DeskOk.f k a0 a1 a2) (impl_DeskOk.f (k + 1) a0 a1 a2) := by
 intro a0 a1 a2 k
 unfold impl_DeskOk.f
 repeat' first
   | (with_reducible exact impl_isDesk.mono _ _ _ _)
   | (with_reducible exact LeO.refl _)
   | (with_reducible exact LeO.none _)
   | (with_reducible refine LeO.ite ?_ ?_)
   | (with_reducible refine LeO.bind ?_ (fun _ => ?_))
set_option maxHeartbeats 8000000 in
set_option maxRecDepth 100000 in
theorem impl_DeskOk.calls (k : Nat) (a0_0 : Int) (a0_1 : Int) (A0_2 : Option Addr) (c0_2 : Nat) (l0_2 : List (S24)) (r : Bool) (w : World) (hr0_2 : Kd.C k24 w A0_2 l0_2.length l0_2) (hc0_2 : l0_2.length ≤ c0_2) (h : impl_DeskOk.f k a0_0 a0_1 l0_2 = some r) :
  Calls Try.prog 5 #[.agg #[.int .i64 a0_0, .int .i64 a0_1, .slice A0_2 l0_2.length c0_2]] w fun e w' => e = .returned (.bool r) ∧ Below w.heap.size w w' := by
 have hu27 := Try.underlying27
 have HR0_2 := Aside0.mk hr0_2
 have HC0_2 := Aside0.mk hc0_2
 clear hr0_2 hc0_2
 have HB := Aside0.mk (Below.refl w.heap.size w)
 have H : ((impl_isDesk.f k a0_0 a0_1 l0_2).bind fun t386 => (some t386)) = some r := h
 clear h
 obtain ⟨t386, A2, H⟩ := sqD H
 obtain rfl := Option.some.inj H
 go_enter Try.func5, Try.ntmps5
 go_wp2_with (first | ((with_reducible refine gate_dst (N := 1) rfl ?_); refine sqBox (N := 1) (cs := #[.int .i64 a0_0, .int .i64 a0_1, .slice A0_2 l0_2.length c0_2]) (t := 27) ?_; intro gb385 hg w3 BK385 hb; have GW385 := Aside0.mk ((sqG hg (sqB HB))); have GE385 := GW385; replace HB := sqS (sqB HB) hb; clear hb hg; obtain ⟨hcz4_0, hcz4_1, hcz4_2, hfz4_0, hfz4_1, hfz4_2⟩ := sqY3 BK385) | ((with_reducible refine gate_callee (f := 10) rfl ?_); refine goesL_ (some 4) rfl rfl Try.func10 (by kernel_rfl) rfl #[.agg #[.int .i64 a0_0, .int .i64 a0_1, .slice A0_2 l0_2.length c0_2]] rfl sqA ?_; (with_reducible refine (impl_isDesk.calls k a0_0 a0_1 _ _ l0_2 t386 _ ?side1 ?side2 A2.out).mono ?_); (case side1 => exact Z1); (case side2 => exact HC0_2.out); rintro e w5 ⟨rfl, hb⟩; refine ⟨_, rfl, ?_⟩; replace BK385 := sqT BK385 hb; replace HB := sqS (sqB1 HB GE385) hb; (try clear hb)))
 go_ret
 exact ⟨Z14, sqB1 HB GE385⟩

/-! ### impl_FractionOk: function 12 -/
def impl_FractionOk.f (k : Nat) (a0_0 : Int) (a0_1 : Int) : Option (Bool) := (impl_isFraction.f k a0_0 a0_1).bind fun t388 => (some t388)
theorem impl_FractionOk.mono : ∀ a0 a1 k, LeO (impl_FractionOk.f k a0 a1) (impl_FractionOk.f (k + 1) a0 a1) := by
 intro a0 a1 k
 unfold impl_FractionOk.f
 repeat' first
   | (with_reducible exact impl_isFraction.mono _ _ _)
   | (with_reducible exact LeO.refl _)
   | (with_reducible exact LeO.none _)
   | (with_reducible refine LeO.ite ?_ ?_)
   | (with_reducible refine LeO.bind ?_ (fun _ => ?_))
set_option maxHeartbeats 8000000 in
set_option maxRecDepth 100000 in
theorem impl_FractionOk.calls (k : Nat) (a0_0 : Int) (a0_1 : Int) (r : Bool) (w : World) (h : impl_FractionOk.f k a0_0 a0_1 = some r) :
  Calls Try.prog 12 #[.agg #[.int .i64 a0_0, .int .i64 a0_1]] w fun e w' => e = .returned (.bool r) ∧ Below w.heap.size w w' := by
 have hu24 := Try.underlying24
 have HB := Aside0.mk (Below.refl w.heap.size w)
 have H : ((impl_isFraction.f k a0_0 a0_1).bind fun t388 => (some t388)) = some r := h
 clear h
 obtain ⟨t388, A2, H⟩ := sqD H
 obtain rfl := Option.some.inj H
 go_enter Try.func12, Try.ntmps12
 go_wp2_with (first | ((with_reducible refine gate_dst (N := 1) rfl ?_); refine sqBox (N := 1) (cs := #[.int .i64 a0_0, .int .i64 a0_1]) (t := 24) ?_; intro gb387 hg w3 BK387 hb; have GW387 := Aside0.mk ((sqG hg (sqB HB))); have GE387 := GW387; replace HB := sqS (sqB HB) hb; clear hb hg; obtain ⟨hcz4_0, hcz4_1, hfz4_0, hfz4_1⟩ := sqY2 BK387) | ((with_reducible refine gate_callee (f := 19) rfl ?_); refine goesL_ (some 4) rfl rfl Try.func19 (by kernel_rfl) rfl #[.agg #[.int .i64 a0_0, .int .i64 a0_1]] rfl sqA ?_; (with_reducible refine (impl_isFraction.calls k a0_0 a0_1 t388 _ A2.out).mono ?_); rintro e w5 ⟨rfl, hb⟩; refine ⟨_, rfl, ?_⟩; replace BK387 := sqT BK387 hb; replace HB := sqS (sqB1 HB GE387) hb; (try clear hb)))
 go_ret
 exact ⟨Z14, sqB1 HB GE387⟩

/-! ### laws_alive: function 7 -/
def laws_alive.f (k : Nat)  : Option (Bool) := (impl_FractionOk.f k 1 2).bind fun t389 => (if t389 = true then ((impl_FractionOk.f k 2 2).bind fun t390 => (some (!t390))) else (some false))
theorem laws_alive.mono : ∀ k, LeO (laws_alive.f k ) (laws_alive.f (k + 1) ) := by
 intro  k
 unfold laws_alive.f
 repeat' first
   | (with_reducible exact impl_FractionOk.mono _ _ _)
   | (with_reducible exact LeO.refl _)
   | (with_reducible exact LeO.none _)
   | (with_reducible refine LeO.ite ?_ ?_)
   | (with_reducible refine LeO.bind ?_ (fun _ => ?_))
set_option maxHeartbeats 8000000 in
set_option maxRecDepth 100000 in
theorem laws_alive.calls (k : Nat)  (r : Bool) (w : World) (h : laws_alive.f k  = some r) :
  Calls Try.prog 7 #[] w fun e w' => e = .returned (.bool r) ∧ Below w.heap.size w w' := by
 have hu24 := Try.underlying24
 have HB := Aside0.mk (Below.refl w.heap.size w)
 have H : ((impl_FractionOk.f k 1 2).bind fun t389 => (if t389 = true then ((impl_FractionOk.f k 2 2).bind fun t390 => (some (!t390))) else (some false))) = some r := h
 clear h
 obtain ⟨t389, A1, H⟩ := sqD H
 by_cases c2 : t389 = true
 ·subst c2
  have H1 : ((impl_FractionOk.f k 2 2).bind fun t390 => (some (!t390))) = some r := by rw [if_pos rfl] at H; exact H
  clear H
  have H := H1
  clear H1
  obtain ⟨t390, A3, H⟩ := sqD H
  obtain rfl := Option.some.inj H
  go_enter Try.func7, Try.ntmps7
  go_wp2_with (first | ((with_reducible refine gate_callee (f := 12) rfl ?_); refine goesL_ (some 2) rfl rfl Try.func12 (by kernel_rfl) rfl #[.agg #[.int .i64 1, .int .i64 2]] rfl sqA ?_; (with_reducible refine (impl_FractionOk.calls k 1 2 true _ A1.out).mono ?_); rintro e w4 ⟨rfl, hb⟩; refine ⟨_, rfl, ?_⟩; replace HB := sqS (sqB HB) hb; (try clear hb)) | (go_at_call 12; (with_reducible refine (impl_FractionOk.calls k 2 2 t390 _ A3.out).mono ?_); rintro e w5 ⟨rfl, hb⟩; replace HB := sqS (sqB HB) hb; (try clear hb)))
  go_ret
  exact ⟨Z14, sqB HB⟩
 ·replace c2 := Bool.eq_false_iff.mpr c2
  subst c2
  have H1 : (some false) = some r := by rw [if_neg (show ¬ (false = true) by decide)] at H; exact H
  clear H
  have H := H1
  clear H1
  obtain rfl := Option.some.inj H
  go_enter Try.func7, Try.ntmps7
  go_wp2_with (first | ((with_reducible refine gate_callee (f := 12) rfl ?_); refine goesL_ (some 2) rfl rfl Try.func12 (by kernel_rfl) rfl #[.agg #[.int .i64 1, .int .i64 2]] rfl sqA ?_; (with_reducible refine (impl_FractionOk.calls k 1 2 false _ A1.out).mono ?_); rintro e w6 ⟨rfl, hb⟩; refine ⟨_, rfl, ?_⟩; replace HB := sqS (sqB HB) hb; (try clear hb)))
  go_ret
  exact ⟨Z14, sqB HB⟩

theorem impl_DeskOk.calls0 (k : Nat) (a b : Int) (r : Bool) (w : World) (h : impl_DeskOk.f k a b ([] : List (S24)) = some r) :
  Calls Try.prog 5 #[.agg #[.int .i64 a, .int .i64 b, .slice none 0 0]] w fun e w' => e = .returned (.bool r) ∧ Below w.heap.size w w' :=
 impl_DeskOk.calls k a b none 0 [] r w (Kd.C_nil _ _) (Nat.le_refl _) h

/-! ### laws_FnDeskOk: function 3 -/
def laws_FnDeskOk.f (k : Nat) (l0 : List Int) : Option (Bool) := if (l0.length : Int) > 1048576 then (some true) else ((spec_DrawDeskOk.f k l0).bind fun bt391 => ((impl_DeskOk.f k bt391.1 bt391.2.1 bt391.2.2).bind fun t397 => ((spec_DeskOk.f k bt391.1 bt391.2.1 bt391.2.2).bind fun t398 => (if (t397 != t398) = true then (some false) else (if t397 = true then ((impl_DeskOk.f k bt391.1 bt391.2.1 ([] : List (S24))).bind fun t399 => (if t399 = true then ((impl_DeskOk.f k 0 0 ([] : List (S24))).bind fun t400 => (if t400 = true then (some false) else ((laws_alive.f k).bind fun t401 => (some t401)))) else (some false))) else ((impl_DeskOk.f k 0 0 ([] : List (S24))).bind fun t402 => (if t402 = true then (some false) else ((laws_alive.f k).bind fun t403 => (some t403)))))))))
theorem laws_FnDeskOk.mono : ∀ a0 k, LeO (laws_FnDeskOk.f k a0) (laws_FnDeskOk.f (k + 1) a0) := by
 intro a0 k
 unfold laws_FnDeskOk.f
 repeat' first
   | (with_reducible exact impl_DeskOk.mono _ _ _ _)
   | (with_reducible exact laws_alive.mono _)
   | (with_reducible exact spec_DeskOk.mono _ _ _ _)
   | (with_reducible exact spec_DrawDeskOk.mono _ _)
   | (with_reducible exact LeO.refl _)
   | (with_reducible exact LeO.none _)
   | (with_reducible refine LeO.ite ?_ ?_)
   | (with_reducible refine LeO.bind ?_ (fun _ => ?_))
set_option maxHeartbeats 8000000 in
set_option maxRecDepth 100000 in
theorem laws_FnDeskOk.calls (k : Nat) (A0 : Option Addr) (c0 : Nat) (l0 : List Int) (r : Bool) (w : World) (hr0 : Kd.C (Kd.int .u8) w A0 l0.length l0) (hc0 : l0.length ≤ c0) (hT : Aside0 (r = true)) (h : laws_FnDeskOk.f k l0 = some r) :
  Calls Try.prog 3 #[.slice A0 l0.length c0] w fun e w' => e = .returned (.bool r) ∧ Below w.heap.size w w' := by
 have hu27 := Try.underlying27
 have hu24 := Try.underlying24
 have HR0 := Aside0.mk hr0
 have HC0 := Aside0.mk hc0
 clear hr0 hc0
 have HB := Aside0.mk (Below.refl w.heap.size w)
 have H : (if (l0.length : Int) > 1048576 then (some true) else ((spec_DrawDeskOk.f k l0).bind fun bt391 => ((impl_DeskOk.f k bt391.1 bt391.2.1 bt391.2.2).bind fun t397 => ((spec_DeskOk.f k bt391.1 bt391.2.1 bt391.2.2).bind fun t398 => (if (t397 != t398) = true then (some false) else (if t397 = true then ((impl_DeskOk.f k bt391.1 bt391.2.1 ([] : List (S24))).bind fun t399 => (if t399 = true then ((impl_DeskOk.f k 0 0 ([] : List (S24))).bind fun t400 => (if t400 = true then (some false) else ((laws_alive.f k).bind fun t401 => (some t401)))) else (some false))) else ((impl_DeskOk.f k 0 0 ([] : List (S24))).bind fun t402 => (if t402 = true then (some false) else ((laws_alive.f k).bind fun t403 => (some t403)))))))))) = some r := h
 clear h
 by_cases c2 : (l0.length : Int) > 1048576
 ·rw [if_pos c2] at H
  have c2b0 : decide (1048576 < (l0.length : Int)) = true := decide_eq_true c2
  have c2b1 : decide (1048576 < l0.length) = true := decide_eq_true (by omega)
  clear c2
  obtain rfl := Option.some.inj H
  go_enter Try.func3, Try.ntmps3
  go_wp2
  go_ret
  exact ⟨Z14, sqB HB⟩
 ·rw [if_neg c2] at H
  have c2b0 : decide (1048576 < (l0.length : Int)) = false := decide_eq_false c2
  have c2b1 : decide (1048576 < l0.length) = false := decide_eq_false (by omega)
  clear c2
  replace H := Option.bind_eq_some_iff.mp H
  obtain ⟨⟨t391, t392, t393⟩, A30, H⟩ := H
  replace H : ((impl_DeskOk.f k t391 t392 t393).bind fun t397 => ((spec_DeskOk.f k t391 t392 t393).bind fun t398 => (if (t397 != t398) = true then (some false) else (if t397 = true then ((impl_DeskOk.f k t391 t392 ([] : List (S24))).bind fun t399 => (if t399 = true then ((impl_DeskOk.f k 0 0 ([] : List (S24))).bind fun t400 => (if t400 = true then (some false) else ((laws_alive.f k).bind fun t401 => (some t401)))) else (some false))) else ((impl_DeskOk.f k 0 0 ([] : List (S24))).bind fun t402 => (if t402 = true then (some false) else ((laws_alive.f k).bind fun t403 => (some t403)))))))) = some r := H
  have A3 := Aside0.mk A30
  clear A30
  obtain ⟨t397, A4, H⟩ := sqD H
  obtain ⟨t398, A5, H⟩ := sqD H
  by_cases c6 : (t397 != t398) = true
  ·rw [if_pos c6] at H
   exact absurd (Option.some.inj H) (by rw [hT.out]; decide)
  ·rw [if_neg c6] at H
   have c6b0 : (t397 != t398) = false := by simpa using c6
   (try (have c6b1 : decide (t397 = t398) = true := by simpa using c6))
   (try (have c6b2 : (t397 == t398) = true := by simpa using c6))
   clear c6
   by_cases c14 : t397 = true
   ·subst c14
    have H1 : ((impl_DeskOk.f k t391 t392 ([] : List (S24))).bind fun t399 => (if t399 = true then ((impl_DeskOk.f k 0 0 ([] : List (S24))).bind fun t400 => (if t400 = true then (some false) else ((laws_alive.f k).bind fun t401 => (some t401)))) else (some false))) = some r := by rw [if_pos rfl] at H; exact H
    clear H
    have H := H1
    clear H1
    obtain ⟨t399, A15, H⟩ := sqD H
    by_cases c16 : t399 = true
    ·subst c16
     have H1 : ((impl_DeskOk.f k 0 0 ([] : List (S24))).bind fun t400 => (if t400 = true then (some false) else ((laws_alive.f k).bind fun t401 => (some t401)))) = some r := by rw [if_pos rfl] at H; exact H
     clear H
     have H := H1
     clear H1
     obtain ⟨t400, A17, H⟩ := sqD H
     by_cases c18 : t400 = true
     ·rw [if_pos c18] at H
      exact absurd (Option.some.inj H) (by rw [hT.out]; decide)
     ·replace c18 := Bool.eq_false_iff.mpr c18
      subst c18
      have H1 : ((laws_alive.f k).bind fun t401 => (some t401)) = some r := by rw [if_neg (show ¬ (false = true) by decide)] at H; exact H
      clear H
      have H := H1
      clear H1
      obtain ⟨t401, A29, H⟩ := sqD H
      obtain rfl := Option.some.inj H
      go_enter Try.func3, Try.ntmps3
      go_wp2_with (first | ((with_reducible refine gate_callee (f := 4) rfl ?_); refine goesL_ (some 9) rfl rfl Try.func4 (by kernel_rfl) rfl #[.slice A0 l0.length c0] rfl sqA ?_; (with_reducible refine (spec_DrawDeskOk.calls k _ _ l0 t391 t392 t393 _ ?side1 ?side2 A3.out).mono ?_); (case side1 => exact Z29 HR0); (case side2 => exact HC0.out); rintro e w30 ⟨v394, rfl, ho0, hb⟩; refine ⟨_, rfl, ?_⟩; have HO395 := Aside0.mk (Kd.Q_lower ho0 (below_size (sqB HB))); replace HB := sqS (sqB HB) hb; (try clear hb); (try clear ho0)) | ((with_reducible refine gate_dst (N := 3) rfl ?_); refine sqBox (N := 3) (cs := #[.int .i64 0, .int .i64 0, .slice none 0 0]) (t := 27) ?_; intro gb396 hg w31 BK396 hb; replace HO395 := Aside0.mk (Kd.Q_below (Z10 HO395) hb); have GW396 := Aside0.mk ((sqG hg (sqB HB))); have GE396 := GW396; replace HB := sqS (sqB HB) hb; clear hb hg; obtain ⟨hcz32_0, hcz32_1, hcz32_2, hfz32_0, hfz32_1, hfz32_2⟩ := sqY3 BK396; obtain ⟨Ao33, co33, eo33, _⟩ := Kd.Q_slice HO395.out; subst eo33) | ((with_reducible refine gate_callee (f := 5) rfl ?_); refine goesL_ (some 11) rfl rfl Try.func5 (by kernel_rfl) rfl #[.agg #[.int .i64 t391, .int .i64 t392, .slice Ao33 t393.length co33]] rfl sqA ?_; (with_reducible refine (impl_DeskOk.calls k t391 t392 _ _ t393 true _ ?side1 ?side2 A4.out).mono ?_); (case side1 => refine (Kd.Q_reads' (e := 24) (base := w.heap.size) (ok := fun k_ => True) (n := t393.length) (c := co33) ?_).2.2; exact (Z30 HO395 BK396)); (case side2 => exact Z31 HO395); rintro e w34 ⟨rfl, hb⟩; refine ⟨_, rfl, ?_⟩; replace HO395 := Aside0.mk (Kd.Q_below (Z30 HO395 BK396) hb); replace BK396 := Aside0.mk (blk_below (g := gb396) (o := .cells #[.int .i64 t391, .int .i64 t392, .slice Ao33 t393.length co33] 27 (0, 0)) (Z32 BK396) hb); replace HB := sqS (sqB1 HB GE396) hb; (try clear hb); obtain ⟨hcz35_0, hcz35_1, hcz35_2, hfz35_0, hfz35_1, hfz35_2⟩ := sqY3 BK396) | ((with_reducible refine gate_callee (f := 6) rfl ?_); refine goesL_ (some 14) rfl rfl Try.func6 (by kernel_rfl) rfl #[.agg #[.int .i64 t391, .int .i64 t392, .slice Ao33 t393.length co33]] rfl sqA ?_; (with_reducible refine (spec_DeskOk.calls k t391 t392 _ _ t393 t398 _ ?side1 ?side2 A5.out).mono ?_); (case side1 => exact Z33 HO395); (case side2 => exact Z31 HO395); rintro e w36 ⟨rfl, hb⟩; refine ⟨_, rfl, ?_⟩; replace HO395 := Aside0.mk (Kd.Q_below (Z10 HO395) hb); replace BK396 := sqT BK396 hb; replace HB := sqS (sqB1 HB GE396) hb; (try clear hb); obtain ⟨hcz37_0, hcz37_1, hcz37_2, hfz37_0, hfz37_1, hfz37_2⟩ := sqY3 BK396) | (go_at_call 5; (with_reducible refine (impl_DeskOk.calls0 k t391 t392 true _ A15.out).mono ?_); rintro e w38 ⟨rfl, hb⟩; replace HO395 := Aside0.mk (Kd.Q_below (Z10 HO395) hb); replace BK396 := sqT BK396 hb; replace HB := sqS (sqB1 HB GE396) hb; (try clear hb)) | (go_at_call 5; (with_reducible refine (impl_DeskOk.calls0 k 0 0 false _ A17.out).mono ?_); rintro e w39 ⟨rfl, hb⟩; replace HO395 := Aside0.mk (Kd.Q_below (Z10 HO395) hb); replace BK396 := sqT BK396 hb; replace HB := sqS (sqB1 HB GE396) hb; (try clear hb)) | (go_at_call 7; (with_reducible refine (laws_alive.calls k  t401 _ A29.out).mono ?_); rintro e w40 ⟨rfl, hb⟩; replace HO395 := Aside0.mk (Kd.Q_below (Z10 HO395) hb); replace BK396 := sqT BK396 hb; replace HB := sqS (sqB1 HB GE396) hb; (try clear hb)))
      go_ret
      exact ⟨Z14, sqB1 HB GE396⟩
    ·rw [if_neg c16] at H
     exact absurd (Option.some.inj H) (by rw [hT.out]; decide)
   ·replace c14 := Bool.eq_false_iff.mpr c14
    subst c14
    have H1 : ((impl_DeskOk.f k 0 0 ([] : List (S24))).bind fun t402 => (if t402 = true then (some false) else ((laws_alive.f k).bind fun t403 => (some t403)))) = some r := by rw [if_neg (show ¬ (false = true) by decide)] at H; exact H
    clear H
    have H := H1
    clear H1
    obtain ⟨t402, A50, H⟩ := sqD H
    by_cases c51 : t402 = true
    ·rw [if_pos c51] at H
     exact absurd (Option.some.inj H) (by rw [hT.out]; decide)
    ·replace c51 := Bool.eq_false_iff.mpr c51
     subst c51
     have H1 : ((laws_alive.f k).bind fun t403 => (some t403)) = some r := by rw [if_neg (show ¬ (false = true) by decide)] at H; exact H
     clear H
     have H := H1
     clear H1
     obtain ⟨t403, A60, H⟩ := sqD H
     obtain rfl := Option.some.inj H
     go_enter Try.func3, Try.ntmps3
     go_wp2_with (first | ((with_reducible refine gate_callee (f := 4) rfl ?_); refine goesL_ (some 9) rfl rfl Try.func4 (by kernel_rfl) rfl #[.slice A0 l0.length c0] rfl sqA ?_; (with_reducible refine (spec_DrawDeskOk.calls k _ _ l0 t391 t392 t393 _ ?side1 ?side2 A3.out).mono ?_); (case side1 => exact Z29 HR0); (case side2 => exact HC0.out); rintro e w61 ⟨v394, rfl, ho0, hb⟩; refine ⟨_, rfl, ?_⟩; have HO395 := Aside0.mk (Kd.Q_lower ho0 (below_size (sqB HB))); replace HB := sqS (sqB HB) hb; (try clear hb); (try clear ho0)) | ((with_reducible refine gate_dst (N := 3) rfl ?_); refine sqBox (N := 3) (cs := #[.int .i64 0, .int .i64 0, .slice none 0 0]) (t := 27) ?_; intro gb396 hg w62 BK396 hb; replace HO395 := Aside0.mk (Kd.Q_below (Z10 HO395) hb); have GW396 := Aside0.mk ((sqG hg (sqB HB))); have GE396 := GW396; replace HB := sqS (sqB HB) hb; clear hb hg; obtain ⟨hcz63_0, hcz63_1, hcz63_2, hfz63_0, hfz63_1, hfz63_2⟩ := sqY3 BK396; obtain ⟨Ao64, co64, eo64, _⟩ := Kd.Q_slice HO395.out; subst eo64) | ((with_reducible refine gate_callee (f := 5) rfl ?_); refine goesL_ (some 11) rfl rfl Try.func5 (by kernel_rfl) rfl #[.agg #[.int .i64 t391, .int .i64 t392, .slice Ao64 t393.length co64]] rfl sqA ?_; (with_reducible refine (impl_DeskOk.calls k t391 t392 _ _ t393 false _ ?side1 ?side2 A4.out).mono ?_); (case side1 => refine (Kd.Q_reads' (e := 24) (base := w.heap.size) (ok := fun k_ => True) (n := t393.length) (c := co64) ?_).2.2; exact (Z34 HO395 BK396)); (case side2 => exact Z31 HO395); rintro e w65 ⟨rfl, hb⟩; refine ⟨_, rfl, ?_⟩; replace HO395 := Aside0.mk (Kd.Q_below (Z34 HO395 BK396) hb); replace BK396 := Aside0.mk (blk_below (g := gb396) (o := .cells #[.int .i64 t391, .int .i64 t392, .slice Ao64 t393.length co64] 27 (0, 0)) (Z32 BK396) hb); replace HB := sqS (sqB1 HB GE396) hb; (try clear hb); obtain ⟨hcz66_0, hcz66_1, hcz66_2, hfz66_0, hfz66_1, hfz66_2⟩ := sqY3 BK396) | ((with_reducible refine gate_callee (f := 6) rfl ?_); refine goesL_ (some 14) rfl rfl Try.func6 (by kernel_rfl) rfl #[.agg #[.int .i64 t391, .int .i64 t392, .slice Ao64 t393.length co64]] rfl sqA ?_; (with_reducible refine (spec_DeskOk.calls k t391 t392 _ _ t393 t398 _ ?side1 ?side2 A5.out).mono ?_); (case side1 => exact Z33 HO395); (case side2 => exact Z31 HO395); rintro e w67 ⟨rfl, hb⟩; refine ⟨_, rfl, ?_⟩; replace HO395 := Aside0.mk (Kd.Q_below (Z10 HO395) hb); replace BK396 := sqT BK396 hb; replace HB := sqS (sqB1 HB GE396) hb; (try clear hb)) | (go_at_call 5; (refine (impl_DeskOk.calls k 0 0 _ _ ([] : List (S24)) false _ ?side1 ?side2 A50.out).mono ?_); (case side1 => exact Kd.C_nil _ _); (case side2 => exact Nat.le_refl _); rintro e w68 ⟨rfl, hb⟩; replace HO395 := Aside0.mk (Kd.Q_below (Z10 HO395) hb); replace BK396 := sqT BK396 hb; replace HB := sqS (sqB1 HB GE396) hb; (try clear hb)) | (go_at_call 7; (with_reducible refine (laws_alive.calls k  t403 _ A60.out).mono ?_); rintro e w69 ⟨rfl, hb⟩; replace HO395 := Aside0.mk (Kd.Q_below (Z10 HO395) hb); replace BK396 := sqT BK396 hb; replace HB := sqS (sqB1 HB GE396) hb; (try clear hb)))
     go_ret
     exact ⟨Z14, sqB1 HB GE396⟩

/-- THE ONE PURE STATEMENT of laws_FnDeskOk: yours. -/
def laws_FnDeskOk.Pure : Prop := ∀ (l0 : List Int), l0.length ≤ maxLen → l0.length * 1 ≤ 140737488351232 → (∀ x ∈ l0, (Lit.int .u8 x).wf = true) → ∃ k, laws_FnDeskOk.f k l0 = some true
theorem laws_FnDeskOk.walk (P : laws_FnDeskOk.Pure) (a0 : Option Addr) (len0 cap0 : Nat) (z0 : List Int) (w : World) (w0 : (a0 = none ∧ len0 = 0 ∧ cap0 = 0 ∧ z0 = []) ∨ ∃ x, a0 = some x ∧ len0 ≤ cap0 ∧ cap0 ≤ maxLen ∧ z0.length = cap0 ∧ (∀ i, i < z0.length → w.cell? (x.add i) = some (.int .u8 (z0.getD i 0))) ∧ ∀ n ∈ z0, (Lit.int .u8 n).wf = true) (y0 : len0 * 1 ≤ 140737488351232) :
  Calls Try.prog 3 #[.slice a0 len0 cap0] w fun e w' => e = .returned (.bool true) ∧ Below w.heap.size w w' := by
 obtain ⟨l0, rfl, hr0, hm0, hw0, hc0⟩ := ReadsInt.ofRowC w0
 obtain ⟨k, h⟩ := P l0 hm0 y0 hw0
 refine (laws_FnDeskOk.calls k _ _ l0 true w (Kd.C_of_reads (d := (0 : Int)) (h1 := fun _ => rfl) hr0) hc0 ⟨rfl⟩ h).mono ?_
 rintro e w' ⟨rfl, hd⟩
 exact ⟨rfl, hd⟩


end Go.Proofs.Ytcfnihniaakbeaa.PFnDeskOk
