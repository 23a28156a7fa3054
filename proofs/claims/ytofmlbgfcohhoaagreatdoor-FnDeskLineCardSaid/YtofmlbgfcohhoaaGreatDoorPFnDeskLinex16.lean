import Derived.Test.YtofmlbgfcohhoaaGreatDoorPFnDeskLinex4
import Derived.Test.YtofmlbgfcohhoaaGreatDoorPFnDeskLinex13
set_option maxHeartbeats 8000000
set_option maxRecDepth 100000
namespace Go.Proofs.YtofmlbgfcohhoaaGreatDoor.PFnDeskLine
open Go.RowKit Go.Proofs.YtofmlbgfcohhoaaGreatDoorW.PrintWords Go.Proofs.YtofmlbgfcohhoaaGreatDoorW.PrintLast Go.Proofs.YtofmlbgfcohhoaaGreatDoorW.PrintMore Go.Proofs.YtofmlbgfcohhoaaGreatDoor.Lib Go.Proofs.Tryz
attribute [local go_sem] max2_int min2_int max_two min_two max_three min_three max_four min_four
set_option linter.unusedVariables false
set_option linter.unusedSimpArgs false

/-! ### spec_l1Number: function 93 -/
mutual
def spec_l1Number.j0 : Nat → Int → Bool → Option (ByteArray)
 | 0, _, _ => none
 | k + 1, x0, x1 => if x1 = true then (some (⟨#[45, 57, 50, 50, 51, 51, 55, 50, 48, 51, 54, 56, 53, 52, 55, 55, 53, 56, 48, 56]⟩ : ByteArray)) else (if x0 < 0 then ((spec_l1Number.f k (wrap64 (-x0))).bind fun t0 => (if 1 + t0.size ≤ 9223372036854775807 then (some ((⟨#[45]⟩ : ByteArray) ++ t0)) else (none))) else (if x0 < 10 then (some (strOfNums (([(wrap64 (48 + x0)) % 256] : List Int)))) else ((spec_l1Number.f k (wrap64 (Int.tdiv x0 10))).bind fun t1 => ((some (([(wrap64 (48 + (Int.tmod x0 10))) % 256] : List Int) : List Int)).bind fun y0 => (if t1.size + (strOfNums y0).size ≤ 9223372036854775807 then (some (t1 ++ (strOfNums y0))) else (none))))))
def spec_l1Number.f : Nat → Int → Option (ByteArray)
 | 0, _ => none
 | k + 1, a0 => if a0 < 0 then (spec_l1Number.j0 k a0 (a0 == (wrap64 (-a0)))) else (spec_l1Number.j0 k a0 false)
end
theorem spec_l1Number.mono_l : ∀ k, (∀ y0, LeO (spec_l1Number.f k y0) (spec_l1Number.f (k + 1) y0)) ∧ (∀ y0 y1, LeO (spec_l1Number.j0 k y0 y1) (spec_l1Number.j0 (k + 1) y0 y1))
 | 0 => ⟨fun _ r h => by simp [spec_l1Number.f] at h, fun _ _ r h => by simp [spec_l1Number.j0] at h⟩
 | k + 1 => by
  obtain ⟨ih0, ih1⟩ := spec_l1Number.mono_l k
  refine ⟨?_, ?_⟩ <;> intros <;> (first | unfold spec_l1Number.f | unfold spec_l1Number.j0) <;> repeat' (with_reducible first | exact ih0 _ | exact ih1 _ _ | exact LeO.refl _ | exact LeO.none _ | refine LeO.ite ?_ ?_ | refine LeO.bind ?_ fun _ => ?_)
theorem spec_l1Number.mono : ∀ a0 k, LeO (spec_l1Number.f k a0) (spec_l1Number.f (k + 1) a0) := by
 intro a0 k
 obtain ⟨ih0, ih1⟩ := spec_l1Number.mono_l k
 exact ih0 a0
def spec_l1Number.T7 : Bool × List (List Nat × List Nat) := (true, [([], []), ([0], [0]), ([1], [1]), ([], []), ([3], [3]), ([4], [4]), ([5], [5]), ([6], [6]), ([7], [7]), ([2, 8], [2, 8]), ([9, 2, 0, 1, 2, 3, 4, 5, 6, 7, 8, 9], [9])])
def spec_l1Number.B7 : List Nat := [0, 1, 3, 0, 8, 24, 56, 120, 248, 511, 1023]
theorem spec_l1Number.tab7 : rtab .any (opsOf f93 7) = spec_l1Number.T7 := by kernel_rfl
theorem spec_l1Number.bits7 : waitsOk spec_l1Number.T7.2 spec_l1Number.B7 = true := by kernel_rfl
theorem spec_l1Number.calls (k : Nat) : ∀ (a0 : Int) (r : ByteArray) (w : World) (h : spec_l1Number.f k a0 = some r),
  Calls prog 93 #[.int .i64 a0] w fun e w' => e = .returned (.string r) ∧ Below w.heap.size w w' := by
 induction k using Nat.strongRecOn with
 | _ k ih =>
 intro a0 r w h
 cases k with
 | zero => exact absurd h (by simp [spec_l1Number.f])
 | succ k =>
 simp only [spec_l1Number.f] at h
 have HB := sqh w
 have H : (if a0 < 0 then (spec_l1Number.j0 k a0 (a0 == (wrap64 (-a0)))) else (spec_l1Number.j0 k a0 false)) = some r := h
 clear h
 have HC2 := sqa H
 clear H
 go_enter func93, ntmps93
 go_upto_region 1 with (fail)
 go_cut [10] (fun v0 wc => ∃ (kq : Nat) (x0 : Bool), v0 = .bool x0 ∧ Aside0 (spec_l1Number.j0 kq a0 x0 = some r) ∧ Aside0 (kq ≤ k) ∧ Aside0 (Below w.heap.size w wc))
 case first =>
  have H := HC2.1
  clear HC2
  by_cases c3 : a0 < 0
  ·rw [if_pos c3] at H
   have c3b0 : decide (a0 < 0) = true := decide_eq_true c3
   clear c3
   (first | rw [c3b0] | (simp only [i64_w, i32_w]; rw [c3b0]) | skip)
   have H' := sqa H
   clear H
   go_wp2
   go_meet
   case rel => exact ⟨_, ((a0 == (wrap64 (-a0)))), Z1, H', ⟨Z11⟩, ⟨sqB HB⟩⟩
  rw [if_neg c3] at H
  have c3b0 : decide (a0 < 0) = false := decide_eq_false c3
  clear c3
  (first | rw [c3b0] | (simp only [i64_w, i32_w]; rw [c3b0]) | skip)
  have H' := sqa H
  clear H
  go_wp2
  go_meet
  case rel => exact ⟨_, (false), Z1, H', ⟨Z11⟩, ⟨sqB HB⟩⟩
 case rest =>
  clear HC2
  obtain ⟨kq, x0, rfl, HA, HJ1, HB⟩ := hcut
  cases kq with
  | zero => exact absurd HA.out (by simp [spec_l1Number.j0])
  | succ kj1 =>
   have H := HA.out
   clear HA
   simp only [spec_l1Number.j0] at H
   by_cases c4 : x0 = true
   ·subst c4
    rw [if_pos rfl] at H
    obtain rfl := sqo H
    go_wp2
    go_ret
    exact ⟨Z5, sqB HB⟩
   obtain rfl := sqb c4
   rw [if_neg sqF] at H
   by_cases c5 : a0 < 0
   ·rw [if_pos c5] at H
    have c5b0 : decide (a0 < 0) = true := decide_eq_true c5
    clear c5
    obtain ⟨t0, A6, H⟩ := sqD H
    obtain ⟨c7, H⟩ := sqI H
    have c7b0 := eq_true c7
    have c7b1 : decide (1 + t0.size ≤ 9223372036854775807) = true := decide_eq_true c7
    try have c7b2 : (9223372036854775807 < 1 + t0.size) = False := eq_false (Nat.not_lt.2 c7)
    obtain rfl := sqo H
    go_wp2_with (first | ((with_reducible refine sqc 93 rfl ?_); refine sqC (some 15) func93 #[.int .i64 (wrap64 (-a0))] ?_; (with_reducible refine (ih kj1 Z21 (wrap64 (-a0)) t0 _ A6.1).mono ?_); refine sqV fun w8 hb => ?_; replace HB := sqS (sqB HB) hb))
    go_ret
    exact ⟨Z5, sqB HB⟩
   rw [if_neg c5] at H
   have c5b0 : decide (a0 < 0) = false := decide_eq_false c5
   clear c5
   by_cases c9 : a0 < 10
   ·rw [if_pos c9] at H
    have c9b0 : decide (a0 < 10) = true := decide_eq_true c9
    clear c9
    obtain ⟨y0, hy0⟩ : ∃ y_ : List Int, y_ = (([(wrap64 (48 + a0)) % 256] : List Int)) := ⟨_, rfl⟩
    replace H : (some (strOfNums y0)) = some r := sqW hy0 H
    have Ny0 := sqa hy0
    clear hy0
    obtain rfl := sqo H
    go_wp2_with (first | ((with_reducible refine sqd 22 rfl ?_); refine Kd.R_lit (Kd.int .u8) _ 5 ?hg (N := 22) ?hd (xs := ([(wrap64 (48 + a0)) % 256] : List Int)) (inner := [.int .u8 ((wrap64 (48 + a0)) % 256)]) (ok := fun _ => True) (okp := fun _ => True) ?hr ?hp (fun _ hk => hk) trivial (Below.refl _ _) (Nat.le_refl _) (by simp) ?_; (case hd => rfl); (case hg => rfl); (case hr => exact Z17); (case hp => exact (Reps.one (show Kd.M (Kd.int .u8) _ _ _ ((wrap64 (48 + a0)) % 256) [.int .u8 ((wrap64 (48 + a0)) % 256)] from rfl) (Reps.none _ _))); intro v1 w0 ho0 hb hg_ hnew_; clear hg_ hnew_; (first | rw [← Ny0.out] at ho0 | (simp only [Int.reduceToNat] at ho0; rw [← Ny0.out] at ho0)); have O0 := sqL ho0 (sqB HB); replace HB := sqS (sqB HB) hb; clear hb ho0; have hcv0 := own_string (P := prog) underlying43 underlying5 underlying9 (Kd.own_of_R O0.1)))
    go_ret
    exact ⟨Z5, sqB HB⟩
   rw [if_neg c9] at H
   have c9b0 : decide (a0 < 10) = false := decide_eq_false c9
   clear c9
   obtain ⟨t1, A0, H⟩ := sqD H
   obtain ⟨y1, hy1⟩ : ∃ y_ : List Int, y_ = (([(wrap64 (48 + (Int.tmod a0 10))) % 256] : List Int)) := ⟨_, rfl⟩
   replace H : (if t1.size + (strOfNums y1).size ≤ 9223372036854775807 then (some (t1 ++ (strOfNums y1))) else (none)) = some r := sqW hy1 H
   have Ny1 := sqa hy1
   clear hy1
   obtain ⟨c0, H⟩ := sqI H
   have c1 := eq_true c0
   have c2 : decide (t1.size + (strOfNums y1).size ≤ 9223372036854775807) = true := decide_eq_true c0
   try have c6 : (9223372036854775807 < t1.size + (strOfNums y1).size) = False := eq_false (Nat.not_lt.2 c0)
   obtain rfl := sqo H
   try go_wp2
   replace HB := sqa (below_drew1 HB.1)
   refine start_ (n := 11) (S := fun w' => True) (ds := []) #[false, false, false, false, false, false, false, false, false, false, false] (by kernel_rfl) rfl rfl trivial (fun hHeld => ?_); refine with_tabW spec_l1Number.tab7 spec_l1Number.bits7 (fun HT_ HW_ => ?_)
   generalize wc.drew = w2 at HB hHeld ⊢
   refine sqP 0 (some 24) (h := ?_)
   refine sqP 1 (some 25) (h := ?_)
   refine sqP 3 (some 27) (h := ?_)
   refine sqP 4 (some 28) (h := ?_)
   refine sqP 5 (some 29) (h := ?_)
   refine sqP 6 (some 30) (h := ?_)
   refine join_ (σ := Value) 2 #[true, true, true, true, true, true, true, true, true, false, false] (fun s_ => [(26, .string t1), (31, s_), (32, .string (strOfNums y1))]) (fun s_ w' => (Kd.R (Kd.int .u8) 5 w' w.heap.size (fun _ => True) s_ y1) ∧ (Below w.heap.size w w')) ?_ ?_
   rotate_left
   ·intro hCont
    refine two_ (i := 2) (j := 7) (Ni := some 26) (Nj := some 31) #[true, true, true, true, true, true, true, false, false, false, false] #[true, true, false, true, true, true, true, true, false, false, false] rfl rfl rfl rfl (two_of HT_.out (by kernel_rfl)) (by decide) (by decide) (fun K hK => ?_) (fun K hK => ?_)
    ·skip
     refine sqg func93 #[.int .i64 (wrap64 (Int.tdiv a0 10))] ?_
     with_reducible refine (ih kj1 Z21 (wrap64 (Int.tdiv a0 10)) t1 _ A0.1).mono ?_
     rintro e w3 ⟨rfl, hb⟩
     refine ⟨_, rfl, ?_⟩
     replace HB := sqS (sqB HB) hb
     refine hK.out _ _ trivial (fun hHeld => ?_)
     clear hK K
     refine sqN (some 26) ?_
     refine sq1 7 (some 31) (h := fun K hK => ?_)
     refine Kd.R_lit_step (Kd.int .u8) _ 5 ?hg (N := 31) ?hd (xs := ([(wrap64 (48 + (Int.tmod a0 10))) % 256] : List Int)) (inner := [.int .u8 ((wrap64 (48 + (Int.tmod a0 10))) % 256)]) (ok := fun _ => True) (okp := fun _ => True) ?hr ?hp (fun _ hk => hk) trivial (Below.refl _ _) (Nat.le_refl _) (by simp) ?_; (case hd => rfl); (case hg => rfl); (case hr => exact Z17); (case hp => exact Z22)
     intro v2 w4 ho1 hb hg_ hnew_
     clear hg_ hnew_
     (first | rw [← Ny1.out] at ho1 | (simp only [Int.reduceToNat] at ho1; rw [← Ny1.out] at ho1))
     have O1 := sqL ho1 (sqB HB)
     replace HB := sqS (sqB HB) hb
     clear hb ho1
     refine hK.out _ _ trivial (fun hHeld => ?_)
     clear hK K
     refine sqN (some 31) ?_
     refine sq1 8 (some 32) (h := fun K hK => ?_)
     have hcv1 := own_string (P := prog) underlying43 underlying5 underlying9 (Kd.own_of_R O1.1)
     refine value_ (w1 := ?_) (v := ?_) (by rfl) rfl ?_ ?_
     rotate_left 2
     ·go_simp
      constructor
      ·rfl
      ·rfl
     clear hcv1
     refine hK.out _ _ trivial (fun hHeld => ?_)
     clear hK K
     refine sqN (some 32) ?_
     exact norm_ Z20 (hCont (v2) _ ⟨(sqR O1), (sqB HB)⟩)
    ·skip
     refine Kd.R_lit_step (Kd.int .u8) _ 5 ?hg (N := 31) ?hd (xs := ([(wrap64 (48 + (Int.tmod a0 10))) % 256] : List Int)) (inner := [.int .u8 ((wrap64 (48 + (Int.tmod a0 10))) % 256)]) (ok := fun _ => True) (okp := fun _ => True) ?hr ?hp (fun _ hk => hk) trivial (Below.refl _ _) (Nat.le_refl _) (by simp) ?_; (case hd => rfl); (case hg => rfl); (case hr => exact Z17); (case hp => exact Z22)
     intro v2 w3 ho2 hb hg_ hnew_
     clear hg_ hnew_
     (first | rw [← Ny1.out] at ho2 | (simp only [Int.reduceToNat] at ho2; rw [← Ny1.out] at ho2))
     have O1 := sqL ho2 (sqB HB)
     replace HB := sqS (sqB HB) hb
     clear hb ho2
     refine hK.out _ _ trivial (fun hHeld => ?_)
     clear hK K
     refine sqN (some 31) ?_
     refine two_ (i := 2) (j := 8) (Ni := some 26) (Nj := some 32) #[true, true, true, true, true, true, true, true, false, false, false] #[true, true, false, true, true, true, true, true, true, false, false] rfl rfl rfl rfl (two_of HT_.out (by kernel_rfl)) (by decide) (by decide) (fun K hK => ?_) (fun K hK => ?_)
     ·skip
      refine sqg func93 #[.int .i64 (wrap64 (Int.tdiv a0 10))] ?_
      with_reducible refine (ih kj1 Z21 (wrap64 (Int.tdiv a0 10)) t1 _ A0.1).mono ?_
      rintro e w5 ⟨rfl, hb⟩
      refine ⟨_, rfl, ?_⟩
      replace O1 := sqU O1 hb
      replace HB := sqS (sqB HB) hb
      refine hK.out _ _ trivial (fun hHeld => ?_)
      clear hK K
      refine sqN (some 26) ?_
      refine sq1 8 (some 32) (h := fun K hK => ?_)
      have hcv1 := own_string (P := prog) underlying43 underlying5 underlying9 (Kd.own_of_R O1.1)
      refine value_ (w1 := ?_) (v := ?_) (by rfl) rfl ?_ ?_
      rotate_left 2
      ·go_simp
       constructor
       ·rfl
       ·rfl
      clear hcv1
      refine hK.out _ _ trivial (fun hHeld => ?_)
      clear hK K
      refine sqN (some 32) ?_
      exact norm_ Z20 (hCont (v2) _ ⟨(sqR O1), (sqB HB)⟩)
     ·skip
      have hcv2 := own_string (P := prog) underlying43 underlying5 underlying9 (Kd.own_of_R O1.1)
      refine value_ (w1 := ?_) (v := ?_) (by rfl) rfl ?_ ?_
      rotate_left 2
      ·go_simp
       constructor
       ·rfl
       ·rfl
      clear hcv2
      refine hK.out _ _ trivial (fun hHeld => ?_)
      clear hK K
      refine sqN (some 32) ?_
      refine sq1 2 (some 26) (h := fun K hK => ?_)
      refine sqg func93 #[.int .i64 (wrap64 (Int.tdiv a0 10))] ?_
      with_reducible refine (ih kj1 Z21 (wrap64 (Int.tdiv a0 10)) t1 _ A0.1).mono ?_
      rintro e w6 ⟨rfl, hb⟩
      refine ⟨_, rfl, ?_⟩
      replace O1 := sqU O1 hb
      replace HB := sqS (sqB HB) hb
      refine hK.out _ _ trivial (fun hHeld => ?_)
      clear hK K
      refine sqN (some 26) ?_
      exact norm_ Z20 (hCont (v2) _ ⟨(sqR O1), (sqB HB)⟩)
   rintro v2 w7 ⟨h0_, h1_⟩
   replace O1 := sqa h0_
   replace HB := sqa h1_
   clear h0_ h1_
   have hHeld := trivial
   refine norm_ (a' := ?_) ?_ ?_
   rotate_left
   ·simp only [putAll, Act.put, List.setIfInBounds_toArray, List.set_cons_zero, List.set_cons_succ]
    rfl
   refine sqP 9 (some 33) (h := ?_)
   refine sqP 10 (some 2) (h := ?_)
   refine done_ (done_of HT_.out (by kernel_rfl)) ?_
   try go_wp2
   go_ret
   exact ⟨Z5, sqB HB⟩

/-! ### spec_FractionText: function 89 -/
def spec_FractionText.f (k : Nat) (a0_0 : Int) (a0_1 : Int) : Option (ByteArray) := (spec_FractionOk.f k a0_0 a0_1).bind fun t0 => (if t0 = true then (if a0_1 = 1 then ((spec_l1Number.f k a0_0).bind fun t1 => (some t1)) else ((spec_l1Number.f k a0_0).bind fun t2 => (if t2.size + 1 ≤ 9223372036854775807 then ((spec_l1Number.f k a0_1).bind fun t3 => (if (t2 ++ (⟨#[47]⟩ : ByteArray)).size + t3.size ≤ 9223372036854775807 then (some ((t2 ++ (⟨#[47]⟩ : ByteArray)) ++ t3)) else (none))) else (none)))) else (some (⟨#[]⟩ : ByteArray)))
theorem spec_FractionText.mono : ∀ a0 a1 k, LeO (spec_FractionText.f k a0 a1) (spec_FractionText.f (k + 1) a0 a1) := by
 intro a0 a1 k
 unfold spec_FractionText.f
 repeat' (with_reducible first | exact spec_FractionOk.mono _ _ _ | exact spec_l1Number.mono _ _ | exact LeO.refl _ | exact LeO.none _ | refine LeO.ite ?_ ?_ | refine LeO.bind ?_ fun _ => ?_)
def spec_FractionText.T5 : Bool × List (List Nat × List Nat) := (true, [([], []), ([0], [0]), ([1], [1]), ([2], [2]), ([], []), ([4], [4]), ([5, 2], [5]), ([3, 6], [3, 6]), ([7, 6, 0, 1, 2, 3, 4, 5, 6, 7], [7])])
def spec_FractionText.B5 : List Nat := [0, 1, 3, 7, 0, 16, 55, 127, 255]
theorem spec_FractionText.tab5 : rtab .any (opsOf f89 5) = spec_FractionText.T5 := by kernel_rfl
theorem spec_FractionText.bits5 : waitsOk spec_FractionText.T5.2 spec_FractionText.B5 = true := by kernel_rfl
theorem spec_FractionText.calls (k : Nat) (a0_0 : Int) (a0_1 : Int) (r : ByteArray) (w : World) (H : spec_FractionText.f k a0_0 a0_1 = some r) :
  Calls prog 89 #[.agg #[.int .i64 a0_0, .int .i64 a0_1]] w fun e w' => e = .returned (.string r) ∧ Below w.heap.size w w' := by
 have hu31 := underlying31
 have HB := sqh w
 unfold spec_FractionText.f at H
 obtain ⟨t0, A2, H⟩ := sqD H
 by_cases c3 : t0 = true
 ·subst c3
  rw [if_pos rfl] at H
  by_cases c4 : a0_1 = 1
  ·rw [if_pos c4] at H
   have c4b0 : (a0_1 == 1) = true := sqe1 c4
   have c4b1 : (a0_1 != 1) = false := sqn0 c4
   clear c4
   obtain ⟨t1, A5, H⟩ := sqD H
   obtain rfl := sqo H
   go_enter func89, ntmps89
   go_wp2_with (first | ((with_reducible refine sqd 1 rfl ?_); refine sqBx w (sqB HB) (cs := #[.int .i64 a0_0, .int .i64 a0_1]) (t := 31) ?_; intro g0 hg w6 B0 E0 HB hb; clear hb hg; obtain ⟨_, _, _, _⟩ := sqY2 B0) | ((with_reducible refine sqc 77 rfl ?_); refine sqC (some 5) func77 #[.agg #[.int .i64 a0_0, .int .i64 a0_1]] ?_; (with_reducible refine (spec_FractionOk.calls k a0_0 a0_1 true _ A2.1).mono ?_); refine sqV fun w8 hb => ?_; replace B0 := sqT B0 hb; replace HB := sqS (sqB1 HB E0) hb; obtain ⟨_, _, _, _⟩ := sqY2 B0) | ((with_reducible refine sqc 93 rfl ?_); refine sqC (some 13) func93 #[.int .i64 a0_0] ?_; (with_reducible refine (spec_l1Number.calls k a0_0 t1 _ A5.1).mono ?_); refine sqV fun w0 hb => ?_; replace B0 := sqT B0 hb; replace HB := sqS (sqB1 HB E0) hb))
   go_ret
   exact ⟨Z5, sqB1 HB E0⟩
  rw [if_neg c4] at H
  have c4b0 : (a0_1 == 1) = false := sqe0 c4
  have c4b1 : (a0_1 != 1) = true := sqn1 c4
  obtain ⟨t2, A0, H⟩ := sqD H
  obtain ⟨c0, H⟩ := sqI H
  have c1 := eq_true c0
  have c2 : decide (t2.size + 1 ≤ 9223372036854775807) = true := decide_eq_true c0
  try have c5 : (9223372036854775807 < t2.size + 1) = False := eq_false (Nat.not_lt.2 c0)
  obtain ⟨t3, A1, H⟩ := sqD H
  obtain ⟨c6, H⟩ := sqI H
  have c7 := eq_true c6
  have c8 : decide ((t2 ++ (⟨#[47]⟩ : ByteArray)).size + t3.size ≤ 9223372036854775807) = true := decide_eq_true c6
  try have c9 : (9223372036854775807 < (t2 ++ (⟨#[47]⟩ : ByteArray)).size + t3.size) = False := eq_false (Nat.not_lt.2 c6)
  try have c10 : (9223372036854775807 < t2.size + 1 + t3.size) = False := by (have h_ := c9; (repeat rw [ByteArray.size_append] at h_); exact h_)
  obtain rfl := sqo H
  go_enter func89, ntmps89
  try go_wp2_with (first | ((with_reducible refine sqd 1 rfl ?_); refine sqBx w (sqB HB) (cs := #[.int .i64 a0_0, .int .i64 a0_1]) (t := 31) ?_; intro g0 hg w1 B0 E0 HB hb; clear hb hg; obtain ⟨_, _, _, _⟩ := sqY2 B0) | ((with_reducible refine sqc 77 rfl ?_); refine sqC (some 5) func77 #[.agg #[.int .i64 a0_0, .int .i64 a0_1]] ?_; (with_reducible refine (spec_FractionOk.calls k a0_0 a0_1 true _ A2.1).mono ?_); refine sqV fun w2 hb => ?_; replace B0 := sqT B0 hb; replace HB := sqS (sqB1 HB E0) hb; obtain ⟨_, _, _, _⟩ := sqY2 B0))
  replace B0 := sqa (blk_drew B0.1)
  replace HB := sqa (below_drew1 HB.1)
  refine start_ (n := 9) (S := fun w' => w'.cell? ⟨g0, 0, none⟩ = some (.int .i64 a0_0) ∧ w'.cell? ⟨g0, 1, none⟩ = some (.int .i64 a0_1)) (ds := []) #[false, false, false, false, false, false, false, false, false] (by kernel_rfl) rfl rfl (sqk1 B0) (fun hHeld => ?_); refine with_tabW spec_FractionText.tab5 spec_FractionText.bits5 (fun HT_ HW_ => ?_)
  generalize w2.drew = w3 at B0 HB hHeld ⊢
  refine sqP 0 (some 14) (h := ?_)
  refine sqP 4 (some 18) (h := ?_)
  refine sqQ 1 (some 15) hHeld (h := ?_)
  refine sqQ 5 (some 19) hHeld (h := ?_)
  refine sq1 2 (some 16) (h := fun K hK => ?_)
  refine sqg func93 #[.int .i64 a0_0] ?_
  with_reducible refine (spec_l1Number.calls k a0_0 t2 _ A0.1).mono ?_
  rintro e w4 ⟨rfl, hb⟩
  refine ⟨_, rfl, ?_⟩
  replace B0 := sqT B0 hb
  replace HB := sqS (sqB1 HB E0) hb
  refine hK.out _ _ (sqk1 B0) (fun hHeld => ?_)
  clear hK K
  refine sqN (some 16) ?_
  refine sqP 3 (some 17) (h := ?_)
  refine sq1 6 (some 20) (h := fun K hK => ?_)
  refine sqg func93 #[.int .i64 a0_1] ?_
  with_reducible refine (spec_l1Number.calls k a0_1 t3 _ A1.1).mono ?_
  rintro e w5 ⟨rfl, hb⟩
  refine ⟨_, rfl, ?_⟩
  replace B0 := sqT B0 hb
  replace HB := sqS (sqB1 HB E0) hb
  refine hK.out _ _ (sqk1 B0) (fun hHeld => ?_)
  clear hK K
  refine sqN (some 20) ?_
  refine sqP 7 (some 21) (h := ?_)
  refine sqP 8 (some 2) (h := ?_)
  refine done_ (done_of HT_.out (by kernel_rfl)) ?_
  try go_wp2
  go_ret
  exact ⟨Z5, sqB1 HB E0⟩
 obtain rfl := sqb c3
 rw [if_neg sqF] at H
 obtain rfl := sqo H
 go_enter func89, ntmps89
 go_wp2_with (first | ((with_reducible refine sqd 1 rfl ?_); refine sqBx w (sqB HB) (cs := #[.int .i64 a0_0, .int .i64 a0_1]) (t := 31) ?_; intro g0 hg w7 B0 E0 HB hb; clear hb hg; obtain ⟨_, _, _, _⟩ := sqY2 B0) | ((with_reducible refine sqc 77 rfl ?_); refine sqC (some 5) func77 #[.agg #[.int .i64 a0_0, .int .i64 a0_1]] ?_; (with_reducible refine (spec_FractionOk.calls k a0_0 a0_1 false _ A2.1).mono ?_); refine sqV fun w9 hb => ?_; replace B0 := sqT B0 hb; replace HB := sqS (sqB1 HB E0) hb))
 go_ret
 exact ⟨Z5, sqB1 HB E0⟩

/-! ### spec_l1Cut: function 99 -/
def spec_l1Cut.l0 : Nat → ByteArray → Int → List ByteArray → Int → Int → Option (List ByteArray)
 | 0, _, _, _, _, _ => none
 | k + 1, x0, x1, x5, x6, x7 => if x7 < (x0.size : Int) then (if 0 ≤ x7 then (if (bt x0 x7) = x1 then (if 0 ≤ x6 then (if x6 ≤ x7 then (if x7 ≤ (x0.size : Int) then (if x5.length < 8796093022208 then (spec_l1Cut.l0 k x0 x1 (x5 ++ [x0.extract (x6 : Int).toNat (x7 : Int).toNat]) (wrap64 (x7 + 1)) (wrap64 (x7 + 1))) else (none)) else (none)) else (none)) else (none)) else (spec_l1Cut.l0 k x0 x1 x5 x6 (wrap64 (x7 + 1)))) else (none)) else (if 0 ≤ x6 then (if x6 ≤ (x0.size : Int) then (if x5.length < 8796093022208 then (some (x5 ++ [x0.extract (x6 : Int).toNat x0.size])) else (none)) else (none)) else (none))
def spec_l1Cut.f (k : Nat) (a0 : ByteArray) (a1 : Int) : Option (List ByteArray) := spec_l1Cut.l0 k a0 a1 (([] : List ByteArray)) 0 0
abbrev spec_l1Cut.M (k : Nat) : Prop := (∀ y0 y1 y2 y3 y4, LeO (spec_l1Cut.l0 k y0 y1 y2 y3 y4) (spec_l1Cut.l0 (k + 1) y0 y1 y2 y3 y4))
theorem spec_l1Cut.mono_t : ∀ k, spec_l1Cut.M k → spec_l1Cut.M (k + 1) ∧ ∀ a0 a1, LeO (spec_l1Cut.f k a0 a1) (spec_l1Cut.f (k + 1) a0 a1) := by
  rintro k ih0
  refine ⟨?_, ?_⟩ <;> (try unfold spec_l1Cut.M) <;> intros <;> (first | unfold spec_l1Cut.l0 | unfold spec_l1Cut.f) <;> repeat' (with_reducible first | exact ih0 _ _ _ _ _ | exact LeO.refl _ | exact LeO.none _ | refine LeO.ite ?_ ?_ | refine LeO.bind ?_ fun _ => ?_)
theorem spec_l1Cut.mono_l : ∀ k, spec_l1Cut.M k
 | 0 => fun _ _ _ _ _ r h => by simp [spec_l1Cut.l0] at h
 | k + 1 => (spec_l1Cut.mono_t k (spec_l1Cut.mono_l k)).1
theorem spec_l1Cut.mono a0 a1 k : LeO (spec_l1Cut.f k a0 a1) (spec_l1Cut.f (k + 1) a0 a1) := (spec_l1Cut.mono_t k (spec_l1Cut.mono_l k)).2 a0 a1
theorem spec_l1Cut.calls (k : Nat) (a0 : ByteArray) (a1 : Int) (r : List ByteArray) (w : World) (H : spec_l1Cut.f k a0 a1 = some r) :
  Calls prog 99 #[.string a0, .int .u8 a1] w fun e w' => ∃ v0_ : Value, e = .returned (v0_) ∧ Kd.R Kd.string 9 w' w.heap.size (fun _ => True) v0_ r ∧ Below w.heap.size w w' := by
 have HB := sqh w
 unfold spec_l1Cut.f at H
 obtain ⟨y0, hy0⟩ : ∃ y_ : List ByteArray, y_ = (([] : List ByteArray)) := ⟨_, rfl⟩
 replace H : (spec_l1Cut.l0 k a0 a1 y0 0 0) = some r := sqW hy0 H
 have Ny0 := sqa hy0
 clear hy0
 have H' := sqa H
 clear H
 go_enter func99, ntmps99
 go_wp2_with (first | ((with_reducible refine sqd 8 rfl ?_); refine Kd.R_lit Kd.string _ 9 ?hg (N := 8) ?hd (xs := ([] : List ByteArray)) (inner := []) (ok := fun _ => True) (okp := fun _ => True) ?hr ?hp (fun _ hk => hk) trivial (Below.refl _ _) (Nat.le_refl _) (by simp) ?_; (case hd => rfl); (case hg => rfl); (case hr => exact Z17); (case hp => exact Z23); intro v0 w3 ho4 hb hg_ hnew_; clear hg_ hnew_; (first | rw [← Ny0.out] at ho4 | (simp only [Int.reduceToNat] at ho4; rw [← Ny0.out] at ho4)); have O0 := sqL ho4 (sqB HB); replace HB := sqS (sqB HB) hb; clear hb ho4))
 go_loopg [5, 6, 7] k (fun kq v5 v6 v7 w' => ∃ (x5_1 : List ByteArray) (x6_1 : Int) (x7_1 : Int), v6 = .int .i64 x6_1 ∧ v7 = .int .i64 x7_1 ∧ Aside0 (spec_l1Cut.l0 kq a0 a1 x5_1 x6_1 x7_1 = some r) ∧ Aside0 (kq ≤ k) ∧ Aside0 (Kd.R Kd.string 9 w' w.heap.size (fun _ => True) v5 x5_1) ∧ Aside0 (Below w.heap.size w w'))
 case atStart => exact ⟨(y0), (0), (0), Z1, Z1, H', ⟨Nat.le_refl _⟩, ⟨sqR O0⟩, ⟨sqB HB⟩⟩
 case round =>
  clear H'
  obtain ⟨x5_1, x6_1, x7_1, rfl, rfl, HA, HK1, O1, HB⟩ := hrel
  cases gk with
  | zero => exact absurd HA.out (by simp [spec_l1Cut.l0])
  | succ k1 =>
   have H := HA.out
   clear HA
   simp only [spec_l1Cut.l0] at H
   by_cases c5 : x7_1 < (a0.size : Int)
   ·rw [if_pos c5] at H
    have c5b0 : decide (x7_1 < (a0.size : Int)) = true := decide_eq_true c5
    clear c5
    obtain ⟨c6, H⟩ := sqI H
    have c6b0 : decide (0 ≤ x7_1) = true := decide_eq_true c6
    clear c6
    by_cases c8 : (bt a0 x7_1) = a1
    ·rw [if_pos c8] at H
     have c8b0 : ((bt a0 x7_1) == a1) = true := sqe1 c8
     have c8b1 : ((bt a0 x7_1) != a1) = false := sqn0 c8
     clear c8
     obtain ⟨c9, H⟩ := sqI H
     have c9b0 := eq_true c9
     have c9b1 : decide (0 ≤ x6_1) = true := decide_eq_true c9
     clear c9
     obtain ⟨c10, H⟩ := sqI H
     have c0 := eq_true c10
     have c1 : decide (x6_1 ≤ x7_1) = true := decide_eq_true c10
     clear c10
     obtain ⟨c2, H⟩ := sqI H
     have c3 := eq_true c2
     have c4 : decide (x7_1 ≤ (a0.size : Int)) = true := decide_eq_true c2
     clear c2
     obtain ⟨c7, H⟩ := sqI H
     have LMc0 := sqa c7
     clear c7
     obtain ⟨y1, hy1⟩ : ∃ y_ : List ByteArray, y_ = (x5_1 ++ [a0.extract (x6_1 : Int).toNat (x7_1 : Int).toNat]) := ⟨_, rfl⟩
     replace H : (spec_l1Cut.l0 k1 a0 a1 y1 (wrap64 (x7_1 + 1)) (wrap64 (x7_1 + 1))) = some r := sqW hy1 H
     have Ny1 := sqa hy1
     clear hy1
     have H' := sqa H
     clear H
     have p7 : 0 ≤ (x7_1 : Int) := of_decide_eq_true Z16
     have q7 : x7_1 < (a0.size : Int) := of_decide_eq_true Z16
     have hx7 := bt_at a0 x7_1
     replace p7 := eq_true p7
     replace q7 := eq_true q7
     go_wp2_with (first | ((with_reducible refine gate_builtin (b := .append) (xs := #[.tmp 20, .tmp 25]) rfl ?_); at_builtin; refine Kd.R_append Kd.string (w0 := w) w.heap.size rfl (.tmp 20) (.tmp 25) 73 9 (.string ⟨#[]⟩) 16 rfl underlying73 info9 rfl (by decide) (by omega) u5 x5_1 (a0.extract (x6_1 : Int).toNat (x7_1 : Int).toNat) [.string (a0.extract (x6_1 : Int).toNat (x7_1 : Int).toNat)] (fun _ => True) (fun _ => False) rfl rfl ?aP (fun _ hk => hk.elim) ?aF ?aO ?aB ?aS ?aL ?_; (case aP => exact rfl); (case aB => exact (sqB HB)); (case aF => exact Z24); (case aO => exact (sqR O1)); (case aS => exact (below_size (sqB HB))); (case aL => exact Z2 LMc0); intro v1 w1 ho hb hg hat; rw [← Ny1.out] at ho; replace HB := sqa (hb); have O2 := sqa (ho); clear O1; clear ho hb hg hat))
     go_roundg k1
     case measure => have := HK1.out; omega
     case rel => exact ⟨(y1), (wrap64 (x7_1 + 1)), (wrap64 (x7_1 + 1)), Z1, Z1, H', ⟨Z2 HK1⟩, ⟨sqR O2⟩, ⟨sqB HB⟩⟩
    rw [if_neg c8] at H
    have c8b0 : ((bt a0 x7_1) == a1) = false := sqe0 c8
    have c8b1 : ((bt a0 x7_1) != a1) = true := sqn1 c8
    have H' := sqa H
    clear H
    have p7 : 0 ≤ (x7_1 : Int) := of_decide_eq_true Z16
    have q7 : x7_1 < (a0.size : Int) := of_decide_eq_true Z16
    have hx7 := bt_at a0 x7_1
    replace p7 := eq_true p7
    replace q7 := eq_true q7
    go_wp2
    go_roundg k1
    case measure => have := HK1.out; omega
    case rel => exact ⟨(x5_1), (x6_1), (wrap64 (x7_1 + 1)), Z1, Z1, H', ⟨Z2 HK1⟩, ⟨sqR O1⟩, ⟨sqB HB⟩⟩
   rw [if_neg c5] at H
   have c5b0 : decide (x7_1 < (a0.size : Int)) = false := decide_eq_false c5
   clear c5
   obtain ⟨c14, H⟩ := sqI H
   have c17 := eq_true c14
   have c18 : decide (0 ≤ x6_1) = true := decide_eq_true c14
   clear c14
   obtain ⟨c15, H⟩ := sqI H
   have c20 := eq_true c15
   have c21 : decide (x6_1 ≤ (a0.size : Int)) = true := decide_eq_true c15
   clear c15
   obtain ⟨c16, H⟩ := sqI H
   have LMc1 := sqa c16
   clear c16
   obtain ⟨y2, hy2⟩ : ∃ y_ : List ByteArray, y_ = (x5_1 ++ [a0.extract (x6_1 : Int).toNat a0.size]) := ⟨_, rfl⟩
   replace H : (some y2) = some r := sqW hy2 H
   have Ny2 := sqa hy2
   clear hy2
   obtain rfl := sqo H
   go_wp2_with (first | ((with_reducible refine gate_builtin (b := .append) (xs := #[.tmp 29, .tmp 33]) rfl ?_); at_builtin; refine Kd.R_append Kd.string (w0 := w) w.heap.size rfl (.tmp 29) (.tmp 33) 73 9 (.string ⟨#[]⟩) 16 rfl underlying73 info9 rfl (by decide) (by omega) u5 x5_1 (a0.extract (x6_1 : Int).toNat a0.size) [.string (a0.extract (x6_1 : Int).toNat a0.size)] (fun _ => True) (fun _ => False) rfl rfl ?aP (fun _ hk => hk.elim) ?aF ?aO ?aB ?aS ?aL ?_; (case aP => exact rfl); (case aB => exact (sqB HB)); (case aF => exact Z24); (case aO => exact (sqR O1)); (case aS => exact (below_size (sqB HB))); (case aL => exact Z2 LMc1); intro v2 w2 ho hb hg hat; rw [← Ny2.out] at ho; replace HB := sqa (hb); have O3 := sqa (ho); clear O1; clear ho hb hg hat))
   go_ret
   exact ⟨_, Z5, Z25 O3, sqB HB⟩
section
attribute [local go_sem high] eqA38
/-! ### spec_l1Digits: function 100 -/
mutual
def spec_l1Digits.j0 : Nat → ByteArray → Bool → Option (Int × Bool)
 | 0, _, _ => none
 | k + 1, x0, x1 => if x1 = true then (if 1 ≤ (x0.size : Int) then ((spec_l1Digits.f k (x0.extract 1 x0.size)).bind fun bt0 => (if bt0.2 = true then (some (wrap64 (-bt0.1), decide (bt0.1 > 0))) else (some (wrap64 (-bt0.1), false)))) else (none)) else ((spec_l1In.f (x0.size : Int) 1 7).bind fun t0 => (if t0 = true then (if (x0.size : Int) > 1 then (if 0 < (x0.size : Int) then (spec_l1Digits.j1 k x0 ((bt x0 0) == 48)) else (none)) else (spec_l1Digits.j1 k x0 false)) else (spec_l1Digits.j1 k x0 true)))
def spec_l1Digits.j1 : Nat → ByteArray → Bool → Option (Int × Bool)
 | 0, _, _ => none
 | k + 1, x0, x1 => if x1 = true then (some (0, false)) else (spec_l1Digits.l0 k x0 0 0)
def spec_l1Digits.l0 : Nat → ByteArray → Int → Int → Option (Int × Bool)
 | 0, _, _, _ => none
 | k + 1, x0, x6, x7 => if x7 < (x0.size : Int) then (if 0 ≤ x7 then (if (bt x0 x7) < 48 then (some (0, false)) else (if (bt x0 x7) > 57 then (some (0, false)) else (spec_l1Digits.l0 k x0 (wrap64 ((wrap64 (10 * x6)) + (((bt x0 x7) - 48) % 256))) (wrap64 (x7 + 1))))) else (none)) else (some (x6, true))
def spec_l1Digits.f : Nat → ByteArray → Option (Int × Bool)
 | 0, _ => none
 | k + 1, a0 => if (a0.size : Int) > 1 then (if 0 < (a0.size : Int) then (spec_l1Digits.j0 k a0 ((bt a0 0) == 45)) else (none)) else (spec_l1Digits.j0 k a0 false)
end
theorem spec_l1Digits.mono_l : ∀ k, (∀ y0, LeO (spec_l1Digits.f k y0) (spec_l1Digits.f (k + 1) y0)) ∧ (∀ y0 y1, LeO (spec_l1Digits.j0 k y0 y1) (spec_l1Digits.j0 (k + 1) y0 y1)) ∧ (∀ y0 y1, LeO (spec_l1Digits.j1 k y0 y1) (spec_l1Digits.j1 (k + 1) y0 y1)) ∧ (∀ y0 y1 y2, LeO (spec_l1Digits.l0 k y0 y1 y2) (spec_l1Digits.l0 (k + 1) y0 y1 y2))
 | 0 => ⟨fun _ r h => by simp [spec_l1Digits.f] at h, fun _ _ r h => by simp [spec_l1Digits.j0] at h, fun _ _ r h => by simp [spec_l1Digits.j1] at h, fun _ _ _ r h => by simp [spec_l1Digits.l0] at h⟩
 | k + 1 => by
  obtain ⟨ih0, ih1, ih2, ih3⟩ := spec_l1Digits.mono_l k
  refine ⟨?_, ?_, ?_, ?_⟩ <;> intros <;> (first | unfold spec_l1Digits.f | unfold spec_l1Digits.j0 | unfold spec_l1Digits.j1 | unfold spec_l1Digits.l0) <;> repeat' (with_reducible first | exact ih0 _ | exact ih1 _ _ | exact ih2 _ _ | exact ih3 _ _ _ | exact LeO.refl _ | exact LeO.none _ | refine LeO.ite ?_ ?_ | refine LeO.bind ?_ fun _ => ?_)
theorem spec_l1Digits.mono : ∀ a0 k, LeO (spec_l1Digits.f k a0) (spec_l1Digits.f (k + 1) a0) := by
 intro a0 k
 obtain ⟨ih0, ih1, ih2, ih3⟩ := spec_l1Digits.mono_l k
 exact ih0 a0
theorem spec_l1Digits.calls (k : Nat) : ∀ (a0 : ByteArray) (r1 : Int) (r2 : Bool) (w : World) (h : spec_l1Digits.f k a0 = some (r1, r2)),
  Calls prog 100 #[.string a0] w fun e w' => e = .returned (.tuple #[.int .i64 r1, .bool r2]) ∧ Drawn0 w w' := by
 induction k using Nat.strongRecOn with
 | _ k ih =>
 intro a0 r1 r2 w h
 cases k with
 | zero => exact absurd h (by simp [spec_l1Digits.f])
 | succ k =>
 simp only [spec_l1Digits.f] at h
 have H : (if (a0.size : Int) > 1 then (if 0 < (a0.size : Int) then (spec_l1Digits.j0 k a0 ((bt a0 0) == 45)) else (none)) else (spec_l1Digits.j0 k a0 false)) = some (r1, r2) := h
 clear h
 have HC2 := sqa H
 clear H
 go_enter func100, ntmps100
 go_upto_region 1 with (fail)
 go_cut [15] (fun v0 wc => ∃ (kq : Nat) (x0 : Bool), v0 = .bool x0 ∧ Aside0 (spec_l1Digits.j0 kq a0 x0 = some (r1, r2)) ∧ Aside0 (kq ≤ k) ∧ Drawn0 w wc)
 case first =>
  have H := HC2.1
  clear HC2
  by_cases c3 : (a0.size : Int) > 1
  ·rw [if_pos c3] at H
   have c3b0 : decide (1 < (a0.size : Int)) = true := decide_eq_true c3
   have c3b1 : decide (1 < a0.size) = true := decide_eq_true (by omega)
   clear c3
   (first | rw [c3b0] | (simp only [i64_w, i32_w]; rw [c3b0]) | skip)
   obtain ⟨c4, H⟩ := sqI H
   have c4b0 : decide (0 < (a0.size : Int)) = true := decide_eq_true c4
   have c4b1 : decide (0 < a0.size) = true := decide_eq_true (by omega)
   clear c4
   have H' := sqa H
   clear H
   have p5 : 0 ≤ (0 : Int) := (by omega)
   have q5 : 0 < a0.size := (by have : (0 : Int) < (a0.size : Int) := of_decide_eq_true Z16; omega)
   have hx5 : ∀ h : 0 < a0.size, ((a0[0]'h).toNat : Int) = bt a0 0 := bt_at a0 0
   clear p5
   have qi5 : (0 < (a0.size : Int)) = True := eq_true (of_decide_eq_true Z16)
   replace q5 := eq_true q5
   go_wp2
   go_meet
   case rel => exact ⟨_, (((bt a0 0) == 45)), Z1, H', ⟨Z11⟩, Z15⟩
  rw [if_neg c3] at H
  have c3b0 : decide (1 < (a0.size : Int)) = false := decide_eq_false c3
  have c3b1 : decide (1 < a0.size) = false := decide_eq_false (by omega)
  clear c3
  (first | rw [c3b0] | (simp only [i64_w, i32_w]; rw [c3b0]) | skip)
  have H' := sqa H
  clear H
  go_wp2
  go_meet
  case rel => exact ⟨_, (false), Z1, H', ⟨Z11⟩, Z15⟩
 case rest =>
  clear HC2
  obtain ⟨kq, x0, rfl, HA, HJ1, ⟨mc1, rfl⟩⟩ := hcut
  cases kq with
  | zero => exact absurd HA.out (by simp [spec_l1Digits.j0])
  | succ kj1 =>
   have H := HA.out
   clear HA
   simp only [spec_l1Digits.j0] at H
   by_cases c6 : x0 = true
   ·subst c6
    rw [if_pos rfl] at H
    obtain ⟨c7, H⟩ := sqI H
    have c7b0 := eq_true c7
    have c7b1 : decide (1 ≤ (a0.size : Int)) = true := decide_eq_true c7
    clear c7
    obtain ⟨⟨t0, t1⟩, A8, H⟩ := sqD H
    try dsimp only at H
    by_cases c9 : t1 = true
    ·subst c9
     rw [if_pos rfl] at H
     obtain ⟨rfl, rfl⟩ := sqO2 H
     go_wp2_with (first | ((with_reducible refine sqc 100 rfl ?_); refine sqC (some 19) func100 #[.string (a0.extract 1 a0.size)] ?_; (with_reducible refine (ih kj1 Z21 (a0.extract 1 a0.size) t0 true _ A8.1).mono ?_); rintro e w' ⟨rfl, ⟨nd, rfl⟩⟩; refine ⟨_, rfl, ?_⟩))
     go_ret2
     exact ⟨Z1, Z15⟩
    obtain rfl := sqb c9
    rw [if_neg sqF] at H
    obtain ⟨rfl, rfl⟩ := sqO2 H
    go_wp2_with (first | ((with_reducible refine sqc 100 rfl ?_); refine sqC (some 19) func100 #[.string (a0.extract 1 a0.size)] ?_; (with_reducible refine (ih kj1 Z21 (a0.extract 1 a0.size) t0 false _ A8.1).mono ?_); rintro e w' ⟨rfl, ⟨nd, rfl⟩⟩; refine ⟨_, rfl, ?_⟩))
    go_ret2
    exact ⟨Z1, Z15⟩
   obtain rfl := sqb c6
   rw [if_neg sqF] at H
   have HC0 := sqa H
   clear H
   go_upto_region 4 with (fail)
   go_cut [42] (fun v1 wc => ∃ (kq : Nat) (x1 : Bool), v1 = .bool x1 ∧ Aside0 (spec_l1Digits.j1 kq a0 x1 = some (r1, r2)) ∧ Aside0 (kq ≤ kj1) ∧ Drawn0 w wc)
   case first =>
    have H := HC0.1
    clear HC0
    obtain ⟨t2, A0, H⟩ := sqD H
    by_cases c0 : t2 = true
    ·subst c0
     rw [if_pos rfl] at H
     by_cases c1 : (a0.size : Int) > 1
     ·rw [if_pos c1] at H
      have c2 : decide (1 < (a0.size : Int)) = true := decide_eq_true c1
      have c5 : decide (1 < a0.size) = true := decide_eq_true (by omega)
      clear c1
      (first | rw [c2] | (simp only [i64_w, i32_w]; rw [c2]) | skip)
      obtain ⟨c8, H⟩ := sqI H
      have c10 : decide (0 < (a0.size : Int)) = true := decide_eq_true c8
      have c11 : decide (0 < a0.size) = true := decide_eq_true (by omega)
      clear c8
      have H' := sqa H
      clear H
      go_wp2_with (first | ((with_reducible refine sqc 101 rfl ?_); refine sqC (some 31) func101 #[.int .i64 (a0.size : Int), .int .i64 1, .int .i64 7] ?_; (with_reducible refine (spec_l1In.calls (a0.size : Int) 1 7 true _ A0.1).mono ?_); rintro e w' ⟨rfl, ⟨nd, rfl⟩⟩; refine ⟨_, rfl, ?_⟩; have p0 : 0 ≤ (0 : Int) := (by omega); have q0 : 0 < a0.size := (by have : (0 : Int) < (a0.size : Int) := of_decide_eq_true Z16; omega); have hx0 : ∀ h : 0 < a0.size, ((a0[0]'h).toNat : Int) = bt a0 0 := bt_at a0 0; clear p0; have qi0 : (0 < (a0.size : Int)) = True := eq_true (of_decide_eq_true Z16); replace q0 := eq_true q0))
      go_meet
      case rel => exact ⟨_, (((bt a0 0) == 48)), Z1, H', ⟨Z26⟩, Z15⟩
     rw [if_neg c1] at H
     have c2 : decide (1 < (a0.size : Int)) = false := decide_eq_false c1
     have c5 : decide (1 < a0.size) = false := decide_eq_false (by omega)
     clear c1
     (first | rw [c2] | (simp only [i64_w, i32_w]; rw [c2]) | skip)
     have H' := sqa H
     clear H
     go_wp2_with (first | ((with_reducible refine sqc 101 rfl ?_); refine sqC (some 31) func101 #[.int .i64 (a0.size : Int), .int .i64 1, .int .i64 7] ?_; (with_reducible refine (spec_l1In.calls (a0.size : Int) 1 7 true _ A0.1).mono ?_); rintro e w' ⟨rfl, ⟨nd, rfl⟩⟩; refine ⟨_, rfl, ?_⟩))
     go_meet
     case rel => exact ⟨_, (false), Z1, H', ⟨Z26⟩, Z15⟩
    obtain rfl := sqb c0
    rw [if_neg sqF] at H
    have H' := sqa H
    clear H
    go_wp2_with (first | ((with_reducible refine sqc 101 rfl ?_); refine sqC (some 31) func101 #[.int .i64 (a0.size : Int), .int .i64 1, .int .i64 7] ?_; (with_reducible refine (spec_l1In.calls (a0.size : Int) 1 7 false _ A0.1).mono ?_); rintro e w' ⟨rfl, ⟨nd, rfl⟩⟩; refine ⟨_, rfl, ?_⟩))
    go_meet
    case rel => exact ⟨_, (true), Z1, H', ⟨Z26⟩, Z15⟩
   case rest =>
    clear HC0
    obtain ⟨kq, x1, rfl, HA, HJ9, ⟨mc9, rfl⟩⟩ := hcut
    cases kq with
    | zero => exact absurd HA.out (by simp [spec_l1Digits.j1])
    | succ kj9 =>
     have H := HA.out
     clear HA
     simp only [spec_l1Digits.j1] at H
     by_cases c16 : x1 = true
     ·subst c16
      rw [if_pos rfl] at H
      obtain ⟨rfl, rfl⟩ := sqO2 H
      go_wp2
      go_ret2
      exact ⟨Z1, Z15⟩
     obtain rfl := sqb c16
     rw [if_neg sqF] at H
     have H' := sqa H
     clear H
     go_wp2
     go_loopg [6, 7] kj9 (fun kq v6 v7 w' => ∃ (x6_3 : Int) (x7_3 : Int), v6 = .int .i64 x6_3 ∧ v7 = .int .i64 x7_3 ∧ Aside0 (spec_l1Digits.l0 kq a0 x6_3 x7_3 = some (r1, r2)) ∧ Aside0 (kq ≤ kj9) ∧ Drawn0 w w')
     case atStart => exact ⟨(0), (0), Z1, Z1, H', ⟨Nat.le_refl _⟩, Z15⟩
     case round =>
      clear H'
      obtain ⟨x6_3, x7_3, rfl, rfl, HA, HK3, ⟨m3, rfl⟩⟩ := hrel
      cases gk with
      | zero => exact absurd HA.out (by simp [spec_l1Digits.l0])
      | succ k3 =>
       have H := HA.out
       clear HA
       simp only [spec_l1Digits.l0] at H
       by_cases c17 : x7_3 < (a0.size : Int)
       ·rw [if_pos c17] at H
        have c21 : decide (x7_3 < (a0.size : Int)) = true := decide_eq_true c17
        clear c17
        obtain ⟨c18, H⟩ := sqI H
        have c24 : decide (0 ≤ x7_3) = true := decide_eq_true c18
        clear c18
        by_cases c20 : (bt a0 x7_3) < 48
        ·rw [if_pos c20] at H
         have c25 : decide ((bt a0 x7_3) < 48) = true := decide_eq_true c20
         clear c20
         obtain ⟨rfl, rfl⟩ := sqO2 H
         have p1 : 0 ≤ (x7_3 : Int) := of_decide_eq_true Z16
         have q1 : x7_3 < (a0.size : Int) := of_decide_eq_true Z16
         have hx1 := bt_at a0 x7_3
         replace p1 := eq_true p1
         replace q1 := eq_true q1
         go_wp2
         go_ret2
         exact ⟨Z1, Z15⟩
        rw [if_neg c20] at H
        have c25 : decide ((bt a0 x7_3) < 48) = false := decide_eq_false c20
        clear c20
        by_cases c22 : (bt a0 x7_3) > 57
        ·rw [if_pos c22] at H
         have c27 : decide (57 < (bt a0 x7_3)) = true := decide_eq_true c22
         clear c22
         obtain ⟨rfl, rfl⟩ := sqO2 H
         have p1 : 0 ≤ (x7_3 : Int) := of_decide_eq_true Z16
         have q1 : x7_3 < (a0.size : Int) := of_decide_eq_true Z16
         have hx1 := bt_at a0 x7_3
         replace p1 := eq_true p1
         replace q1 := eq_true q1
         have p2 : 0 ≤ (x7_3 : Int) := of_decide_eq_true Z16
         have q2 : x7_3 < (a0.size : Int) := of_decide_eq_true Z16
         have hx2 := bt_at a0 x7_3
         replace p2 := eq_true p2
         replace q2 := eq_true q2
         go_wp2
         go_ret2
         exact ⟨Z1, Z15⟩
        rw [if_neg c22] at H
        have c27 : decide (57 < (bt a0 x7_3)) = false := decide_eq_false c22
        clear c22
        have H' := sqa H
        clear H
        have p1 : 0 ≤ (x7_3 : Int) := of_decide_eq_true Z16
        have q1 : x7_3 < (a0.size : Int) := of_decide_eq_true Z16
        have hx1 := bt_at a0 x7_3
        replace p1 := eq_true p1
        replace q1 := eq_true q1
        have p2 : 0 ≤ (x7_3 : Int) := of_decide_eq_true Z16
        have q2 : x7_3 < (a0.size : Int) := of_decide_eq_true Z16
        have hx2 := bt_at a0 x7_3
        replace p2 := eq_true p2
        replace q2 := eq_true q2
        have p3 : 0 ≤ (x7_3 : Int) := of_decide_eq_true Z16
        have q3 : x7_3 < (a0.size : Int) := of_decide_eq_true Z16
        have hx3 := bt_at a0 x7_3
        replace p3 := eq_true p3
        replace q3 := eq_true q3
        go_wp2
        go_roundg k3
        case measure => have := HJ1.out; have := HJ9.out; have := HK3.out; omega
        case rel => exact ⟨(wrap64 ((wrap64 (10 * x6_3)) + (((bt a0 x7_3) - 48) % 256))), (wrap64 (x7_3 + 1)), Z1, Z1, H', ⟨by have := HJ1.out; have := HJ9.out; have := HK3.out; omega⟩, Z15⟩
       rw [if_neg c17] at H
       have c21 : decide (x7_3 < (a0.size : Int)) = false := decide_eq_false c17
       clear c17
       obtain ⟨rfl, rfl⟩ := sqO2 H
       go_wp2
       go_ret2
       exact ⟨Z1, Z15⟩

/-! ### spec_ReadFraction: function 107 -/
def spec_ReadFraction.f (k : Nat) (a0 : ByteArray) : Option (Int × Int × Bool) := (spec_l1Cut.f k a0 47).bind fun t0 => (if 0 < (t0.length : Int) then ((spec_l1Digits.f k (rdOf ByteArray.empty t0 0)).bind fun bt0 => (if (t0.length : Int) = 2 then (if 1 < (t0.length : Int) then ((spec_l1Digits.f k (rdOf ByteArray.empty t0 1)).bind fun bt1 => (if bt0.2 = true then (if bt1.2 = true then (if (t0.length : Int) > 2 then (some (0, 0, false)) else ((spec_FractionText.f k bt0.1 bt1.1).bind fun t1 => (if t1.toList = a0.toList then (some (bt0.1, bt1.1, true)) else (some (0, 0, false))))) else (some (0, 0, false))) else (some (0, 0, false)))) else (none)) else (if bt0.2 = true then (if (t0.length : Int) > 2 then (some (0, 0, false)) else ((spec_FractionText.f k bt0.1 1).bind fun t2 => (if t2.toList = a0.toList then (some (bt0.1, 1, true)) else (some (0, 0, false))))) else (some (0, 0, false))))) else (none))
theorem spec_ReadFraction.mono : ∀ a0 k, LeO (spec_ReadFraction.f k a0) (spec_ReadFraction.f (k + 1) a0) := by
 intro a0 k
 unfold spec_ReadFraction.f
 repeat' (with_reducible first | exact spec_FractionText.mono _ _ _ | exact spec_l1Cut.mono _ _ _ | exact spec_l1Digits.mono _ _ | exact LeO.refl _ | exact LeO.none _ | refine LeO.ite ?_ ?_ | refine LeO.bind ?_ fun _ => ?_)
theorem spec_ReadFraction.calls (k : Nat) (a0 : ByteArray) (r1 : Int) (r2 : Int) (r3 : Bool) (w : World) (H : spec_ReadFraction.f k a0 = some (r1, r2, r3)) :
  Calls prog 107 #[.string a0] w fun e w' => e = .returned (.tuple #[.agg #[.int .i64 r1, .int .i64 r2], .bool r3]) ∧ Below w.heap.size w w' := by
 have hu31 := underlying31
 have HB := sqh w
 unfold spec_ReadFraction.f at H
 obtain ⟨t0, A2, H⟩ := sqD H
 obtain ⟨c3, H⟩ := sqI H
 have c3b0 : decide (0 < (t0.length : Int)) = true := decide_eq_true c3
 have c3b1 : decide (0 < t0.length) = true := decide_eq_true (by omega)
 clear c3
 obtain ⟨⟨t462, t1⟩, A4, H⟩ := sqD H
 try dsimp only at H
 go_enter func107, ntmps107
 go_upto_if 22 with (first | ((with_reducible refine sqd 2 rfl ?_); (try (refine gate_guard (by rfl) ?_; dsimp only)); refine sqBx w (sqB HB) (cs := #[.int .i64 0, .int .i64 0]) (t := 31) ?_; intro g0 hg w0 B0 E0 HB hb; clear hb hg) | ((with_reducible refine sqc 99 rfl ?_); refine sqC (some 12) func99 #[.string a0, .int .u8 47] ?_; (with_reducible refine (spec_l1Cut.calls k a0 47 t0 _ A2.1).mono ?_); rintro e w1 ⟨v0, rfl, ho0, hb⟩; refine ⟨_, rfl, ?_⟩; have O0 := sqL ho0 (sqB1 HB E0); replace B0 := sqT B0 hb; replace HB := sqS (sqB1 HB E0) hb; (try clear ho0); obtain ⟨Ao0, co0, eo0⟩ := Kd.R_slice O0.1; subst eo0; have p0 : 0 ≤ (0 : Int) := (by omega); have q0 : 0 < (t0.length : Int) := of_decide_eq_true Z16; obtain ⟨ad0, e0, hx0⟩ := Kd.at_string (Kd.R_reads' O0.1).2.2 0 p0 q0; cases e0; have qi0 : (0 < t0.length) = True := eq_true (by omega); (try rw [show ((0 : Int)).toNat = 0 from rfl] at hx0); (try rw [Addr.add_zero'] at hx0); replace p0 := eq_true p0; replace q0 := eq_true q0) | ((with_reducible refine sqc 100 rfl ?_); refine sqC (some 17) func100 #[.string (rdOf ByteArray.empty t0 0)] ?_; (with_reducible refine (spec_l1Digits.calls k (rdOf ByteArray.empty t0 0) t462 t1 _ A4.1).mono ?_); rintro e w' ⟨rfl, ⟨nd, rfl⟩⟩; refine ⟨_, rfl, ?_⟩; (try (rw [drewN_self w1]; generalize hq_ : World.drewN w1 _ = w1; have n0_ : Aside0 (Kd.R Kd.string 9 w1 w.heap.size (fun _ => True) (.slice (some ad0) t0.length co0) t0) := ⟨Z27 O0⟩; have n1_ : Aside0 (w1.heap[g0]? = some (.cells #[.int .i64 0, .int .i64 0] 31 (0, 0))) := ⟨Z28 B0⟩; have n2_ : Aside0 (Below w.heap.size w w1) := ⟨Z29 E0⟩; clear O0 B0 HB hq_; have O0 := n0_; have B0 := n1_; have HB := n2_; clear n0_ n1_ n2_))))
 by_cases c5 : (t0.length : Int) = 2
 ·rw [if_pos c5] at H
  have c5b0 : ((t0.length : Int) == 2) = true := sqe1 c5
  have c5b1 : ((t0.length : Int) != 2) = false := sqn0 c5
  (first | rw [c5b0] | rw [c5b1] | simp only [i64_w, i32_w, c5b0, c5b1] | skip)
  clear c5
  obtain ⟨c6, H⟩ := sqI H
  have c6b0 : decide (1 < (t0.length : Int)) = true := decide_eq_true c6
  have c6b1 : decide (1 < t0.length) = true := decide_eq_true (by omega)
  clear c6
  obtain ⟨⟨t2, t3⟩, A7, H⟩ := sqD H
  try dsimp only at H
  have p1 : 0 ≤ (1 : Int) := (by omega); have q1 : 1 < (t0.length : Int) := of_decide_eq_true Z16; obtain ⟨ad1, e1, hx1⟩ := Kd.at_string (Kd.R_reads' O0.1).2.2 1 p1 q1; obtain rfl : ad0 = ad1 := (by injection e1); (try simp only [show (1 : Int).toNat = 1 from rfl, Nat.reduceMul, Nat.reduceEqDiff, Go.Addr.add, ↓reduceIte] at hx1); have qi1 : (1 < t0.length) = True := eq_true (by omega); (try rw [show ((1 : Int)).toNat = 1 from rfl] at hx1); replace p1 := eq_true p1; replace q1 := eq_true q1
  go_upto_region 6 with (first | ((with_reducible refine sqc 100 rfl ?_); refine sqC (some 27) func100 #[.string (rdOf ByteArray.empty t0 1)] ?_; (with_reducible refine (spec_l1Digits.calls k (rdOf ByteArray.empty t0 1) t2 t3 _ A7.1).mono ?_); rintro e w' ⟨rfl, ⟨nd, rfl⟩⟩; refine ⟨_, rfl, ?_⟩; (try (rw [drewN_self w1]; generalize hq_ : World.drewN w1 _ = w1; have n0_ : Aside0 (Kd.R Kd.string 9 w1 w.heap.size (fun _ => True) (.slice (some ad0) t0.length co0) t0) := ⟨Z27 O0⟩; have n1_ : Aside0 (w1.heap[g0]? = some (.cells #[.int .i64 0, .int .i64 0] 31 (0, 0))) := ⟨Z28 B0⟩; have n2_ : Aside0 (Below w.heap.size w w1) := ⟨Z29 E0⟩; clear O0 B0 HB hq_; have O0 := n0_; have B0 := n1_; have HB := n2_; clear n0_ n1_ n2_))))
  by_cases c8 : t1 = true
  ·subst c8
   rw [if_pos rfl] at H
   by_cases c9 : t3 = true
   ·subst c9
    rw [if_pos rfl] at H
    by_cases c10 : (t0.length : Int) > 2
    ·rw [if_pos c10] at H
     have c0 : decide (2 < (t0.length : Int)) = true := decide_eq_true c10
     have c1 : decide (2 < t0.length) = true := decide_eq_true (by omega)
     clear c10
     obtain ⟨rfl, rfl, rfl⟩ := sqO3 H
     go_wp2_with (first | ((with_reducible refine sqd 10 rfl ?_); (try (refine gate_guard (by rfl) ?_; dsimp only)); refine sqBx w (sqB1 HB E0) (cs := #[.int .i64 0, .int .i64 0]) (t := 31) ?_; intro g1 hg w2 B2 E1 HB hb; replace O0 := sqU O0 hb; obtain ⟨N0, N1⟩ := sqM hg B0; replace B0 := sqT B0 hb; clear hb hg; have := N1.1; have := N0.1; obtain ⟨_, _, _, _⟩ := sqY2 B2; obtain ⟨_, _, _, _⟩ := sqY2 B0))
     refine sqE g0 31 #[.int .i64 0, .int .i64 0] (Z30 N0 B0) underlying31 ?_
     exact ⟨Z5, sqB2 HB E0 E1⟩
    rw [if_neg c10] at H
    have c0 : decide (2 < (t0.length : Int)) = false := decide_eq_false c10
    have c1 : decide (2 < t0.length) = false := decide_eq_false (by omega)
    clear c10
    obtain ⟨t4, A0, H⟩ := sqD H
    by_cases c2 : t4.toList = a0.toList
    ·rw [if_pos c2] at H
     have c4 := sqe1 c2
     have c7 := sqn0 c2
     clear c2
     obtain ⟨rfl, rfl, rfl⟩ := sqO3 H
     go_wp2_with (first | ((with_reducible refine sqd 10 rfl ?_); (try (refine gate_guard (by rfl) ?_; dsimp only)); refine sqBx w (sqB1 HB E0) (cs := #[.int .i64 0, .int .i64 0]) (t := 31) ?_; intro g1 hg w3 B2 E1 HB hb; replace O0 := sqU O0 hb; obtain ⟨N0, N1⟩ := sqM hg B0; replace B0 := sqT B0 hb; clear hb hg; have := N1.1; have := N0.1; obtain ⟨_, _, _, _⟩ := sqY2 B2) | (go_at_call 89; (with_reducible refine (spec_FractionText.calls k t462 t2 t4 _ A0.1).mono ?_); rintro e w4 ⟨rfl, hb⟩; replace O0 := sqa (Kd.R_below (Z31 O0 B2) hb); replace B0 := sqH N0 B0 hb; replace B2 := sqa (blk_below (g := g1) (o := .cells #[.int .i64 t462, .int .i64 t2] 31 (0, 0)) (Z32 B2) hb); replace HB := sqS (sqB2 HB E0 E1) hb; obtain ⟨_, _, _, _⟩ := sqY2 B2; obtain ⟨_, _, _, _⟩ := sqY2 B0))
     refine sqE g0 31 #[.int .i64 t462, .int .i64 t2] (Z32 B0) underlying31 ?_
     exact ⟨Z5, sqB2 HB E0 E1⟩
    rw [if_neg c2] at H
    have c4 := sqe0 c2
    have c7 := sqn1 c2
    obtain ⟨rfl, rfl, rfl⟩ := sqO3 H
    go_wp2_with (first | ((with_reducible refine sqd 10 rfl ?_); (try (refine gate_guard (by rfl) ?_; dsimp only)); refine sqBx w (sqB1 HB E0) (cs := #[.int .i64 0, .int .i64 0]) (t := 31) ?_; intro g1 hg w5 B2 E1 HB hb; replace O0 := sqU O0 hb; obtain ⟨N0, N1⟩ := sqM hg B0; replace B0 := sqT B0 hb; clear hb hg; have := N1.1; have := N0.1; obtain ⟨_, _, _, _⟩ := sqY2 B2) | (go_at_call 89; (with_reducible refine (spec_FractionText.calls k t462 t2 t4 _ A0.1).mono ?_); rintro e w6 ⟨rfl, hb⟩; replace O0 := sqa (Kd.R_below (Z31 O0 B2) hb); replace B0 := sqH N0 B0 hb; replace B2 := sqa (blk_below (g := g1) (o := .cells #[.int .i64 t462, .int .i64 t2] 31 (0, 0)) (Z32 B2) hb); replace HB := sqS (sqB2 HB E0 E1) hb; obtain ⟨_, _, _, _⟩ := sqY2 B0))
    refine sqE g0 31 #[.int .i64 0, .int .i64 0] (Z12 B0) underlying31 ?_
    exact ⟨Z5, sqB2 HB E0 E1⟩
   obtain rfl := sqb c9
   rw [if_neg sqF] at H
   obtain ⟨rfl, rfl, rfl⟩ := sqO3 H
   go_wp2_with (first | ((with_reducible refine sqd 10 rfl ?_); (try (refine gate_guard (by rfl) ?_; dsimp only)); refine sqBx w (sqB1 HB E0) (cs := #[.int .i64 0, .int .i64 0]) (t := 31) ?_; intro g1 hg w7 B2 E1 HB hb; replace O0 := sqU O0 hb; obtain ⟨N0, N1⟩ := sqM hg B0; replace B0 := sqT B0 hb; clear hb hg; have := N1.1; have := N0.1; obtain ⟨_, _, _, _⟩ := sqY2 B2; obtain ⟨_, _, _, _⟩ := sqY2 B0))
   refine sqE g0 31 #[.int .i64 0, .int .i64 0] (Z30 N0 B0) underlying31 ?_
   exact ⟨Z5, sqB2 HB E0 E1⟩
  obtain rfl := sqb c8
  rw [if_neg sqF] at H
  obtain ⟨rfl, rfl, rfl⟩ := sqO3 H
  go_wp2_with (first | ((with_reducible refine sqd 10 rfl ?_); (try (refine gate_guard (by rfl) ?_; dsimp only)); refine sqBx w (sqB1 HB E0) (cs := #[.int .i64 0, .int .i64 0]) (t := 31) ?_; intro g2 hg w8 B8 E2 HB hb; replace O0 := sqU O0 hb; obtain ⟨N2, N3⟩ := sqM hg B0; replace B0 := sqT B0 hb; clear hb hg; have := N3.1; have := N2.1; obtain ⟨_, _, _, _⟩ := sqY2 B8; obtain ⟨_, _, _, _⟩ := sqY2 B0))
  refine sqE g0 31 #[.int .i64 0, .int .i64 0] (Z30 N2 B0) underlying31 ?_
  exact ⟨Z5, sqB2 HB E0 E2⟩
 rw [if_neg c5] at H
 have c5b0 : ((t0.length : Int) == 2) = false := sqe0 c5
 have c5b1 : ((t0.length : Int) != 2) = true := sqn1 c5
 (first | rw [c5b0] | rw [c5b1] | simp only [i64_w, i32_w, c5b0, c5b1] | skip)
 go_upto_region 9 with (first | ((with_reducible refine sqd 10 rfl ?_); (try (refine gate_guard (by rfl) ?_; dsimp only)); refine sqBx w (sqB1 HB E0) (cs := #[.int .i64 0, .int .i64 0]) (t := 31) ?_; intro g3 hg w9 B9 E3 HB hb; replace O0 := sqU O0 hb; obtain ⟨N4, N5⟩ := sqM hg B0; replace B0 := sqT B0 hb; clear hb hg; have := N5.1; have := N4.1; obtain ⟨_, _, _, _⟩ := sqY2 B9; obtain ⟨_, _, _, _⟩ := sqY2 B0))
 by_cases c51 : t1 = true
 ·subst c51
  rw [if_pos rfl] at H
  by_cases c52 : (t0.length : Int) > 2
  ·rw [if_pos c52] at H
   have c12 : decide (2 < (t0.length : Int)) = true := decide_eq_true c52
   have c13 : decide (2 < t0.length) = true := decide_eq_true (by omega)
   clear c52
   obtain ⟨rfl, rfl, rfl⟩ := sqO3 H
   go_wp2_with fail
   refine sqE g0 31 #[.int .i64 0, .int .i64 0] (Z30 N4 B0) underlying31 ?_
   exact ⟨Z5, sqB2 HB E0 E3⟩
  rw [if_neg c52] at H
  have c12 : decide (2 < (t0.length : Int)) = false := decide_eq_false c52
  have c13 : decide (2 < t0.length) = false := decide_eq_false (by omega)
  clear c52
  obtain ⟨t5, A1, H⟩ := sqD H
  by_cases c61 : t5.toList = a0.toList
  ·rw [if_pos c61] at H
   have c15 := sqe1 c61
   have c16 := sqn0 c61
   clear c61
   obtain ⟨rfl, rfl, rfl⟩ := sqO3 H
   go_wp2_with (first | (go_at_call 89; (with_reducible refine (spec_FractionText.calls k t462 1 t5 _ A1.1).mono ?_); rintro e w68 ⟨rfl, hb⟩; replace O0 := sqa (Kd.R_below (Z33 O0 B9) hb); replace B0 := sqH N4 B0 hb; replace B9 := sqa (blk_below (g := g3) (o := .cells #[.int .i64 t462, .int .i64 1] 31 (0, 0)) (Z32 B9) hb); replace HB := sqS (sqB2 HB E0 E3) hb; obtain ⟨_, _, _, _⟩ := sqY2 B9; obtain ⟨_, _, _, _⟩ := sqY2 B0))
   refine sqE g0 31 #[.int .i64 t462, .int .i64 1] (Z32 B0) underlying31 ?_
   exact ⟨Z5, sqB2 HB E0 E3⟩
  rw [if_neg c61] at H
  have c15 := sqe0 c61
  have c16 := sqn1 c61
  obtain ⟨rfl, rfl, rfl⟩ := sqO3 H
  go_wp2_with (first | (go_at_call 89; (with_reducible refine (spec_FractionText.calls k t462 1 t5 _ A1.1).mono ?_); rintro e w77 ⟨rfl, hb⟩; replace O0 := sqa (Kd.R_below (Z33 O0 B9) hb); replace B0 := sqH N4 B0 hb; replace B9 := sqa (blk_below (g := g3) (o := .cells #[.int .i64 t462, .int .i64 1] 31 (0, 0)) (Z32 B9) hb); replace HB := sqS (sqB2 HB E0 E3) hb; obtain ⟨_, _, _, _⟩ := sqY2 B0))
  refine sqE g0 31 #[.int .i64 0, .int .i64 0] (Z12 B0) underlying31 ?_
  exact ⟨Z5, sqB2 HB E0 E3⟩
 obtain rfl := sqb c51
 rw [if_neg sqF] at H
 obtain ⟨rfl, rfl, rfl⟩ := sqO3 H
 go_wp2_with fail
 refine sqE g0 31 #[.int .i64 0, .int .i64 0] (Z30 N4 B0) underlying31 ?_
 exact ⟨Z5, sqB2 HB E0 E3⟩

/-! ### spec_MirrorOf: function 108 -/
def spec_MirrorOf.f (k : Nat) (a0_0 : Int) (a0_1 : Int) : Option (Int × Int) := (spec_FractionOk.f k a0_0 a0_1).bind fun t0 => (if t0 = true then ((spec_LowestOf.f k (wrap64 (-a0_0)) a0_1).bind fun bt0 => (some (bt0.1, bt0.2.1))) else (some (0, 0)))
theorem spec_MirrorOf.mono : ∀ a0 a1 k, LeO (spec_MirrorOf.f k a0 a1) (spec_MirrorOf.f (k + 1) a0 a1) := by
 intro a0 a1 k
 unfold spec_MirrorOf.f
 repeat' (with_reducible first | exact spec_FractionOk.mono _ _ _ | exact spec_LowestOf.mono _ _ _ | exact LeO.refl _ | exact LeO.none _ | refine LeO.ite ?_ ?_ | refine LeO.bind ?_ fun _ => ?_)
theorem spec_MirrorOf.calls (k : Nat) (a0_0 : Int) (a0_1 : Int) (r1 : Int) (r2 : Int) (w : World) (H : spec_MirrorOf.f k a0_0 a0_1 = some (r1, r2)) :
  Calls prog 108 #[.agg #[.int .i64 a0_0, .int .i64 a0_1]] w fun e w' => e = .returned (.agg #[.int .i64 r1, .int .i64 r2]) ∧ Below w.heap.size w w' := by
 have hu31 := underlying31
 have HB := sqh w
 unfold spec_MirrorOf.f at H
 obtain ⟨t0, A2, H⟩ := sqD H
 by_cases c3 : t0 = true
 ·subst c3
  rw [if_pos rfl] at H
  obtain ⟨⟨t1, t2, t3⟩, A4, H⟩ := sqD H
  try dsimp only at H
  obtain ⟨rfl, rfl⟩ := sqO2 H
  go_enter func108, ntmps108
  go_wp2_with (first | ((with_reducible refine sqd 1 rfl ?_); refine sqBx w (sqB HB) (cs := #[.int .i64 a0_0, .int .i64 a0_1]) (t := 31) ?_; intro g0 hg w5 B0 E0 HB hb; clear hb hg) | ((with_reducible refine sqd 2 rfl ?_); refine sqBx w (sqB1 HB E0) (cs := #[.int .i64 0, .int .i64 0]) (t := 31) ?_; intro g1 hg w6 B2 E1 HB hb; obtain ⟨N0, N1⟩ := sqM hg B0; replace B0 := sqT B0 hb; clear hb hg; have := N0.1; have := N1.1; obtain ⟨_, _, _, _⟩ := sqY2 B0) | ((with_reducible refine sqc 77 rfl ?_); refine sqC (some 6) func77 #[.agg #[.int .i64 a0_0, .int .i64 a0_1]] ?_; (with_reducible refine (spec_FractionOk.calls k a0_0 a0_1 true _ A2.1).mono ?_); refine sqV fun w9 hb => ?_; replace B0 := sqT B0 hb; replace B2 := sqT B2 hb; replace HB := sqS (sqB2 HB E0 E1) hb; obtain ⟨_, _, _, _⟩ := sqY2 B0) | ((with_reducible refine sqc 136 rfl ?_); refine sqC (some 15) func136 #[.int .i64 (wrap64 (-a0_0)), .int .i64 a0_1] ?_; (with_reducible refine (spec_LowestOf.calls k (wrap64 (-a0_0)) a0_1 t1 t2 t3 _ A4.1).mono ?_); refine sqV fun w0 hb => ?_; replace B0 := sqT B0 hb; replace B2 := sqT B2 hb; replace HB := sqS (sqB2 HB E0 E1) hb) | ((with_reducible refine sqd 3 rfl ?_); refine sqBx w (sqB2 HB E0 E1) (cs := #[.int .i64 0, .int .i64 0]) (t := 31) ?_; intro g2 hg w1 B8 E2 HB hb; obtain ⟨N2, N3⟩ := sqM hg B0; replace B0 := sqT B0 hb; obtain ⟨N4, N5⟩ := sqM hg B2; replace B2 := sqT B2 hb; clear hb hg; have := N3.1; have := N2.1; have := N5.1; have := N4.1; obtain ⟨_, _, _, _⟩ := sqY2 B8; obtain ⟨_, _, _, _⟩ := sqY2 B2))
  refine sqEr g1 31 #[.int .i64 t1, .int .i64 t2] (by refine sqPut (cs := #[.int .i64 t1, .int .i64 0]) ?_ 1; refine sqPut (cs := #[.int .i64 0, .int .i64 0]) ?_ 0; refine sqFar ?_ N4; refine sqFar ?_ N4; exact sqK B2) underlying31 ?_
  exact ⟨Z5, sqB3 HB E0 E1 E2⟩
 obtain rfl := sqb c3
 rw [if_neg sqF] at H
 obtain ⟨rfl, rfl⟩ := sqO2 H
 go_enter func108, ntmps108
 go_wp2_with (first | ((with_reducible refine sqd 1 rfl ?_); refine sqBx w (sqB HB) (cs := #[.int .i64 a0_0, .int .i64 a0_1]) (t := 31) ?_; intro g0 hg w2 B0 E0 HB hb; clear hb hg) | ((with_reducible refine sqd 2 rfl ?_); refine sqBx w (sqB1 HB E0) (cs := #[.int .i64 0, .int .i64 0]) (t := 31) ?_; intro g1 hg w3 B2 E1 HB hb; obtain ⟨N0, N1⟩ := sqM hg B0; replace B0 := sqT B0 hb; clear hb hg; have := N0.1; have := N1.1; obtain ⟨_, _, _, _⟩ := sqY2 B0) | ((with_reducible refine sqc 77 rfl ?_); refine sqC (some 6) func77 #[.agg #[.int .i64 a0_0, .int .i64 a0_1]] ?_; (with_reducible refine (spec_FractionOk.calls k a0_0 a0_1 false _ A2.1).mono ?_); refine sqV fun w4 hb => ?_; replace B0 := sqT B0 hb; replace B2 := sqT B2 hb; replace HB := sqS (sqB2 HB E0 E1) hb; obtain ⟨_, _, _, _⟩ := sqY2 B2))
 refine sqEr g1 31 #[.int .i64 0, .int .i64 0] (Z12 B2) underlying31 ?_
 exact ⟨Z5, sqB2 HB E0 E1⟩

/-! ### spec_l11Made: function 57 -/
def spec_l11Made.f (k : Nat) (a0_0 : Int) (a0_1 : Int) (a1_0 : Int) (a1_1 : ByteArray) : Option (Int × Int × Bool) := if a1_0 = 0 then ((spec_DancedFrom.f k a0_0 a0_1 a1_1).bind fun bt0 => (some (bt0.1, bt0.2.1, bt0.2.2))) else (if a1_0 = 1 then ((spec_ReadFraction.f k a1_1).bind fun bt1 => (some (bt1.1, bt1.2.1, bt1.2.2))) else (if (a1_0 == 2 && (a1_1.toList == ([] : List UInt8))) = true then ((spec_MirrorOf.f k a0_0 a0_1).bind fun bt2 => (some (bt2.1, bt2.2, true))) else (if (a1_0 == 3 && (a1_1.toList == ([] : List UInt8))) = true then ((spec_UntiedOf.f k a0_0 a0_1).bind fun bt3 => (some (0, 1, bt3.2))) else (some (a0_0, a0_1, false)))))
theorem spec_l11Made.mono : ∀ a0 a1 a2 a3 k, LeO (spec_l11Made.f k a0 a1 a2 a3) (spec_l11Made.f (k + 1) a0 a1 a2 a3) := by
 intro a0 a1 a2 a3 k
 unfold spec_l11Made.f
 repeat' (with_reducible first | exact spec_DancedFrom.mono _ _ _ _ | exact spec_MirrorOf.mono _ _ _ | exact spec_ReadFraction.mono _ _ | exact spec_UntiedOf.mono _ _ _ | exact LeO.refl _ | exact LeO.none _ | refine LeO.ite ?_ ?_ | refine LeO.bind ?_ fun _ => ?_)
theorem spec_l11Made.calls (k : Nat) (a0_0 : Int) (a0_1 : Int) (a1_0 : Int) (a1_1 : ByteArray) (r1 : Int) (r2 : Int) (r3 : Bool) (w : World) (H : spec_l11Made.f k a0_0 a0_1 a1_0 a1_1 = some (r1, r2, r3)) :
  Calls prog 57 #[.agg #[.int .i64 a0_0, .int .i64 a0_1], .agg #[.int .i64 a1_0, .string a1_1]] w fun e w' => e = .returned (.tuple #[.agg #[.int .i64 r1, .int .i64 r2], .bool r3]) ∧ Below w.heap.size w w' := by
 have hu31 := underlying31
 have hu38 := underlying38
 have HB := sqh w
 unfold spec_l11Made.f at H
 go_enter func57, ntmps57
 go_upto_if 8 with (first | ((with_reducible refine sqd 2 rfl ?_); refine sqBx w (sqB HB) (cs := #[.int .i64 a0_0, .int .i64 a0_1]) (t := 31) ?_; intro g0 hg w5 B0 E0 HB hb; clear hb hg) | ((with_reducible refine sqd 3 rfl ?_); refine sqBx w (sqB1 HB E0) (cs := #[.int .i64 a1_0, .string a1_1]) (t := 38) ?_; intro g1 hg w6 B2 E1 HB hb; obtain ⟨N0, N1⟩ := sqM hg B0; replace B0 := sqT B0 hb; clear hb hg) | ((with_reducible refine sqd 4 rfl ?_); refine sqBx w (sqB2 HB E0 E1) (cs := #[.int .i64 0, .int .i64 0]) (t := 31) ?_; intro g2 hg w7 B8 E2 HB hb; obtain ⟨N2, N3⟩ := sqM hg B0; replace B0 := sqT B0 hb; obtain ⟨N4, N5⟩ := sqM hg B2; replace B2 := sqT B2 hb; clear hb hg; have := N1.1; have := N0.1; have := N4.1; have := N5.1; obtain ⟨_, _, _, _⟩ := sqY2 B2; have := N2.1; have := N3.1; obtain ⟨_, _, _, _⟩ := sqY2 B0; obtain ⟨_, _, _, _⟩ := sqY2 B8))
 by_cases c3 : a1_0 = 0
 ·rw [if_pos c3] at H
  have c3b0 : (a1_0 == 0) = true := sqe1 c3
  have c3b1 : (a1_0 != 0) = false := sqn0 c3
  (first | rw [c3b0] | rw [c3b1] | simp only [i64_w, i32_w, c3b0, c3b1] | skip)
  clear c3
  obtain ⟨⟨t0, t1, t2⟩, A4, H⟩ := sqD H
  try dsimp only at H
  obtain ⟨rfl, rfl, rfl⟩ := sqO3 H
  go_wp2_with (first | ((with_reducible refine sqc 106 rfl ?_); refine sqC (some 15) func106 #[.agg #[.int .i64 a0_0, .int .i64 a0_1], .string a1_1] ?_; (with_reducible refine (spec_DancedFrom.calls k a0_0 a0_1 a1_1 t0 t1 t2 _ A4.1).mono ?_); refine sqV fun w0 hb => ?_; replace B0 := sqT B0 hb; replace B2 := sqT B2 hb; replace B8 := sqT B8 hb; replace HB := sqS (sqB3 HB E0 E1 E2) hb; obtain ⟨_, _, _, _⟩ := sqY2 B8))
  refine sqE g2 31 #[.int .i64 t0, .int .i64 t1] (by refine sqPut (cs := #[.int .i64 t0, .int .i64 0]) ?_ 1; refine sqPut (cs := #[.int .i64 0, .int .i64 0]) ?_ 0; exact sqK B8) underlying31 ?_
  exact ⟨Z5, sqB3 HB E0 E1 E2⟩
 rw [if_neg c3] at H
 have c3b0 : (a1_0 == 0) = false := sqe0 c3
 have c3b1 : (a1_0 != 0) = true := sqn1 c3
 (first | rw [c3b0] | rw [c3b1] | simp only [i64_w, i32_w, c3b0, c3b1] | skip)
 go_upto_if 18 with fail
 by_cases c0 : a1_0 = 1
 ·rw [if_pos c0] at H
  have c1 := sqe1 c0
  have c2 := sqn0 c0
  (first | rw [c1] | rw [c2] | simp only [i64_w, i32_w, c1, c2] | skip)
  clear c0
  obtain ⟨⟨t3, t4, t5⟩, A0, H⟩ := sqD H
  try dsimp only at H
  obtain ⟨rfl, rfl, rfl⟩ := sqO3 H
  go_wp2_with (first | ((with_reducible refine sqc 107 rfl ?_); refine sqC (some 24) func107 #[.string a1_1] ?_; (with_reducible refine (spec_ReadFraction.calls k a1_1 t3 t4 t5 _ A0.1).mono ?_); refine sqV fun w1 hb => ?_; replace B0 := sqT B0 hb; replace B2 := sqT B2 hb; replace B8 := sqT B8 hb; replace HB := sqS (sqB3 HB E0 E1 E2) hb; have := N3.1; have := N2.1; obtain ⟨_, _, _, _⟩ := sqY2 B8))
  refine sqE g2 31 #[.int .i64 t3, .int .i64 t4] (by refine sqPut (cs := #[.int .i64 t3, .int .i64 0]) ?_ 1; refine sqPut (cs := #[.int .i64 0, .int .i64 0]) ?_ 0; exact sqK B8) underlying31 ?_
  exact ⟨Z5, sqB3 HB E0 E1 E2⟩
 rw [if_neg c0] at H
 have c1 := sqe0 c0
 have c2 := sqn1 c0
 (first | rw [c1] | rw [c2] | simp only [i64_w, i32_w, c1, c2] | skip)
 go_upto_if 27 with fail
 by_cases c4 : (a1_0 == 2 && (a1_1.toList == ([] : List UInt8))) = true
 ·rw [if_pos c4] at H
  have c5 : (a1_0 == 2 && (a1_1.toList == ([] : List UInt8))) = true := c4
  try have c6 : (a1_0 == 2 && a1_1.toList.isEmpty) = true := by (have h_ := c5; (repeat rw [sqy] at h_); exact h_)
  (try (have c7 : decide (a1_0 = 2 && (a1_1.toList == ([] : List UInt8))) = true := by simpa using c4))
  (try (have c8 : (a1_0 == 2 && (a1_1.toList == ([] : List UInt8))) = true := by simpa using c4))
  (first | rw [c5] | rw [c7] | rw [c8] | rw [c6] | simp only [i64_w, i32_w, c5, c7] | skip)
  clear c4
  obtain ⟨⟨t6, t7⟩, A1, H⟩ := sqD H
  try dsimp only at H
  obtain ⟨rfl, rfl, rfl⟩ := sqO3 H
  go_wp2_with (first | ((with_reducible refine sqc 108 rfl ?_); refine sqC (some 32) func108 #[.agg #[.int .i64 a0_0, .int .i64 a0_1]] ?_; (with_reducible refine (spec_MirrorOf.calls k a0_0 a0_1 t6 t7 _ A1.1).mono ?_); refine sqV fun w2 hb => ?_; replace B0 := sqT B0 hb; replace B2 := sqT B2 hb; replace B8 := sqT B8 hb; replace HB := sqS (sqB3 HB E0 E1 E2) hb; obtain ⟨_, _, _, _⟩ := sqY2 B8))
  refine sqE g2 31 #[.int .i64 t6, .int .i64 t7] (by refine sqPut (cs := #[.int .i64 t6, .int .i64 0]) ?_ 1; refine sqPut (cs := #[.int .i64 0, .int .i64 0]) ?_ 0; exact sqK B8) underlying31 ?_
  exact ⟨Z5, sqB3 HB E0 E1 E2⟩
 rw [if_neg c4] at H
 have c5 : (a1_0 == 2 && (a1_1.toList == ([] : List UInt8))) = false := by simpa using c4
 try have c6 : (a1_0 == 2 && a1_1.toList.isEmpty) = false := by (have h_ := c5; (repeat rw [sqy] at h_); exact h_)
 (try (have c7 : decide (a1_0 = 2 && (a1_1.toList == ([] : List UInt8))) = false := by simpa using c4))
 (try (have c8 : (a1_0 == 2 && (a1_1.toList == ([] : List UInt8))) = false := by simpa using c4))
 (try (have c9 : ¬ (a1_0 = 2 && (a1_1.toList == ([] : List UInt8))) := by simpa using c4))
 (first | rw [c5] | rw [c7] | rw [c8] | rw [c9] | rw [c6] | simp only [i64_w, i32_w, c5, c7] | skip)
 clear c4
 go_upto_if 33 with fail
 by_cases c38 : (a1_0 == 3 && (a1_1.toList == ([] : List UInt8))) = true
 ·rw [if_pos c38] at H
  have c11 : (a1_0 == 3 && (a1_1.toList == ([] : List UInt8))) = true := c38
  try have c12 : (a1_0 == 3 && a1_1.toList.isEmpty) = true := by (have h_ := c11; (repeat rw [sqy] at h_); exact h_)
  (try (have c13 : decide (a1_0 = 3 && (a1_1.toList == ([] : List UInt8))) = true := by simpa using c38))
  (try (have c14 : (a1_0 == 3 && (a1_1.toList == ([] : List UInt8))) = true := by simpa using c38))
  (first | rw [c11] | rw [c13] | rw [c14] | rw [c12] | simp only [i64_w, i32_w, c11, c13] | skip)
  clear c38
  obtain ⟨⟨t8, t9⟩, A2, H⟩ := sqD H
  try dsimp only at H
  obtain ⟨rfl, rfl, rfl⟩ := sqO3 H
  go_wp2_with (first | ((with_reducible refine sqc 90 rfl ?_); refine sqC (some 39) func90 #[.agg #[.int .i64 a0_0, .int .i64 a0_1]] ?_; (with_reducible refine (spec_UntiedOf.calls k a0_0 a0_1 t8 t9 _ A2.1).mono ?_); refine sqV fun w3 hb => ?_; replace B0 := sqT B0 hb; replace B2 := sqT B2 hb; replace B8 := sqT B8 hb; replace HB := sqS (sqB3 HB E0 E1 E2) hb; obtain ⟨_, _, _, _⟩ := sqY2 B8))
  refine sqE g2 31 #[.int .i64 0, .int .i64 1] (Z12 B8) underlying31 ?_
  exact ⟨Z5, sqB3 HB E0 E1 E2⟩
 rw [if_neg c38] at H
 have c11 : (a1_0 == 3 && (a1_1.toList == ([] : List UInt8))) = false := by simpa using c38
 try have c12 : (a1_0 == 3 && a1_1.toList.isEmpty) = false := by (have h_ := c11; (repeat rw [sqy] at h_); exact h_)
 (try (have c13 : decide (a1_0 = 3 && (a1_1.toList == ([] : List UInt8))) = false := by simpa using c38))
 (try (have c14 : (a1_0 == 3 && (a1_1.toList == ([] : List UInt8))) = false := by simpa using c38))
 (try (have c16 : ¬ (a1_0 = 3 && (a1_1.toList == ([] : List UInt8))) := by simpa using c38))
 (first | rw [c11] | rw [c13] | rw [c14] | rw [c16] | rw [c12] | simp only [i64_w, i32_w, c11, c13] | skip)
 clear c38
 obtain ⟨rfl, rfl, rfl⟩ := sqO3 H
 go_wp2_with fail
 refine sqE g2 31 #[.int .i64 a0_0, .int .i64 a0_1] (Z4 B8) underlying31 ?_
 exact ⟨Z5, sqB3 HB E0 E1 E2⟩
end
end Go.Proofs.YtofmlbgfcohhoaaGreatDoor.PFnDeskLine
