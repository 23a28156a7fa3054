/- Lean functions of the Go functions that the law FnExactDeskLine reaches, each with its contract: made by a program of this session. -/
import Derived.Test.YtofmlbgfcohhoaaGreatDoorPFnExactDeskLinex4
namespace Go.Proofs.YtofmlbgfcohhoaaGreatDoor.PFnExactDeskLine
open Go.RowKit Go.Proofs.YtofmlbgfcohhoaaGreatDoorW.PrintWords Go.Proofs.YtofmlbgfcohhoaaGreatDoorW.PrintLast Go.Proofs.YtofmlbgfcohhoaaGreatDoorW.PrintMore Go.Proofs.YtofmlbgfcohhoaaGreatDoor.Lib
attribute [local go_sem] max2_int min2_int max_two min_two max_three min_three max_four min_four   -- for this text's walks alone
set_option linter.unusedVariables false
set_option linter.unusedSimpArgs false

/-! ### impl_areMoves: function 118 -/
def impl_areMoves.f (a0 : ByteArray) : Option (Bool) := (strings_Trim.f a0 (⟨#[84, 116, 82]⟩ : ByteArray)).bind fun t159 => (some (t159.toList == ([] : List UInt8)))
set_option maxHeartbeats 8000000 in
set_option maxRecDepth 100000 in
theorem impl_areMoves.calls (a0 : ByteArray) (r : Bool) (w : World) (h : impl_areMoves.f a0 = some r) :
  Calls Tryz.prog 118 #[.string a0] w fun e w' => e = .returned (.bool r) ∧ Below w.heap.size w w' := by
 have HB := Aside0.mk (Below.refl w.heap.size w)
 unfold impl_areMoves.f at h
 have H := h
 clear h
 obtain ⟨t159, A2, H⟩ := sqD H
 obtain rfl := Option.some.inj H
 go_enter Tryz.func118, Tryz.ntmps118
 go_wp2_with (first | ((with_reducible refine gate_callee (f := 139) rfl ?_); refine sqC (some 4) Tryz.func139 #[.string a0, .string (⟨#[84, 116, 82]⟩ : ByteArray)] ?_; (with_reducible refine (strings_Trim.calls a0 (⟨#[84, 116, 82]⟩ : ByteArray) t159 _ A2.out).mono ?_); rintro e w3 ⟨rfl, hb⟩; refine ⟨_, rfl, ?_⟩; replace HB := sqS (sqB HB) hb; (try clear hb)))
 go_ret
 exact ⟨Z6, sqB HB⟩

/-! ### impl_isDance: function 71 -/
def impl_isDance.f (a0 : ByteArray) : Option (Bool) := if (a0.size : Int) ≤ 40 then ((impl_areMoves.f a0).bind fun t160 => (some t160)) else (some false)
set_option maxHeartbeats 8000000 in
set_option maxRecDepth 100000 in
theorem impl_isDance.calls (a0 : ByteArray) (r : Bool) (w : World) (h : impl_isDance.f a0 = some r) :
  Calls Tryz.prog 71 #[.string a0] w fun e w' => e = .returned (.bool r) ∧ Below w.heap.size w w' := by
 have HB := Aside0.mk (Below.refl w.heap.size w)
 unfold impl_isDance.f at h
 have H := h
 clear h
 by_cases c2 : (a0.size : Int) ≤ 40
 ·rw [if_pos c2] at H
  have c2b0 : decide ((a0.size : Int) ≤ 40) = true := decide_eq_true c2
  have c2b1 : decide (a0.size ≤ 40) = true := decide_eq_true (by omega)
  clear c2
  obtain ⟨t160, A3, H⟩ := sqD H
  obtain rfl := Option.some.inj H
  go_enter Tryz.func71, Tryz.ntmps71
  go_wp2_with (first | (go_at_call 118; (with_reducible refine (impl_areMoves.calls a0 t160 _ A3.out).mono ?_); rintro e w4 ⟨rfl, hb⟩; replace HB := sqS (sqB HB) hb; (try clear hb)))
  go_ret
  exact ⟨Z6, sqB HB⟩
 rw [if_neg c2] at H
 have c2b0 : decide ((a0.size : Int) ≤ 40) = false := decide_eq_false c2
 have c2b1 : decide (a0.size ≤ 40) = false := decide_eq_false (by omega)
 clear c2
 obtain rfl := Option.some.inj H
 go_enter Tryz.func71, Tryz.ntmps71
 go_wp2
 go_ret
 exact ⟨Z6, sqB HB⟩

/-! ### impl_plus: function 119 -/
def impl_plus.f (k : Nat) (a0_0 : Int) (a0_1 : Int) (a1 : Int) : Option (Int × Int × Bool) := (impl_isFraction.f k (wrap64 (a0_0 + (wrap64 (a1 * a0_1)))) a0_1).bind fun t163 => (if t163 = true then (some (wrap64 (a0_0 + (wrap64 (a1 * a0_1))), a0_1, true)) else (some (0, 0, false)))
theorem impl_plus.mono : ∀ a0 a1 a2 k, LeO (impl_plus.f k a0 a1 a2) (impl_plus.f (k + 1) a0 a1 a2) := by
 intro a0 a1 a2 k
 unfold impl_plus.f
 repeat' (with_reducible first | exact impl_isFraction.mono _ _ _ | exact LeO.refl _ | exact LeO.none _ | refine LeO.ite ?_ ?_ | refine LeO.bind ?_ fun _ => ?_)
set_option maxHeartbeats 8000000 in
set_option maxRecDepth 100000 in
theorem impl_plus.calls (k : Nat) (a0_0 : Int) (a0_1 : Int) (a1 : Int) (r1 : Int) (r2 : Int) (r3 : Bool) (w : World) (h : impl_plus.f k a0_0 a0_1 a1 = some (r1, r2, r3)) :
  Calls Tryz.prog 119 #[.agg #[.int .i64 a0_0, .int .i64 a0_1], .int .i64 a1] w fun e w' => e = .returned (.tuple #[.agg #[.int .i64 r1, .int .i64 r2], .bool r3]) ∧ Below w.heap.size w w' := by
 have hu31 := Tryz.underlying31
 have HB := Aside0.mk (Below.refl w.heap.size w)
 unfold impl_plus.f at h
 have H := h
 clear h
 obtain ⟨t163, A3, H⟩ := sqD H
 by_cases c4 : t163 = true
 ·subst c4
  rw [if_pos rfl] at H
  obtain ⟨rfl, rfl, rfl⟩ := sqO3 H
  go_enter Tryz.func119, Tryz.ntmps119
  go_wp2_with (first | ((with_reducible refine gate_dst (N := 2) rfl ?_); refine sqBx w (sqB HB) (N := 2) (cs := #[.int .i64 a0_0, .int .i64 a0_1]) (t := 31) ?_; intro gb161 hg w5 BK161 GE161 HB hb; clear hb hg) | ((with_reducible refine gate_dst (N := 4) rfl ?_); refine sqBx w (sqB1 HB GE161) (N := 4) (cs := #[.int .i64 0, .int .i64 0]) (t := 31) ?_; intro gb162 hg w6 BK162 GE162 HB hb; obtain ⟨NB161_162, NB162_161⟩ := sqM hg BK161; replace BK161 := sqT BK161 hb; clear hb hg; have hnb7 := NB161_162.out; have hnc7 := NB162_161.out; obtain ⟨hcz8_0, hcz8_1, hfz8_0, hfz8_1⟩ := sqY2 BK161) | ((with_reducible refine gate_callee (f := 70) rfl ?_); refine sqC (some 15) Tryz.func70 #[.agg #[.int .i64 (wrap64 (a0_0 + (wrap64 (a1 * a0_1)))), .int .i64 a0_1]] ?_; (with_reducible refine (impl_isFraction.calls k (wrap64 (a0_0 + (wrap64 (a1 * a0_1)))) a0_1 true _ A3.out).mono ?_); rintro e w9 ⟨rfl, hb⟩; refine ⟨_, rfl, ?_⟩; replace BK161 := Aside0.mk (blk_below (g := gb161) (o := .cells #[.int .i64 (wrap64 (a0_0 + (wrap64 (a1 * a0_1)))), .int .i64 a0_1] 31 (0, 0)) (by refine sqPut (cs := #[.int .i64 a0_0, .int .i64 a0_1]) ?_ 0; exact sqK BK161) hb); replace BK162 := sqH NB162_161 BK162 hb; replace HB := sqS (sqB2 HB GE161 GE162) hb; (try clear hb); have hcz10_0 : w9.cell? ⟨gb161, 0, none⟩ = some (.int .i64 (wrap64 (a0_0 + (wrap64 (a1 * a0_1))))) := (blk_cell BK161.out 0).trans rfl; have hcz10_1 := sqZ BK161 1 (.int .i64 a0_1); have hfz10_0 := blk_frozen BK161.out 0; have hfz10_1 := blk_frozen BK161.out 1; obtain ⟨hcz11_0, hcz11_1, hfz11_0, hfz11_1⟩ := sqY2 BK162))
  refine bodyPost_ret (results_ct rfl _ _ gb162 31 #[.int .i64 (wrap64 (a0_0 + (wrap64 (a1 * a0_1)))), .int .i64 a0_1] (0, 0) _ rfl (Z25 BK162) Tryz.underlying31 rfl (by kernel_rfl)) rfl ?_
  exact ⟨Z6, sqB2 HB GE161 GE162⟩
 replace c4 := Bool.eq_false_iff.mpr c4
 subst c4
 rw [if_neg sqF] at H
 obtain ⟨rfl, rfl, rfl⟩ := sqO3 H
 go_enter Tryz.func119, Tryz.ntmps119
 go_wp2_with (first | ((with_reducible refine gate_dst (N := 2) rfl ?_); refine sqBx w (sqB HB) (N := 2) (cs := #[.int .i64 a0_0, .int .i64 a0_1]) (t := 31) ?_; intro gb161 hg w12 BK161 GE161 HB hb; clear hb hg) | ((with_reducible refine gate_dst (N := 4) rfl ?_); refine sqBx w (sqB1 HB GE161) (N := 4) (cs := #[.int .i64 0, .int .i64 0]) (t := 31) ?_; intro gb162 hg w13 BK162 GE162 HB hb; obtain ⟨NB161_162, NB162_161⟩ := sqM hg BK161; replace BK161 := sqT BK161 hb; clear hb hg; have hnb14 := NB161_162.out; have hnc14 := NB162_161.out; obtain ⟨hcz15_0, hcz15_1, hfz15_0, hfz15_1⟩ := sqY2 BK161) | ((with_reducible refine gate_callee (f := 70) rfl ?_); refine sqC (some 15) Tryz.func70 #[.agg #[.int .i64 (wrap64 (a0_0 + (wrap64 (a1 * a0_1)))), .int .i64 a0_1]] ?_; (with_reducible refine (impl_isFraction.calls k (wrap64 (a0_0 + (wrap64 (a1 * a0_1)))) a0_1 false _ A3.out).mono ?_); rintro e w16 ⟨rfl, hb⟩; refine ⟨_, rfl, ?_⟩; replace BK161 := Aside0.mk (blk_below (g := gb161) (o := .cells #[.int .i64 (wrap64 (a0_0 + (wrap64 (a1 * a0_1)))), .int .i64 a0_1] 31 (0, 0)) (by refine sqPut (cs := #[.int .i64 a0_0, .int .i64 a0_1]) ?_ 0; exact sqK BK161) hb); replace BK162 := sqH NB162_161 BK162 hb; replace HB := sqS (sqB2 HB GE161 GE162) hb; (try clear hb); obtain ⟨hcz17_0, hcz17_1, hfz17_0, hfz17_1⟩ := sqY2 BK162))
 refine bodyPost_ret (results_ct rfl _ _ gb162 31 #[.int .i64 0, .int .i64 0] (0, 0) _ rfl (Z27 BK162) Tryz.underlying31 rfl (by kernel_rfl)) rfl ?_
 exact ⟨Z6, sqB2 HB GE161 GE162⟩

/-! ### impl_lowest: function 120 -/
def impl_lowest.f (k : Nat) (a0 : Int) (a1 : Int) : Option (Int × Int) := (impl_gcd.f k a0 a1).bind fun t165 => (if a1 < 0 then (if (wrap64 (-t165)) = 0 then (none) else (some (wrap64 (Int.tdiv a0 (wrap64 (-t165))), wrap64 (Int.tdiv a1 (wrap64 (-t165)))))) else (if a1 = 0 then (if a0 < 0 then (if (wrap64 (-t165)) = 0 then (none) else (some (wrap64 (Int.tdiv a0 (wrap64 (-t165))), wrap64 (Int.tdiv a1 (wrap64 (-t165)))))) else (if t165 = 0 then (none) else (some (wrap64 (Int.tdiv a0 t165), wrap64 (Int.tdiv a1 t165))))) else (if t165 = 0 then (none) else (some (wrap64 (Int.tdiv a0 t165), wrap64 (Int.tdiv a1 t165))))))
theorem impl_lowest.mono : ∀ a0 a1 k, LeO (impl_lowest.f k a0 a1) (impl_lowest.f (k + 1) a0 a1) := by
 intro a0 a1 k
 unfold impl_lowest.f
 repeat' (with_reducible first | exact impl_gcd.mono _ _ _ | exact LeO.refl _ | exact LeO.none _ | refine LeO.ite ?_ ?_ | refine LeO.bind ?_ fun _ => ?_)
def impl_lowest.T4 : Bool × List (List Nat × List Nat) := (true, [([], []), ([], []), ([0, 1], [0, 1]), ([], []), ([], []), ([3, 4], [3, 4]), ([2, 5], [2, 5]), ([6, 0, 1, 2, 3, 4, 5, 6], [6])])
def impl_lowest.B4 : List Nat := [0, 0, 3, 0, 0, 24, 63, 127]
theorem impl_lowest.tab4 : rtab .any (opsOf Tryz.f120 4) = impl_lowest.T4 := by kernel_rfl
theorem impl_lowest.bits4 : waitsOk impl_lowest.T4.2 impl_lowest.B4 = true := by kernel_rfl
set_option maxHeartbeats 8000000 in
set_option maxRecDepth 100000 in
theorem impl_lowest.calls (k : Nat) (a0 : Int) (a1 : Int) (r1 : Int) (r2 : Int) (w : World) (h : impl_lowest.f k a0 a1 = some (r1, r2)) :
  Calls Tryz.prog 120 #[.int .i64 a0, .int .i64 a1] w fun e w' => e = .returned (.agg #[.int .i64 r1, .int .i64 r2]) ∧ Below w.heap.size w w' := by
 have hu31 := Tryz.underlying31
 have HB := Aside0.mk (Below.refl w.heap.size w)
 unfold impl_lowest.f at h
 have H := h
 clear h
 obtain ⟨t165, A3, H⟩ := sqD H
 by_cases c4 : a1 < 0
 ·rw [if_pos c4] at H
  have c4b0 : decide (a1 < 0) = true := decide_eq_true c4
  clear c4
  by_cases c5 : (wrap64 (-t165)) = 0
  ·rw [if_pos c5] at H
   exact absurd H (by simp)
  rw [if_neg c5] at H
  have c5b0 : ((wrap64 (-t165)) == 0) = false := beq_eq_false_iff_ne.mpr c5
  have c5b1 : ((wrap64 (-t165)) != 0) = true := bne_iff_ne.mpr c5
  obtain ⟨rfl, rfl⟩ := sqO2 H
  go_enter Tryz.func120, Tryz.ntmps120
  try go_wp2_with (first | ((with_reducible refine gate_dst (N := 4) rfl ?_); refine sqBx w (sqB HB) (N := 4) (cs := #[.int .i64 0, .int .i64 0]) (t := 31) ?_; intro gb164 hg w6 BK164 GE164 HB hb; clear hb hg) | ((with_reducible refine gate_callee (f := 117) rfl ?_); refine sqC (some 8) Tryz.func117 #[.int .i64 a0, .int .i64 a1] ?_; (with_reducible refine (impl_gcd.calls k a0 a1 t165 _ A3.out).mono ?_); rintro e w7 ⟨rfl, hb⟩; refine ⟨_, rfl, ?_⟩; replace BK164 := sqT BK164 hb; replace HB := sqS (sqB1 HB GE164) hb; (try clear hb)))
  replace BK164 := Aside0.mk (blk_drew BK164.out)
  replace HB := Aside0.mk (below_drew1 HB.out)
  refine start_ (n := 8) (S := fun w' => True) (ds := []) #[false, false, false, false, false, false, false, false] (by kernel_rfl) rfl rfl trivial (fun hHeld => ?_); refine with_tabW impl_lowest.tab4 impl_lowest.bits4 (fun HT_ HW_ => ?_)
  generalize w7.drew = w8 at BK164 HB hHeld ⊢
  refine sqP (i := 0) (N := some 21) (h := ?_)
  refine sqP (i := 1) (N := some 22) (h := ?_)
  refine sqP (i := 2) (N := some 23) (h := ?_)
  refine sqP (i := 3) (N := some 24) (h := ?_)
  refine sqP (i := 4) (N := some 25) (h := ?_)
  refine sqP (i := 5) (N := some 26) (h := ?_)
  refine sqP (i := 6) (N := some 27) (h := ?_)
  refine one_ (i := 7) (N := none) #[true, true, true, true, true, true, true, true] rfl rfl (one_of HT_.out (by kernel_rfl)) (by decide) (fun K hK => ?_)
  have hs9 : w8.cell? ⟨gb164, 0, none⟩ = some (.int .i64 0) := (blk_cell BK164.out 0).trans rfl
  have hfs9 := blk_frozen BK164.out 0
  have hs10 : w8.cell? ⟨gb164, 1, none⟩ = some (.int .i64 0) := (blk_cell BK164.out 1).trans rfl
  have hfs10 := blk_frozen BK164.out 1
  refine skip_ (w1 := ?_) (by rfl) rfl ?_ ?_
  rotate_left
  ·go_simp
   rfl
  refine hK.out _ _ trivial (fun hHeld => ?_)
  clear hK K
  refine done_ (done_of HT_.out (by kernel_rfl)) ?_
  try go_wp2
  refine bodyPost_ret (results_cell_row rfl _ _ gb164 31 #[.int .i64 (wrap64 (Int.tdiv a0 (wrap64 (-t165)))), .int .i64 (wrap64 (Int.tdiv a1 (wrap64 (-t165))))] (0, 0) _ rfl (Z74 BK164) Tryz.underlying31 rfl (by kernel_rfl)) rfl ?_
  exact ⟨Z6, sqB1 HB GE164⟩
 rw [if_neg c4] at H
 have c4b0 : decide (a1 < 0) = false := decide_eq_false c4
 clear c4
 by_cases c11 : a1 = 0
 ·rw [if_pos c11] at H
  have c11b0 : (a1 == 0) = true := beq_iff_eq.mpr c11
  have c11b1 : (a1 != 0) = false := bne_eq_false_iff_eq.mpr c11
  clear c11
  by_cases c12 : a0 < 0
  ·rw [if_pos c12] at H
   have c12b0 : decide (a0 < 0) = true := decide_eq_true c12
   clear c12
   by_cases c13 : (wrap64 (-t165)) = 0
   ·rw [if_pos c13] at H
    exact absurd H (by simp)
   rw [if_neg c13] at H
   have c13b0 : ((wrap64 (-t165)) == 0) = false := beq_eq_false_iff_ne.mpr c13
   have c13b1 : ((wrap64 (-t165)) != 0) = true := bne_iff_ne.mpr c13
   obtain ⟨rfl, rfl⟩ := sqO2 H
   go_enter Tryz.func120, Tryz.ntmps120
   try go_wp2_with (first | ((with_reducible refine gate_dst (N := 4) rfl ?_); refine sqBx w (sqB HB) (N := 4) (cs := #[.int .i64 0, .int .i64 0]) (t := 31) ?_; intro gb164 hg w14 BK164 GE164 HB hb; clear hb hg) | ((with_reducible refine gate_callee (f := 117) rfl ?_); refine sqC (some 8) Tryz.func117 #[.int .i64 a0, .int .i64 a1] ?_; (with_reducible refine (impl_gcd.calls k a0 a1 t165 _ A3.out).mono ?_); rintro e w15 ⟨rfl, hb⟩; refine ⟨_, rfl, ?_⟩; replace BK164 := sqT BK164 hb; replace HB := sqS (sqB1 HB GE164) hb; (try clear hb)))
   replace BK164 := Aside0.mk (blk_drew BK164.out)
   replace HB := Aside0.mk (below_drew1 HB.out)
   refine start_ (n := 8) (S := fun w' => True) (ds := []) #[false, false, false, false, false, false, false, false] (by kernel_rfl) rfl rfl trivial (fun hHeld => ?_); refine with_tabW impl_lowest.tab4 impl_lowest.bits4 (fun HT_ HW_ => ?_)
   generalize w15.drew = w16 at BK164 HB hHeld ⊢
   refine sqP (i := 0) (N := some 21) (h := ?_)
   refine sqP (i := 1) (N := some 22) (h := ?_)
   refine sqP (i := 2) (N := some 23) (h := ?_)
   refine sqP (i := 3) (N := some 24) (h := ?_)
   refine sqP (i := 4) (N := some 25) (h := ?_)
   refine sqP (i := 5) (N := some 26) (h := ?_)
   refine sqP (i := 6) (N := some 27) (h := ?_)
   refine one_ (i := 7) (N := none) #[true, true, true, true, true, true, true, true] rfl rfl (one_of HT_.out (by kernel_rfl)) (by decide) (fun K hK => ?_)
   have hs17 : w16.cell? ⟨gb164, 0, none⟩ = some (.int .i64 0) := (blk_cell BK164.out 0).trans rfl
   have hfs17 := blk_frozen BK164.out 0
   have hs18 : w16.cell? ⟨gb164, 1, none⟩ = some (.int .i64 0) := (blk_cell BK164.out 1).trans rfl
   have hfs18 := blk_frozen BK164.out 1
   refine skip_ (w1 := ?_) (by rfl) rfl ?_ ?_
   rotate_left
   ·go_simp
    rfl
   refine hK.out _ _ trivial (fun hHeld => ?_)
   clear hK K
   refine done_ (done_of HT_.out (by kernel_rfl)) ?_
   try go_wp2
   refine bodyPost_ret (results_cell_row rfl _ _ gb164 31 #[.int .i64 (wrap64 (Int.tdiv a0 (wrap64 (-t165)))), .int .i64 (wrap64 (Int.tdiv a1 (wrap64 (-t165))))] (0, 0) _ rfl (Z74 BK164) Tryz.underlying31 rfl (by kernel_rfl)) rfl ?_
   exact ⟨Z6, sqB1 HB GE164⟩
  rw [if_neg c12] at H
  have c12b0 : decide (a0 < 0) = false := decide_eq_false c12
  clear c12
  by_cases c19 : t165 = 0
  ·rw [if_pos c19] at H
   exact absurd H (by simp)
  rw [if_neg c19] at H
  have c19b0 : (t165 == 0) = false := beq_eq_false_iff_ne.mpr c19
  have c19b1 : (t165 != 0) = true := bne_iff_ne.mpr c19
  obtain ⟨rfl, rfl⟩ := sqO2 H
  go_enter Tryz.func120, Tryz.ntmps120
  try go_wp2_with (first | ((with_reducible refine gate_dst (N := 4) rfl ?_); refine sqBx w (sqB HB) (N := 4) (cs := #[.int .i64 0, .int .i64 0]) (t := 31) ?_; intro gb164 hg w20 BK164 GE164 HB hb; clear hb hg) | ((with_reducible refine gate_callee (f := 117) rfl ?_); refine sqC (some 8) Tryz.func117 #[.int .i64 a0, .int .i64 a1] ?_; (with_reducible refine (impl_gcd.calls k a0 a1 t165 _ A3.out).mono ?_); rintro e w21 ⟨rfl, hb⟩; refine ⟨_, rfl, ?_⟩; replace BK164 := sqT BK164 hb; replace HB := sqS (sqB1 HB GE164) hb; (try clear hb)))
  replace BK164 := Aside0.mk (blk_drew BK164.out)
  replace HB := Aside0.mk (below_drew1 HB.out)
  refine start_ (n := 8) (S := fun w' => True) (ds := []) #[false, false, false, false, false, false, false, false] (by kernel_rfl) rfl rfl trivial (fun hHeld => ?_); refine with_tabW impl_lowest.tab4 impl_lowest.bits4 (fun HT_ HW_ => ?_)
  generalize w21.drew = w22 at BK164 HB hHeld ⊢
  refine sqP (i := 0) (N := some 21) (h := ?_)
  refine sqP (i := 1) (N := some 22) (h := ?_)
  refine sqP (i := 2) (N := some 23) (h := ?_)
  refine sqP (i := 3) (N := some 24) (h := ?_)
  refine sqP (i := 4) (N := some 25) (h := ?_)
  refine sqP (i := 5) (N := some 26) (h := ?_)
  refine sqP (i := 6) (N := some 27) (h := ?_)
  refine one_ (i := 7) (N := none) #[true, true, true, true, true, true, true, true] rfl rfl (one_of HT_.out (by kernel_rfl)) (by decide) (fun K hK => ?_)
  have hs23 : w22.cell? ⟨gb164, 0, none⟩ = some (.int .i64 0) := (blk_cell BK164.out 0).trans rfl
  have hfs23 := blk_frozen BK164.out 0
  have hs24 : w22.cell? ⟨gb164, 1, none⟩ = some (.int .i64 0) := (blk_cell BK164.out 1).trans rfl
  have hfs24 := blk_frozen BK164.out 1
  refine skip_ (w1 := ?_) (by rfl) rfl ?_ ?_
  rotate_left
  ·go_simp
   rfl
  refine hK.out _ _ trivial (fun hHeld => ?_)
  clear hK K
  refine done_ (done_of HT_.out (by kernel_rfl)) ?_
  try go_wp2
  refine bodyPost_ret (results_cell_row rfl _ _ gb164 31 #[.int .i64 (wrap64 (Int.tdiv a0 t165)), .int .i64 (wrap64 (Int.tdiv a1 t165))] (0, 0) _ rfl (Z75 BK164) Tryz.underlying31 rfl (by kernel_rfl)) rfl ?_
  exact ⟨Z6, sqB1 HB GE164⟩
 rw [if_neg c11] at H
 have c11b0 : (a1 == 0) = false := beq_eq_false_iff_ne.mpr c11
 have c11b1 : (a1 != 0) = true := bne_iff_ne.mpr c11
 by_cases c25 : t165 = 0
 ·rw [if_pos c25] at H
  exact absurd H (by simp)
 rw [if_neg c25] at H
 have c25b0 : (t165 == 0) = false := beq_eq_false_iff_ne.mpr c25
 have c25b1 : (t165 != 0) = true := bne_iff_ne.mpr c25
 obtain ⟨rfl, rfl⟩ := sqO2 H
 go_enter Tryz.func120, Tryz.ntmps120
 try go_wp2_with (first | ((with_reducible refine gate_dst (N := 4) rfl ?_); refine sqBx w (sqB HB) (N := 4) (cs := #[.int .i64 0, .int .i64 0]) (t := 31) ?_; intro gb164 hg w26 BK164 GE164 HB hb; clear hb hg) | ((with_reducible refine gate_callee (f := 117) rfl ?_); refine sqC (some 8) Tryz.func117 #[.int .i64 a0, .int .i64 a1] ?_; (with_reducible refine (impl_gcd.calls k a0 a1 t165 _ A3.out).mono ?_); rintro e w27 ⟨rfl, hb⟩; refine ⟨_, rfl, ?_⟩; replace BK164 := sqT BK164 hb; replace HB := sqS (sqB1 HB GE164) hb; (try clear hb)))
 replace BK164 := Aside0.mk (blk_drew BK164.out)
 replace HB := Aside0.mk (below_drew1 HB.out)
 refine start_ (n := 8) (S := fun w' => True) (ds := []) #[false, false, false, false, false, false, false, false] (by kernel_rfl) rfl rfl trivial (fun hHeld => ?_); refine with_tabW impl_lowest.tab4 impl_lowest.bits4 (fun HT_ HW_ => ?_)
 generalize w27.drew = w28 at BK164 HB hHeld ⊢
 refine sqP (i := 0) (N := some 21) (h := ?_)
 refine sqP (i := 1) (N := some 22) (h := ?_)
 refine sqP (i := 2) (N := some 23) (h := ?_)
 refine sqP (i := 3) (N := some 24) (h := ?_)
 refine sqP (i := 4) (N := some 25) (h := ?_)
 refine sqP (i := 5) (N := some 26) (h := ?_)
 refine sqP (i := 6) (N := some 27) (h := ?_)
 refine one_ (i := 7) (N := none) #[true, true, true, true, true, true, true, true] rfl rfl (one_of HT_.out (by kernel_rfl)) (by decide) (fun K hK => ?_)
 have hs29 : w28.cell? ⟨gb164, 0, none⟩ = some (.int .i64 0) := (blk_cell BK164.out 0).trans rfl
 have hfs29 := blk_frozen BK164.out 0
 have hs30 : w28.cell? ⟨gb164, 1, none⟩ = some (.int .i64 0) := (blk_cell BK164.out 1).trans rfl
 have hfs30 := blk_frozen BK164.out 1
 refine skip_ (w1 := ?_) (by rfl) rfl ?_ ?_
 rotate_left
 ·go_simp
  rfl
 refine hK.out _ _ trivial (fun hHeld => ?_)
 clear hK K
 refine done_ (done_of HT_.out (by kernel_rfl)) ?_
 try go_wp2
 refine bodyPost_ret (results_cell_row rfl _ _ gb164 31 #[.int .i64 (wrap64 (Int.tdiv a0 t165)), .int .i64 (wrap64 (Int.tdiv a1 t165))] (0, 0) _ rfl (Z75 BK164) Tryz.underlying31 rfl (by kernel_rfl)) rfl ?_
 exact ⟨Z6, sqB1 HB GE164⟩

/-! ### impl_danced: function 72 -/
def impl_danced.l0 : Nat → ByteArray → Int → Int → Int → Int → Option (Int × Int × Bool)
 | 0, _, _, _, _, _ => none
 | k + 1, x1, x9, x10, x167000, x167001 => if x10 < x9 then (if 0 ≤ x10 then (if x10 < (x1.size : Int) then (if (bt x1 x10) = 84 then ((impl_plus.f k x167000 x167001 1).bind fun bt168 => (if bt168.2.2 = true then (impl_danced.l0 k x1 x9 (wrap64 (x10 + 1)) bt168.1 bt168.2.1) else (some (0, 0, false)))) else (if (bt x1 x10) = 116 then ((impl_plus.f k x167000 x167001 (-1)).bind fun bt171 => (if bt171.2.2 = true then (impl_danced.l0 k x1 x9 (wrap64 (x10 + 1)) bt171.1 bt171.2.1) else (some (0, 0, false)))) else ((impl_lowest.f k (wrap64 (-x167001)) x167000).bind fun bt174 => (impl_danced.l0 k x1 x9 (wrap64 (x10 + 1)) bt174.1 bt174.2)))) else (none)) else (none)) else (some (x167000, x167001, true))
def impl_danced.f (k : Nat) (a0_0 : Int) (a0_1 : Int) (a1 : ByteArray) : Option (Int × Int × Bool) := impl_danced.l0 k a1 (a1.size : Int) 0 a0_0 a0_1
abbrev impl_danced.M (k : Nat) : Prop := (∀ y0 y1 y2 y3 y4, LeO (impl_danced.l0 k y0 y1 y2 y3 y4) (impl_danced.l0 (k + 1) y0 y1 y2 y3 y4))
theorem impl_danced.mono_t : ∀ k, impl_danced.M k → impl_danced.M (k + 1) ∧ ∀ a0 a1 a2, LeO (impl_danced.f k a0 a1 a2) (impl_danced.f (k + 1) a0 a1 a2) := by
  rintro k ih0
  refine ⟨?_, ?_⟩ <;> (try unfold impl_danced.M) <;> intros <;> (first | unfold impl_danced.l0 | unfold impl_danced.f) <;> repeat' (with_reducible first | exact ih0 _ _ _ _ _ | exact impl_lowest.mono _ _ _ | exact impl_plus.mono _ _ _ _ | exact LeO.refl _ | exact LeO.none _ | refine LeO.ite ?_ ?_ | refine LeO.bind ?_ fun _ => ?_)
theorem impl_danced.mono_l : ∀ k, impl_danced.M k
 | 0 => fun _ _ _ _ _ r h => by simp [impl_danced.l0] at h
 | k + 1 => (impl_danced.mono_t k (impl_danced.mono_l k)).1
theorem impl_danced.mono a0 a1 a2 k : LeO (impl_danced.f k a0 a1 a2) (impl_danced.f (k + 1) a0 a1 a2) := (impl_danced.mono_t k (impl_danced.mono_l k)).2 a0 a1 a2
set_option maxHeartbeats 8000000 in
set_option maxRecDepth 100000 in
theorem impl_danced.calls (k : Nat) (a0_0 : Int) (a0_1 : Int) (a1 : ByteArray) (r1 : Int) (r2 : Int) (r3 : Bool) (w : World) (h : impl_danced.f k a0_0 a0_1 a1 = some (r1, r2, r3)) :
  Calls Tryz.prog 72 #[.agg #[.int .i64 a0_0, .int .i64 a0_1], .string a1] w fun e w' => e = .returned (.tuple #[.agg #[.int .i64 r1, .int .i64 r2], .bool r3]) ∧ Below w.heap.size w w' := by
 have hu31 := Tryz.underlying31
 have HB := Aside0.mk (Below.refl w.heap.size w)
 unfold impl_danced.f at h
 have H := h
 clear h
 have H' := Aside0.mk H
 clear H
 go_enter Tryz.func72, Tryz.ntmps72
 go_wp2_with (first | ((with_reducible refine gate_dst (N := 2) rfl ?_); refine sqBx w (sqB HB) (N := 2) (cs := #[.int .i64 a0_0, .int .i64 a0_1]) (t := 31) ?_; intro gb166 hg w3 BK166 GE166 HB hb; clear hb hg) | ((with_reducible refine gate_dst (N := 4) rfl ?_); refine sqBx w (sqB1 HB GE166) (N := 4) (cs := #[.int .i64 0, .int .i64 0]) (t := 31) ?_; intro gb167 hg w4 BK167 GE167 HB hb; obtain ⟨NB166_167, NB167_166⟩ := sqM hg BK166; replace BK166 := sqT BK166 hb; clear hb hg))
 go_loopg [10] k (fun kq v10 w' => ∃ (x10_1 : Int) (x167000_1 : Int) (x167001_1 : Int) (x168000_1 : Int) (x168001_1 : Int), v10 = .int .i64 x10_1 ∧ Aside0 (impl_danced.l0 kq a1 (a1.size : Int) x10_1 x167000_1 x167001_1 = some (r1, r2, r3)) ∧ Aside0 (kq ≤ k) ∧ Aside0 (w'.heap[gb166]? = some (.cells #[.int .i64 x167000_1, .int .i64 x167001_1] 31 (0, 0))) ∧ Aside0 (w'.heap[gb167]? = some (.cells #[.int .i64 x168000_1, .int .i64 x168001_1] 31 (0, 0))) ∧ Aside0 (Below w.heap.size w w'))
 case atStart => exact ⟨(0), (a0_0), (a0_1), (0), (0), Z2, H', ⟨Nat.le_refl _⟩, ⟨sqK BK166⟩, ⟨sqK BK167⟩, ⟨sqB2 HB GE166 GE167⟩⟩
 case round =>
  clear H'
  obtain ⟨x10_1, x167000_1, x167001_1, x168000_1, x168001_1, rfl, HA, HK1, BK166, BK167, HB⟩ := hrel
  cases gk with
  | zero => exact absurd HA.out (by simp [impl_danced.l0])
  | succ k1 =>
   have H := HA.out
   clear HA
   simp only [impl_danced.l0] at H
   by_cases c5 : x10_1 < (a1.size : Int)
   ·rw [if_pos c5] at H
    have c5b0 : decide (x10_1 < (a1.size : Int)) = true := decide_eq_true c5
    clear c5
    obtain ⟨c6, H⟩ := sqI H
    have c6b0 : decide (0 ≤ x10_1) = true := decide_eq_true c6
    clear c6
    obtain ⟨c7, H⟩ := sqI H
    have c7b0 : decide (x10_1 < (a1.size : Int)) = true := decide_eq_true c7
    clear c7
    by_cases c9 : (bt a1 x10_1) = 84
    ·rw [if_pos c9] at H
     have c9b0 : ((bt a1 x10_1) == 84) = true := beq_iff_eq.mpr c9
     have c9b1 : ((bt a1 x10_1) != 84) = false := bne_eq_false_iff_eq.mpr c9
     clear c9
     obtain ⟨⟨t168, t169, t170⟩, A10, H⟩ := sqD H
     try dsimp only at H
     by_cases c11 : t170 = true
     ·subst c11
      rw [if_pos rfl] at H
      have H' := Aside0.mk H
      clear H
      have p8 : 0 ≤ (x10_1 : Int) := of_decide_eq_true Z20
      have q8 : x10_1 < (a1.size : Int) := of_decide_eq_true Z20
      have hx8 := bt_at a1 x10_1
      replace p8 := eq_true p8
      replace q8 := eq_true q8
      have hnb12 := NB166_167.out
      have hnc12 := NB167_166.out
      obtain ⟨hcz13_0, hcz13_1, hfz13_0, hfz13_1⟩ := sqY2 BK166
      go_wp2_with (first | ((with_reducible refine gate_callee (f := 119) rfl ?_); refine sqC (some 26) Tryz.func119 #[.agg #[.int .i64 x167000_1, .int .i64 x167001_1], .int .i64 1] ?_; (with_reducible refine (impl_plus.calls k1 x167000_1 x167001_1 1 t168 t169 true _ A10.out).mono ?_); rintro e w14 ⟨rfl, hb⟩; refine ⟨_, rfl, ?_⟩; replace BK166 := sqT BK166 hb; replace BK167 := sqT BK167 hb; replace HB := sqS (sqB2 HB GE166 GE167) hb; (try clear hb); obtain ⟨hcz15_0, hcz15_1, hfz15_0, hfz15_1⟩ := sqY2 BK166))
      go_roundg k1
      case measure => have := HK1.out; omega
      case rel => exact ⟨(wrap64 (x10_1 + 1)), (t168), (t169), (x168000_1), (x168001_1), Z2, H', ⟨Z3 HK1⟩, ⟨by refine sqPut (cs := #[.int .i64 t168, .int .i64 x167001_1]) ?_ 1; refine sqPut (cs := #[.int .i64 x167000_1, .int .i64 x167001_1]) ?_ 0; exact sqK BK166⟩, ⟨Z10 NB167_166 BK167⟩, ⟨sqB2 HB GE166 GE167⟩⟩
     replace c11 := Bool.eq_false_iff.mpr c11
     subst c11
     rw [if_neg sqF] at H
     obtain ⟨rfl, rfl, rfl⟩ := sqO3 H
     have p8 : 0 ≤ (x10_1 : Int) := of_decide_eq_true Z20
     have q8 : x10_1 < (a1.size : Int) := of_decide_eq_true Z20
     have hx8 := bt_at a1 x10_1
     replace p8 := eq_true p8
     replace q8 := eq_true q8
     have hnb16 := NB166_167.out
     have hnc16 := NB167_166.out
     obtain ⟨hcz17_0, hcz17_1, hfz17_0, hfz17_1⟩ := sqY2 BK166
     go_wp2_with (first | ((with_reducible refine gate_callee (f := 119) rfl ?_); refine sqC (some 26) Tryz.func119 #[.agg #[.int .i64 x167000_1, .int .i64 x167001_1], .int .i64 1] ?_; (with_reducible refine (impl_plus.calls k1 x167000_1 x167001_1 1 t168 t169 false _ A10.out).mono ?_); rintro e w18 ⟨rfl, hb⟩; refine ⟨_, rfl, ?_⟩; replace BK166 := sqT BK166 hb; replace BK167 := sqT BK167 hb; replace HB := sqS (sqB2 HB GE166 GE167) hb; (try clear hb); obtain ⟨hcz19_0, hcz19_1, hfz19_0, hfz19_1⟩ := sqY2 BK166; obtain ⟨hcz20_0, hcz20_1, hfz20_0, hfz20_1⟩ := sqY2 BK167))
     refine bodyPost_ret (results_ct rfl _ _ gb167 31 #[.int .i64 0, .int .i64 0] (0, 0) _ rfl (Z76 NB167_166 BK167) Tryz.underlying31 rfl (by kernel_rfl)) rfl ?_
     exact ⟨Z6, sqB2 HB GE166 GE167⟩
    rw [if_neg c9] at H
    have c9b0 : ((bt a1 x10_1) == 84) = false := beq_eq_false_iff_ne.mpr c9
    have c9b1 : ((bt a1 x10_1) != 84) = true := bne_iff_ne.mpr c9
    by_cases c21 : (bt a1 x10_1) = 116
    ·rw [if_pos c21] at H
     have c21b0 : ((bt a1 x10_1) == 116) = true := beq_iff_eq.mpr c21
     have c21b1 : ((bt a1 x10_1) != 116) = false := bne_eq_false_iff_eq.mpr c21
     clear c21
     obtain ⟨⟨t171, t172, t173⟩, A22, H⟩ := sqD H
     try dsimp only at H
     by_cases c23 : t173 = true
     ·subst c23
      rw [if_pos rfl] at H
      have H' := Aside0.mk H
      clear H
      have p8 : 0 ≤ (x10_1 : Int) := of_decide_eq_true Z20
      have q8 : x10_1 < (a1.size : Int) := of_decide_eq_true Z20
      have hx8 := bt_at a1 x10_1
      replace p8 := eq_true p8
      replace q8 := eq_true q8
      have hnb24 := NB166_167.out
      have hnc24 := NB167_166.out
      obtain ⟨hcz25_0, hcz25_1, hfz25_0, hfz25_1⟩ := sqY2 BK166
      go_wp2_with (first | ((with_reducible refine gate_callee (f := 119) rfl ?_); refine sqC (some 33) Tryz.func119 #[.agg #[.int .i64 x167000_1, .int .i64 x167001_1], .int .i64 (-1)] ?_; (with_reducible refine (impl_plus.calls k1 x167000_1 x167001_1 (-1) t171 t172 true _ A22.out).mono ?_); rintro e w26 ⟨rfl, hb⟩; refine ⟨_, rfl, ?_⟩; replace BK166 := sqT BK166 hb; replace BK167 := sqT BK167 hb; replace HB := sqS (sqB2 HB GE166 GE167) hb; (try clear hb); obtain ⟨hcz27_0, hcz27_1, hfz27_0, hfz27_1⟩ := sqY2 BK166))
      go_roundg k1
      case measure => have := HK1.out; omega
      case rel => exact ⟨(wrap64 (x10_1 + 1)), (t171), (t172), (x168000_1), (x168001_1), Z2, H', ⟨Z3 HK1⟩, ⟨by refine sqPut (cs := #[.int .i64 t171, .int .i64 x167001_1]) ?_ 1; refine sqPut (cs := #[.int .i64 x167000_1, .int .i64 x167001_1]) ?_ 0; exact sqK BK166⟩, ⟨Z10 NB167_166 BK167⟩, ⟨sqB2 HB GE166 GE167⟩⟩
     replace c23 := Bool.eq_false_iff.mpr c23
     subst c23
     rw [if_neg sqF] at H
     obtain ⟨rfl, rfl, rfl⟩ := sqO3 H
     have p8 : 0 ≤ (x10_1 : Int) := of_decide_eq_true Z20
     have q8 : x10_1 < (a1.size : Int) := of_decide_eq_true Z20
     have hx8 := bt_at a1 x10_1
     replace p8 := eq_true p8
     replace q8 := eq_true q8
     have hnb28 := NB166_167.out
     have hnc28 := NB167_166.out
     obtain ⟨hcz29_0, hcz29_1, hfz29_0, hfz29_1⟩ := sqY2 BK166
     go_wp2_with (first | ((with_reducible refine gate_callee (f := 119) rfl ?_); refine sqC (some 33) Tryz.func119 #[.agg #[.int .i64 x167000_1, .int .i64 x167001_1], .int .i64 (-1)] ?_; (with_reducible refine (impl_plus.calls k1 x167000_1 x167001_1 (-1) t171 t172 false _ A22.out).mono ?_); rintro e w30 ⟨rfl, hb⟩; refine ⟨_, rfl, ?_⟩; replace BK166 := sqT BK166 hb; replace BK167 := sqT BK167 hb; replace HB := sqS (sqB2 HB GE166 GE167) hb; (try clear hb); obtain ⟨hcz31_0, hcz31_1, hfz31_0, hfz31_1⟩ := sqY2 BK166; obtain ⟨hcz32_0, hcz32_1, hfz32_0, hfz32_1⟩ := sqY2 BK167))
     refine bodyPost_ret (results_ct rfl _ _ gb167 31 #[.int .i64 0, .int .i64 0] (0, 0) _ rfl (Z76 NB167_166 BK167) Tryz.underlying31 rfl (by kernel_rfl)) rfl ?_
     exact ⟨Z6, sqB2 HB GE166 GE167⟩
    rw [if_neg c21] at H
    have c21b0 : ((bt a1 x10_1) == 116) = false := beq_eq_false_iff_ne.mpr c21
    have c21b1 : ((bt a1 x10_1) != 116) = true := bne_iff_ne.mpr c21
    obtain ⟨⟨t174, t175⟩, A33, H⟩ := sqD H
    try dsimp only at H
    have H' := Aside0.mk H
    clear H
    have p8 : 0 ≤ (x10_1 : Int) := of_decide_eq_true Z20
    have q8 : x10_1 < (a1.size : Int) := of_decide_eq_true Z20
    have hx8 := bt_at a1 x10_1
    replace p8 := eq_true p8
    replace q8 := eq_true q8
    have hnb34 := NB166_167.out
    have hnc34 := NB167_166.out
    obtain ⟨hcz35_0, hcz35_1, hfz35_0, hfz35_1⟩ := sqY2 BK166
    go_wp2_with (first | ((with_reducible refine gate_callee (f := 120) rfl ?_); refine sqC (some 21) Tryz.func120 #[.int .i64 (wrap64 (-x167001_1)), .int .i64 x167000_1] ?_; (with_reducible refine (impl_lowest.calls k1 (wrap64 (-x167001_1)) x167000_1 t174 t175 _ A33.out).mono ?_); rintro e w36 ⟨rfl, hb⟩; refine ⟨_, rfl, ?_⟩; replace BK166 := sqT BK166 hb; replace BK167 := sqT BK167 hb; replace HB := sqS (sqB2 HB GE166 GE167) hb; (try clear hb); obtain ⟨hcz37_0, hcz37_1, hfz37_0, hfz37_1⟩ := sqY2 BK166))
    go_roundg k1
    case measure => have := HK1.out; omega
    case rel => exact ⟨(wrap64 (x10_1 + 1)), (t174), (t175), (x168000_1), (x168001_1), Z2, H', ⟨Z3 HK1⟩, ⟨by refine sqPut (cs := #[.int .i64 t174, .int .i64 x167001_1]) ?_ 1; refine sqPut (cs := #[.int .i64 x167000_1, .int .i64 x167001_1]) ?_ 0; exact sqK BK166⟩, ⟨Z10 NB167_166 BK167⟩, ⟨sqB2 HB GE166 GE167⟩⟩
   rw [if_neg c5] at H
   have c5b0 : decide (x10_1 < (a1.size : Int)) = false := decide_eq_false c5
   clear c5
   obtain ⟨rfl, rfl, rfl⟩ := sqO3 H
   have hnb38 := NB166_167.out
   have hnc38 := NB167_166.out
   obtain ⟨hcz39_0, hcz39_1, hfz39_0, hfz39_1⟩ := sqY2 BK166
   obtain ⟨hcz40_0, hcz40_1, hfz40_0, hfz40_1⟩ := sqY2 BK167
   go_wp2
   refine bodyPost_ret (results_ct rfl _ _ gb167 31 #[.int .i64 x167000_1, .int .i64 x167001_1] (0, 0) _ rfl (by refine sqPut (cs := #[.int .i64 x167000_1, .int .i64 x168001_1]) ?_ 1; refine sqPut (cs := #[.int .i64 x168000_1, .int .i64 x168001_1]) ?_ 0; exact sqK BK167) Tryz.underlying31 rfl (by kernel_rfl)) rfl ?_
   exact ⟨Z6, sqB2 HB GE166 GE167⟩

/-! ### impl_DancedFrom: function 25 -/
def impl_DancedFrom.f (k : Nat) (a0_0 : Int) (a0_1 : Int) (a1 : ByteArray) : Option (Int × Int × Bool) := (impl_isFraction.f k a0_0 a0_1).bind fun t178 => (if t178 = true then ((impl_isDance.f a1).bind fun t179 => (if t179 = true then ((impl_danced.f k a0_0 a0_1 a1).bind fun bt180 => (some (bt180.1, bt180.2.1, bt180.2.2))) else (some (0, 0, false)))) else (some (0, 0, false)))
theorem impl_DancedFrom.mono : ∀ a0 a1 a2 k, LeO (impl_DancedFrom.f k a0 a1 a2) (impl_DancedFrom.f (k + 1) a0 a1 a2) := by
 intro a0 a1 a2 k
 unfold impl_DancedFrom.f
 repeat' (with_reducible first | exact impl_danced.mono _ _ _ _ | exact impl_isFraction.mono _ _ _ | exact LeO.refl _ | exact LeO.none _ | refine LeO.ite ?_ ?_ | refine LeO.bind ?_ fun _ => ?_)
set_option maxHeartbeats 8000000 in
set_option maxRecDepth 100000 in
theorem impl_DancedFrom.calls (k : Nat) (a0_0 : Int) (a0_1 : Int) (a1 : ByteArray) (r1 : Int) (r2 : Int) (r3 : Bool) (w : World) (h : impl_DancedFrom.f k a0_0 a0_1 a1 = some (r1, r2, r3)) :
  Calls Tryz.prog 25 #[.agg #[.int .i64 a0_0, .int .i64 a0_1], .string a1] w fun e w' => e = .returned (.tuple #[.agg #[.int .i64 r1, .int .i64 r2], .bool r3]) ∧ Below w.heap.size w w' := by
 have hu31 := Tryz.underlying31
 have HB := Aside0.mk (Below.refl w.heap.size w)
 unfold impl_DancedFrom.f at h
 have H := h
 clear h
 obtain ⟨t178, A3, H⟩ := sqD H
 by_cases c4 : t178 = true
 ·subst c4
  rw [if_pos rfl] at H
  obtain ⟨t179, A5, H⟩ := sqD H
  by_cases c6 : t179 = true
  ·subst c6
   rw [if_pos rfl] at H
   obtain ⟨⟨t180, t181, t182⟩, A7, H⟩ := sqD H
   try dsimp only at H
   obtain ⟨rfl, rfl, rfl⟩ := sqO3 H
   go_enter Tryz.func25, Tryz.ntmps25
   go_wp2_with (first | ((with_reducible refine gate_dst (N := 2) rfl ?_); refine sqBx w (sqB HB) (N := 2) (cs := #[.int .i64 a0_0, .int .i64 a0_1]) (t := 31) ?_; intro gb176 hg w8 BK176 GE176 HB hb; clear hb hg) | ((with_reducible refine gate_dst (N := 4) rfl ?_); refine sqBx w (sqB1 HB GE176) (N := 4) (cs := #[.int .i64 0, .int .i64 0]) (t := 31) ?_; intro gb177 hg w9 BK177 GE177 HB hb; obtain ⟨NB176_177, NB177_176⟩ := sqM hg BK176; replace BK176 := sqT BK176 hb; clear hb hg; have hnb10 := NB176_177.out; have hnc10 := NB177_176.out; obtain ⟨hcz11_0, hcz11_1, hfz11_0, hfz11_1⟩ := sqY2 BK176) | ((with_reducible refine gate_callee (f := 70) rfl ?_); refine sqC (some 7) Tryz.func70 #[.agg #[.int .i64 a0_0, .int .i64 a0_1]] ?_; (with_reducible refine (impl_isFraction.calls k a0_0 a0_1 true _ A3.out).mono ?_); rintro e w12 ⟨rfl, hb⟩; refine ⟨_, rfl, ?_⟩; replace BK176 := sqT BK176 hb; replace BK177 := sqT BK177 hb; replace HB := sqS (sqB2 HB GE176 GE177) hb; (try clear hb)) | (go_at_call 71; (with_reducible refine (impl_isDance.calls a1 true _ A5.out).mono ?_); rintro e w13 ⟨rfl, hb⟩; replace BK176 := sqT BK176 hb; replace BK177 := sqT BK177 hb; replace HB := sqS (sqB2 HB GE176 GE177) hb; (try clear hb); obtain ⟨hcz14_0, hcz14_1, hfz14_0, hfz14_1⟩ := sqY2 BK176) | ((with_reducible refine gate_callee (f := 72) rfl ?_); refine sqC (some 17) Tryz.func72 #[.agg #[.int .i64 a0_0, .int .i64 a0_1], .string a1] ?_; (with_reducible refine (impl_danced.calls k a0_0 a0_1 a1 t180 t181 t182 _ A7.out).mono ?_); rintro e w15 ⟨rfl, hb⟩; refine ⟨_, rfl, ?_⟩; replace BK176 := sqT BK176 hb; replace BK177 := sqT BK177 hb; replace HB := sqS (sqB2 HB GE176 GE177) hb; (try clear hb); obtain ⟨hcz16_0, hcz16_1, hfz16_0, hfz16_1⟩ := sqY2 BK177))
   refine bodyPost_ret (results_ct rfl _ _ gb177 31 #[.int .i64 t180, .int .i64 t181] (0, 0) _ rfl (by refine sqPut (cs := #[.int .i64 t180, .int .i64 0]) ?_ 1; refine sqPut (cs := #[.int .i64 0, .int .i64 0]) ?_ 0; exact sqK BK177) Tryz.underlying31 rfl (by kernel_rfl)) rfl ?_
   exact ⟨Z6, sqB2 HB GE176 GE177⟩
  replace c6 := Bool.eq_false_iff.mpr c6
  subst c6
  rw [if_neg sqF] at H
  obtain ⟨rfl, rfl, rfl⟩ := sqO3 H
  go_enter Tryz.func25, Tryz.ntmps25
  go_wp2_with (first | ((with_reducible refine gate_dst (N := 2) rfl ?_); refine sqBx w (sqB HB) (N := 2) (cs := #[.int .i64 a0_0, .int .i64 a0_1]) (t := 31) ?_; intro gb176 hg w17 BK176 GE176 HB hb; clear hb hg) | ((with_reducible refine gate_dst (N := 4) rfl ?_); refine sqBx w (sqB1 HB GE176) (N := 4) (cs := #[.int .i64 0, .int .i64 0]) (t := 31) ?_; intro gb177 hg w18 BK177 GE177 HB hb; obtain ⟨NB176_177, NB177_176⟩ := sqM hg BK176; replace BK176 := sqT BK176 hb; clear hb hg; have hnb19 := NB176_177.out; have hnc19 := NB177_176.out; obtain ⟨hcz20_0, hcz20_1, hfz20_0, hfz20_1⟩ := sqY2 BK176) | ((with_reducible refine gate_callee (f := 70) rfl ?_); refine sqC (some 7) Tryz.func70 #[.agg #[.int .i64 a0_0, .int .i64 a0_1]] ?_; (with_reducible refine (impl_isFraction.calls k a0_0 a0_1 true _ A3.out).mono ?_); rintro e w21 ⟨rfl, hb⟩; refine ⟨_, rfl, ?_⟩; replace BK176 := sqT BK176 hb; replace BK177 := sqT BK177 hb; replace HB := sqS (sqB2 HB GE176 GE177) hb; (try clear hb)) | (go_at_call 71; (with_reducible refine (impl_isDance.calls a1 false _ A5.out).mono ?_); rintro e w22 ⟨rfl, hb⟩; replace BK176 := sqT BK176 hb; replace BK177 := sqT BK177 hb; replace HB := sqS (sqB2 HB GE176 GE177) hb; (try clear hb); obtain ⟨hcz23_0, hcz23_1, hfz23_0, hfz23_1⟩ := sqY2 BK177))
  refine bodyPost_ret (results_ct rfl _ _ gb177 31 #[.int .i64 0, .int .i64 0] (0, 0) _ rfl (Z27 BK177) Tryz.underlying31 rfl (by kernel_rfl)) rfl ?_
  exact ⟨Z6, sqB2 HB GE176 GE177⟩
 replace c4 := Bool.eq_false_iff.mpr c4
 subst c4
 rw [if_neg sqF] at H
 obtain ⟨rfl, rfl, rfl⟩ := sqO3 H
 go_enter Tryz.func25, Tryz.ntmps25
 go_wp2_with (first | ((with_reducible refine gate_dst (N := 2) rfl ?_); refine sqBx w (sqB HB) (N := 2) (cs := #[.int .i64 a0_0, .int .i64 a0_1]) (t := 31) ?_; intro gb176 hg w24 BK176 GE176 HB hb; clear hb hg) | ((with_reducible refine gate_dst (N := 4) rfl ?_); refine sqBx w (sqB1 HB GE176) (N := 4) (cs := #[.int .i64 0, .int .i64 0]) (t := 31) ?_; intro gb177 hg w25 BK177 GE177 HB hb; obtain ⟨NB176_177, NB177_176⟩ := sqM hg BK176; replace BK176 := sqT BK176 hb; clear hb hg; have hnb26 := NB176_177.out; have hnc26 := NB177_176.out; obtain ⟨hcz27_0, hcz27_1, hfz27_0, hfz27_1⟩ := sqY2 BK176) | ((with_reducible refine gate_callee (f := 70) rfl ?_); refine sqC (some 7) Tryz.func70 #[.agg #[.int .i64 a0_0, .int .i64 a0_1]] ?_; (with_reducible refine (impl_isFraction.calls k a0_0 a0_1 false _ A3.out).mono ?_); rintro e w28 ⟨rfl, hb⟩; refine ⟨_, rfl, ?_⟩; replace BK176 := sqT BK176 hb; replace BK177 := sqT BK177 hb; replace HB := sqS (sqB2 HB GE176 GE177) hb; (try clear hb); obtain ⟨hcz29_0, hcz29_1, hfz29_0, hfz29_1⟩ := sqY2 BK177))
 refine bodyPost_ret (results_ct rfl _ _ gb177 31 #[.int .i64 0, .int .i64 0] (0, 0) _ rfl (Z27 BK177) Tryz.underlying31 rfl (by kernel_rfl)) rfl ?_
 exact ⟨Z6, sqB2 HB GE176 GE177⟩

end Go.Proofs.YtofmlbgfcohhoaaGreatDoor.PFnExactDeskLine
