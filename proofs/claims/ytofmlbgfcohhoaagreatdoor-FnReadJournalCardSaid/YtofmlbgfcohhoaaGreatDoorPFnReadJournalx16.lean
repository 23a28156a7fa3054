import Derived.Test.YtofmlbgfcohhoaaGreatDoorPFnReadJournalx0
set_option maxHeartbeats 8000000
set_option maxRecDepth 100000
namespace Go.Proofs.YtofmlbgfcohhoaaGreatDoor.PFnReadJournal
open Go.RowKit Go.Proofs.YtofmlbgfcohhoaaGreatDoorW.PrintWords Go.Proofs.YtofmlbgfcohhoaaGreatDoorW.PrintLast Go.Proofs.YtofmlbgfcohhoaaGreatDoorW.PrintMore Go.Proofs.YtofmlbgfcohhoaaGreatDoor.Lib Go.Proofs.Tryz
attribute [local go_sem] max2_int min2_int max_two min_two max_three min_three max_four min_four
set_option linter.unusedVariables false
set_option linter.unusedSimpArgs false

def F44.f (a0_0 : Int) (a0_1 : Int) (l0_2 : List (S31)) : Option (Int × Int × (List (S31))) := (some (([] : List (S31)) : List (S31))).bind fun y0 => (if y0.length + l0_2.length < 8796093022208 then (some (a0_0, a0_1, (y0 ++ l0_2))) else (none))
def F44.T1 : Bool × List (List Nat × List Nat) := (true, [([], []), ([0], [0]), ([], []), ([], []), ([3], [3]), ([2, 4], [2, 4]), ([1, 5], [1, 5]), ([6, 5, 0, 1, 2, 3, 4, 5, 6], [6])])
def F44.B1 : List Nat := [0, 1, 0, 0, 8, 28, 63, 127]
theorem F44.tab1 : rtab .any (opsOf f76 1) = F44.T1 := by kernel_rfl
theorem F44.bits1 : waitsOk F44.T1.2 F44.B1 = true := by kernel_rfl
theorem F44.c (a0_0 : Int) (a0_1 : Int) (A0_2 : Option Addr) (c0_2 : Nat) (l0_2 : List (S31)) (r1 : Int) (r2 : Int) (r3 : List (S31)) (w : World) (hr0_2 : Kd.C k31 w A0_2 l0_2.length l0_2) (hc0_2 : l0_2.length ≤ c0_2) (H : F44.f a0_0 a0_1 l0_2 = some (r1, r2, r3)) :
  Calls prog 76 #[.agg #[.int .i64 a0_0, .int .i64 a0_1, .slice A0_2 l0_2.length c0_2]] w fun e w' => ∃ v2_ : Value, e = .returned (.agg #[.int .i64 r1, .int .i64 r2, v2_]) ∧ Kd.R k31 31 w' w.heap.size (fun _ => True) v2_ r3 ∧ Below w.heap.size w w' := by
 have hu34 := underlying34
 have hu31 := underlying31
 have HR0_2 := sqa hr0_2
 have HC0_2 := sqa hc0_2
 clear hr0_2 hc0_2
 have HB := sqh w
 unfold F44.f at H
 obtain ⟨y0, hy0⟩ : ∃ y_ : List (S31), y_ = (([] : List (S31))) := ⟨_, rfl⟩
 replace H : (if y0.length + l0_2.length < 8796093022208 then (some (a0_0, a0_1, (y0 ++ l0_2))) else (none)) = some (r1, r2, r3) := sqW hy0 H
 have Ny0 := sqa hy0
 clear hy0
 obtain ⟨c2, H⟩ := sqI H
 have LMc2 := sqa c2
 clear c2
 obtain ⟨y1, hy1⟩ : ∃ y_ : List (S31), y_ = (y0 ++ l0_2) := ⟨_, rfl⟩
 replace H : (some (a0_0, a0_1, y1)) = some (r1, r2, r3) := sqW hy1 H
 have Ny1 := sqa hy1
 clear hy1
 obtain ⟨rfl, rfl, rfl⟩ := sqO3 H
 go_enter func76, ntmps76
 try go_wp2_with (first | ((with_reducible refine sqd 1 rfl ?_); refine sqBx w (sqB HB) (cs := #[.int .i64 a0_0, .int .i64 a0_1, .slice A0_2 l0_2.length c0_2]) (t := 34) ?_; intro g0 hg w3 B0 E0 HB hb; clear hb hg) | ((with_reducible refine sqd 2 rfl ?_); refine sqBx w (sqB1 HB E0) (cs := #[.int .i64 0, .int .i64 0, .slice none 0 0]) (t := 34) ?_; intro g1 hg w4 B2 E1 HB hb; obtain ⟨N0, N1⟩ := sqM hg B0; replace B0 := sqT B0 hb; clear hb hg))
 replace B0 := sqa (blk_drew B0.1)
 replace B2 := sqa (blk_drew B2.1)
 replace HB := sqa (below_drew1 HB.1)
 refine start_ (n := 8) (S := fun w' => w'.cell? ⟨g0, 0, none⟩ = some (.int .i64 a0_0) ∧ w'.cell? ⟨g0, 1, none⟩ = some (.int .i64 a0_1) ∧ w'.cell? ⟨g0, 2, none⟩ = some (.slice A0_2 l0_2.length c0_2)) (ds := []) #[false, false, false, false, false, false, false, false] (by kernel_rfl) rfl rfl (sqk1 B0) (fun hHeld => ?_); refine with_tabW F44.tab1 F44.bits1 (fun HT_ HW_ => ?_)
 generalize w4.drew = w5 at B0 B2 HB hHeld ⊢
 refine sqP 0 (some 3) (h := ?_)
 refine sqP 3 (some 6) (h := ?_)
 refine sqQ 1 (some 4) hHeld (h := ?_)
 refine sqQ 4 (some 7) hHeld (h := ?_)
 refine sq1 2 (some 5) (h := fun K hK => ?_)
 refine Kd.R_lit_step k31 _ 31 ?hg (N := 5) ?hd (xs := ([] : List (S31))) (inner := []) (ok := fun _ => True) (okp := fun _ => True) ?hr ?hp (fun _ hk => hk) trivial (Below.refl _ _) (Nat.le_refl _) (by simp) ?_; (case hd => rfl); (case hg => rfl); (case hr => exact Z8); (case hp => exact Z23)
 intro v0 w6 ho7 hb hg_ hnew_
 clear hg_ hnew_
 (first | rw [← Ny0.out] at ho7 | (simp only [Int.reduceToNat] at ho7; rw [← Ny0.out] at ho7))
 have O0 := sqL ho7 (sqB2 HB E0 E1)
 replace B0 := sqT B0 hb
 replace B2 := sqT B2 hb
 replace HB := sqS (sqB2 HB E0 E1) hb
 clear hb ho7
 refine hK.out _ _ (sqk1 B0) (fun hHeld => ?_)
 clear hK K
 refine sqN (some 5) ?_
 refine sq1 5 (some 8) (h := fun K hK => ?_)
 refine Kd.R_append_rows_step k31 (w0 := w) w.heap.size (by rfl) (.tmp 5) (.tmp 7) 32 31 (.agg #[(.int .i64 0), (.int .i64 0)]) 16 rfl underlying32 info31 rfl (by decide) (by omega) v0 y0 l0_2 _ _ _ (fun _ => True) (fun _ => False) rfl rfl ?aO ?aR (fun _ _ h => h) (fun _ h => h.elim) ?aF ?aB ?aS ?aL ?_
 (case aR => exact Z1)
 (case aB => exact (sqB2 HB E0 E1))
 (case aF => exact Z24)
 (case aO => exact (sqR O0))
 (case aS => exact (below_size (sqB2 HB E0 E1)))
 (case aL => exact Z15 LMc2)
 intro v1 w8 ho hb hg hat
 rw [← Ny1.out] at ho
 replace B0 := sqa (blk_grown (sqK B0) hg (Kd.R_ne O0.1 B0.1 (by decide)))
 replace B2 := sqa (blk_grown (sqK B2) hg (Kd.R_ne O0.1 B2.1 (by decide)))
 replace HB := sqa (hb)
 have O1 := sqa (ho)
 clear O0
 clear ho hb hg hat
 obtain ⟨Ao9, co9, eo9⟩ := Kd.R_slice O1.1
 (first | subst eo9 | (injection eo9 with f1_ f2_ f3_; have f4_ := f1_.symm; have f5_ := f3_.symm; clear f1_ f2_ f3_; subst f4_; subst f5_))
 refine hK.out _ _ (sqk1 B0) (fun hHeld => ?_)
 clear hK K
 refine sqN (some 8) ?_
 refine sqP 6 (some 9) (h := ?_)
 refine sq1 7 none (h := fun K hK => ?_)
 have := sqY3 B2
 have := sqn2 N0 N1
 refine skip_ (w1 := ?_) (by rfl) rfl ?_ ?_
 rotate_left
 ·go_simp
  rfl
 refine hK.out _ _ (sql1 N0 hHeld) (fun hHeld => ?_)
 clear hK K
 refine done_ (done_of HT_.out (by kernel_rfl)) ?_
 try go_wp2
 refine sqEr g1 34 #[.int .i64 a0_0, .int .i64 a0_1, .slice Ao9 y1.length co9] (Z35 B2) underlying34 ?_
 exact ⟨_, Z14, by (with_reducible repeat (first | apply Kd.R_alloc | apply Kd.R_drewN | apply Kd.R_drew)); exact Kd.R_mono (sqr3 O1.1 B2.1) (fun _ hk => trivial), sqB2 HB E0 E1⟩

-- given: function 139 (strings_Trim)

def F84.f (a0 : ByteArray) : Option (Bool) := (strings_Trim.f a0 (⟨#[84, 116, 82]⟩ : ByteArray)).bind fun t0 => (some (t0.toList == ([] : List UInt8)))
theorem F84.c (a0 : ByteArray) (r : Bool) (w : World) (H : F84.f a0 = some r) :
  Calls prog 118 #[.string a0] w fun e w' => e = .returned (.bool r) ∧ Below w.heap.size w w' := by
 have HB := sqh w
 unfold F84.f at H
 obtain ⟨t0, A2, H⟩ := sqD H
 obtain rfl := sqo H
 go_enter func118, ntmps118
 go_wp2_with (first | ((with_reducible refine sqc 139 rfl ?_); refine sqC (some 4) func139 #[.string a0, .string (⟨#[84, 116, 82]⟩ : ByteArray)] ?_; (with_reducible refine (strings_Trim.calls a0 (⟨#[84, 116, 82]⟩ : ByteArray) t0 _ A2.1).mono ?_); refine sqV fun w3 hb => ?_; replace HB := sqS (sqB HB) hb))
 go_ret
 exact ⟨Z14, sqB HB⟩

def F73.f (a0 : ByteArray) : Option (Bool) := if (a0.size : Int) ≤ 40 then ((F84.f a0).bind fun t0 => (some t0)) else (some false)
theorem F73.c (a0 : ByteArray) (r : Bool) (w : World) (H : F73.f a0 = some r) :
  Calls prog 71 #[.string a0] w fun e w' => e = .returned (.bool r) ∧ Below w.heap.size w w' := by
 have HB := sqh w
 unfold F73.f at H
 by_cases c2 : (a0.size : Int) ≤ 40
 ·rw [if_pos c2] at H
  have c2b0 : decide ((a0.size : Int) ≤ 40) = true := decide_eq_true c2
  have c2b1 : decide (a0.size ≤ 40) = true := decide_eq_true (by omega)
  clear c2
  obtain ⟨t0, A3, H⟩ := sqD H
  obtain rfl := sqo H
  go_enter func71, ntmps71
  go_wp2_with (first | (go_at_call 118; (with_reducible refine (F84.c a0 t0 _ A3.1).mono ?_); rintro e w4 ⟨rfl, hb⟩; replace HB := sqS (sqB HB) hb))
  go_ret
  exact ⟨Z14, sqB HB⟩
 rw [if_neg c2] at H
 have c2b0 : decide ((a0.size : Int) ≤ 40) = false := decide_eq_false c2
 have c2b1 : decide (a0.size ≤ 40) = false := decide_eq_false (by omega)
 clear c2
 obtain rfl := sqo H
 go_enter func71, ntmps71
 go_wp2
 go_ret
 exact ⟨Z14, sqB HB⟩

def F56.f (k : Nat) (a0_0 : Int) (a0_1 : Int) (a1 : Int) : Option (Int × Int × Bool) := (F2.f k (wrap64 (a0_0 + (wrap64 (a1 * a0_1)))) a0_1).bind fun t0 => (if t0 = true then (some (wrap64 (a0_0 + (wrap64 (a1 * a0_1))), a0_1, true)) else (some (0, 0, false)))
theorem F56.m : ∀ a0 a1 a2 k, LeO (F56.f k a0 a1 a2) (F56.f (k + 1) a0 a1 a2) := by
 intro a0 a1 a2 k
 unfold F56.f
 repeat' (with_reducible first | exact F2.m _ _ _ | exact LeO.refl _ | exact LeO.none _ | refine LeO.ite ?_ ?_ | refine LeO.bind ?_ fun _ => ?_)
theorem F56.c (k : Nat) (a0_0 : Int) (a0_1 : Int) (a1 : Int) (r1 : Int) (r2 : Int) (r3 : Bool) (w : World) (H : F56.f k a0_0 a0_1 a1 = some (r1, r2, r3)) :
  Calls prog 119 #[.agg #[.int .i64 a0_0, .int .i64 a0_1], .int .i64 a1] w fun e w' => e = .returned (.tuple #[.agg #[.int .i64 r1, .int .i64 r2], .bool r3]) ∧ Below w.heap.size w w' := by
 have hu31 := underlying31
 have HB := sqh w
 unfold F56.f at H
 obtain ⟨t0, A3, H⟩ := sqD H
 by_cases c4 : t0 = true
 ·subst c4
  rw [if_pos rfl] at H
  obtain ⟨rfl, rfl, rfl⟩ := sqO3 H
  go_enter func119, ntmps119
  go_wp2_with (first | ((with_reducible refine sqd 2 rfl ?_); refine sqBx w (sqB HB) (cs := #[.int .i64 a0_0, .int .i64 a0_1]) (t := 31) ?_; intro g0 hg w5 B0 E0 HB hb; clear hb hg) | ((with_reducible refine sqd 4 rfl ?_); refine sqBx w (sqB1 HB E0) (cs := #[.int .i64 0, .int .i64 0]) (t := 31) ?_; intro g1 hg w6 B2 E1 HB hb; obtain ⟨N0, N1⟩ := sqM hg B0; replace B0 := sqT B0 hb; clear hb hg; have := sqn2 N0 N1; have := sqY2 B0) | ((with_reducible refine sqc 70 rfl ?_); refine sqC (some 15) func70 #[.agg #[.int .i64 (wrap64 (a0_0 + (wrap64 (a1 * a0_1)))), .int .i64 a0_1]] ?_; (with_reducible refine (F2.c k (wrap64 (a0_0 + (wrap64 (a1 * a0_1)))) a0_1 true _ A3.1).mono ?_); refine sqV fun w9 hb => ?_; replace B0 := sqa (blk_below (g := g0) (o := .cells #[.int .i64 (wrap64 (a0_0 + (wrap64 (a1 * a0_1)))), .int .i64 a0_1] 31 (0, 0)) (by refine sqPut (cs := #[.int .i64 a0_0, .int .i64 a0_1]) ?_ 0; exact sqK B0) hb); replace B2 := sqH N1 B2 hb; replace HB := sqS (sqB2 HB E0 E1) hb; have hcz0 : w9.cell? ⟨g0, 0, none⟩ = some (.int .i64 (wrap64 (a0_0 + (wrap64 (a1 * a0_1))))) := (blk_cell B0.1 0).trans rfl; have hcz1 := sqZ B0 1 (.int .i64 a0_1); have hfz0 := blk_frozen B0.1 0; have hfz1 := blk_frozen B0.1 1; have := sqY2 B2))
  refine sqE g1 31 #[.int .i64 (wrap64 (a0_0 + (wrap64 (a1 * a0_1)))), .int .i64 a0_1] (Z36 B2) underlying31 ?_
  exact ⟨Z14, sqB2 HB E0 E1⟩
 obtain rfl := sqb c4
 rw [if_neg sqF] at H
 obtain ⟨rfl, rfl, rfl⟩ := sqO3 H
 go_enter func119, ntmps119
 go_wp2_with (first | ((with_reducible refine sqd 2 rfl ?_); refine sqBx w (sqB HB) (cs := #[.int .i64 a0_0, .int .i64 a0_1]) (t := 31) ?_; intro g0 hg w0 B0 E0 HB hb; clear hb hg) | ((with_reducible refine sqd 4 rfl ?_); refine sqBx w (sqB1 HB E0) (cs := #[.int .i64 0, .int .i64 0]) (t := 31) ?_; intro g1 hg w1 B2 E1 HB hb; obtain ⟨N0, N1⟩ := sqM hg B0; replace B0 := sqT B0 hb; clear hb hg; have := sqn2 N0 N1; have := sqY2 B0) | ((with_reducible refine sqc 70 rfl ?_); refine sqC (some 15) func70 #[.agg #[.int .i64 (wrap64 (a0_0 + (wrap64 (a1 * a0_1)))), .int .i64 a0_1]] ?_; (with_reducible refine (F2.c k (wrap64 (a0_0 + (wrap64 (a1 * a0_1)))) a0_1 false _ A3.1).mono ?_); refine sqV fun w2 hb => ?_; replace B0 := sqa (blk_below (g := g0) (o := .cells #[.int .i64 (wrap64 (a0_0 + (wrap64 (a1 * a0_1)))), .int .i64 a0_1] 31 (0, 0)) (by refine sqPut (cs := #[.int .i64 a0_0, .int .i64 a0_1]) ?_ 0; exact sqK B0) hb); replace B2 := sqH N1 B2 hb; replace HB := sqS (sqB2 HB E0 E1) hb; have := sqY2 B2))
 refine sqE g1 31 #[.int .i64 0, .int .i64 0] (Z37 B2) underlying31 ?_
 exact ⟨Z14, sqB2 HB E0 E1⟩

def F49.f (k : Nat) (a0 : Int) (a1 : Int) : Option (Int × Int) := (F14.f k a0 a1).bind fun t428 => (if a1 < 0 then (if (wrap64 (-t428)) = 0 then (none) else (some (wrap64 (Int.tdiv a0 (wrap64 (-t428))), wrap64 (Int.tdiv a1 (wrap64 (-t428)))))) else (if a1 = 0 then (if a0 < 0 then (if (wrap64 (-t428)) = 0 then (none) else (some (wrap64 (Int.tdiv a0 (wrap64 (-t428))), wrap64 (Int.tdiv a1 (wrap64 (-t428)))))) else (if t428 = 0 then (none) else (some (wrap64 (Int.tdiv a0 t428), wrap64 (Int.tdiv a1 t428))))) else (if t428 = 0 then (none) else (some (wrap64 (Int.tdiv a0 t428), wrap64 (Int.tdiv a1 t428))))))
theorem F49.m : ∀ a0 a1 k, LeO (F49.f k a0 a1) (F49.f (k + 1) a0 a1) := by
 intro a0 a1 k
 unfold F49.f
 repeat' (with_reducible first | exact F14.m _ _ _ | exact LeO.refl _ | exact LeO.none _ | refine LeO.ite ?_ ?_ | refine LeO.bind ?_ fun _ => ?_)
def F49.T4 : Bool × List (List Nat × List Nat) := (true, [([], []), ([], []), ([0, 1], [0, 1]), ([], []), ([], []), ([3, 4], [3, 4]), ([2, 5], [2, 5]), ([6, 0, 1, 2, 3, 4, 5, 6], [6])])
def F49.B4 : List Nat := [0, 0, 3, 0, 0, 24, 63, 127]
theorem F49.tab4 : rtab .any (opsOf f120 4) = F49.T4 := by kernel_rfl
theorem F49.bits4 : waitsOk F49.T4.2 F49.B4 = true := by kernel_rfl
theorem F49.c (k : Nat) (a0 : Int) (a1 : Int) (r1 : Int) (r2 : Int) (w : World) (H : F49.f k a0 a1 = some (r1, r2)) :
  Calls prog 120 #[.int .i64 a0, .int .i64 a1] w fun e w' => e = .returned (.agg #[.int .i64 r1, .int .i64 r2]) ∧ Below w.heap.size w w' := by
 have hu31 := underlying31
 have HB := sqh w
 unfold F49.f at H
 obtain ⟨t428, A3, H⟩ := sqD H
 by_cases c4 : a1 < 0
 ·rw [if_pos c4] at H
  have c4b0 : decide (a1 < 0) = true := decide_eq_true c4
  clear c4
  by_cases c5 : (wrap64 (-t428)) = 0
  ·rw [if_pos c5] at H
   exact absurd H (by simp)
  rw [if_neg c5] at H
  have c5b0 : ((wrap64 (-t428)) == 0) = false := sqe0 c5
  have c5b1 : ((wrap64 (-t428)) != 0) = true := sqn1 c5
  obtain ⟨rfl, rfl⟩ := sqO2 H
  go_enter func120, ntmps120
  try go_wp2_with (first | ((with_reducible refine sqd 4 rfl ?_); refine sqBx w (sqB HB) (cs := #[.int .i64 0, .int .i64 0]) (t := 31) ?_; intro g0 hg w6 B0 E0 HB hb; clear hb hg) | ((with_reducible refine sqc 117 rfl ?_); refine sqC (some 8) func117 #[.int .i64 a0, .int .i64 a1] ?_; (with_reducible refine (F14.c k a0 a1 t428 _ A3.1).mono ?_); refine sqV fun w7 hb => ?_; replace B0 := sqT B0 hb; replace HB := sqS (sqB1 HB E0) hb))
  replace B0 := sqa (blk_drew B0.1)
  replace HB := sqa (below_drew1 HB.1)
  refine start_ (n := 8) (S := fun w' => True) (ds := []) #[false, false, false, false, false, false, false, false] (by kernel_rfl) rfl rfl trivial (fun hHeld => ?_); refine with_tabW F49.tab4 F49.bits4 (fun HT_ HW_ => ?_)
  generalize w7.drew = w8 at B0 HB hHeld ⊢
  refine sqP 0 (some 21) (h := ?_)
  refine sqP 1 (some 22) (h := ?_)
  refine sqP 2 (some 23) (h := ?_)
  refine sqP 3 (some 24) (h := ?_)
  refine sqP 4 (some 25) (h := ?_)
  refine sqP 5 (some 26) (h := ?_)
  refine sqP 6 (some 27) (h := ?_)
  refine sq1 7 none (h := fun K hK => ?_)
  have := sqY2 B0
  refine skip_ (w1 := ?_) (by rfl) rfl ?_ ?_
  rotate_left
  ·go_simp
   rfl
  refine hK.out _ _ trivial (fun hHeld => ?_)
  clear hK K
  refine done_ (done_of HT_.out (by kernel_rfl)) ?_
  try go_wp2
  refine sqEr g0 31 #[.int .i64 (wrap64 (Int.tdiv a0 (wrap64 (-t428)))), .int .i64 (wrap64 (Int.tdiv a1 (wrap64 (-t428))))] (Z38 B0) underlying31 ?_
  exact ⟨Z14, sqB1 HB E0⟩
 rw [if_neg c4] at H
 have c4b0 : decide (a1 < 0) = false := decide_eq_false c4
 clear c4
 by_cases c0 : a1 = 0
 ·rw [if_pos c0] at H
  have c1 := sqe1 c0
  have c2 := sqn0 c0
  clear c0
  by_cases c3 : a0 < 0
  ·rw [if_pos c3] at H
   have c6 : decide (a0 < 0) = true := decide_eq_true c3
   clear c3
   by_cases c7 : (wrap64 (-t428)) = 0
   ·rw [if_pos c7] at H
    exact absurd H (by simp)
   rw [if_neg c7] at H
   have c8 := sqe0 c7
   have c9 := sqn1 c7
   obtain ⟨rfl, rfl⟩ := sqO2 H
   go_enter func120, ntmps120
   try go_wp2_with (first | ((with_reducible refine sqd 4 rfl ?_); refine sqBx w (sqB HB) (cs := #[.int .i64 0, .int .i64 0]) (t := 31) ?_; intro g0 hg w0 B0 E0 HB hb; clear hb hg) | ((with_reducible refine sqc 117 rfl ?_); refine sqC (some 8) func117 #[.int .i64 a0, .int .i64 a1] ?_; (with_reducible refine (F14.c k a0 a1 t428 _ A3.1).mono ?_); refine sqV fun w2 hb => ?_; replace B0 := sqT B0 hb; replace HB := sqS (sqB1 HB E0) hb))
   replace B0 := sqa (blk_drew B0.1)
   replace HB := sqa (below_drew1 HB.1)
   refine start_ (n := 8) (S := fun w' => True) (ds := []) #[false, false, false, false, false, false, false, false] (by kernel_rfl) rfl rfl trivial (fun hHeld => ?_); refine with_tabW F49.tab4 F49.bits4 (fun HT_ HW_ => ?_)
   generalize w2.drew = w3 at B0 HB hHeld ⊢
   refine sqP 0 (some 21) (h := ?_)
   refine sqP 1 (some 22) (h := ?_)
   refine sqP 2 (some 23) (h := ?_)
   refine sqP 3 (some 24) (h := ?_)
   refine sqP 4 (some 25) (h := ?_)
   refine sqP 5 (some 26) (h := ?_)
   refine sqP 6 (some 27) (h := ?_)
   refine sq1 7 none (h := fun K hK => ?_)
   have := sqY2 B0
   refine skip_ (w1 := ?_) (by rfl) rfl ?_ ?_
   rotate_left
   ·go_simp
    rfl
   refine hK.out _ _ trivial (fun hHeld => ?_)
   clear hK K
   refine done_ (done_of HT_.out (by kernel_rfl)) ?_
   try go_wp2
   refine sqEr g0 31 #[.int .i64 (wrap64 (Int.tdiv a0 (wrap64 (-t428)))), .int .i64 (wrap64 (Int.tdiv a1 (wrap64 (-t428))))] (Z38 B0) underlying31 ?_
   exact ⟨Z14, sqB1 HB E0⟩
  rw [if_neg c3] at H
  have c6 : decide (a0 < 0) = false := decide_eq_false c3
  clear c3
  by_cases c19 : t428 = 0
  ·rw [if_pos c19] at H
   exact absurd H (by simp)
  rw [if_neg c19] at H
  have c14 := sqe0 c19
  have c15 := sqn1 c19
  obtain ⟨rfl, rfl⟩ := sqO2 H
  go_enter func120, ntmps120
  try go_wp2_with (first | ((with_reducible refine sqd 4 rfl ?_); refine sqBx w (sqB HB) (cs := #[.int .i64 0, .int .i64 0]) (t := 31) ?_; intro g0 hg w4 B0 E0 HB hb; clear hb hg) | ((with_reducible refine sqc 117 rfl ?_); refine sqC (some 8) func117 #[.int .i64 a0, .int .i64 a1] ?_; (with_reducible refine (F14.c k a0 a1 t428 _ A3.1).mono ?_); refine sqV fun w5 hb => ?_; replace B0 := sqT B0 hb; replace HB := sqS (sqB1 HB E0) hb))
  replace B0 := sqa (blk_drew B0.1)
  replace HB := sqa (below_drew1 HB.1)
  refine start_ (n := 8) (S := fun w' => True) (ds := []) #[false, false, false, false, false, false, false, false] (by kernel_rfl) rfl rfl trivial (fun hHeld => ?_); refine with_tabW F49.tab4 F49.bits4 (fun HT_ HW_ => ?_)
  generalize w5.drew = w9 at B0 HB hHeld ⊢
  refine sqP 0 (some 21) (h := ?_)
  refine sqP 1 (some 22) (h := ?_)
  refine sqP 2 (some 23) (h := ?_)
  refine sqP 3 (some 24) (h := ?_)
  refine sqP 4 (some 25) (h := ?_)
  refine sqP 5 (some 26) (h := ?_)
  refine sqP 6 (some 27) (h := ?_)
  refine sq1 7 none (h := fun K hK => ?_)
  have := sqY2 B0
  refine skip_ (w1 := ?_) (by rfl) rfl ?_ ?_
  rotate_left
  ·go_simp
   rfl
  refine hK.out _ _ trivial (fun hHeld => ?_)
  clear hK K
  refine done_ (done_of HT_.out (by kernel_rfl)) ?_
  try go_wp2
  refine sqEr g0 31 #[.int .i64 (wrap64 (Int.tdiv a0 t428)), .int .i64 (wrap64 (Int.tdiv a1 t428))] (Z39 B0) underlying31 ?_
  exact ⟨Z14, sqB1 HB E0⟩
 rw [if_neg c0] at H
 have c1 := sqe0 c0
 have c2 := sqn1 c0
 by_cases c25 : t428 = 0
 ·rw [if_pos c25] at H
  exact absurd H (by simp)
 rw [if_neg c25] at H
 have c17 := sqe0 c25
 have c18 := sqn1 c25
 obtain ⟨rfl, rfl⟩ := sqO2 H
 go_enter func120, ntmps120
 try go_wp2_with (first | ((with_reducible refine sqd 4 rfl ?_); refine sqBx w (sqB HB) (cs := #[.int .i64 0, .int .i64 0]) (t := 31) ?_; intro g0 hg w26 B0 E0 HB hb; clear hb hg) | ((with_reducible refine sqc 117 rfl ?_); refine sqC (some 8) func117 #[.int .i64 a0, .int .i64 a1] ?_; (with_reducible refine (F14.c k a0 a1 t428 _ A3.1).mono ?_); refine sqV fun w27 hb => ?_; replace B0 := sqT B0 hb; replace HB := sqS (sqB1 HB E0) hb))
 replace B0 := sqa (blk_drew B0.1)
 replace HB := sqa (below_drew1 HB.1)
 refine start_ (n := 8) (S := fun w' => True) (ds := []) #[false, false, false, false, false, false, false, false] (by kernel_rfl) rfl rfl trivial (fun hHeld => ?_); refine with_tabW F49.tab4 F49.bits4 (fun HT_ HW_ => ?_)
 generalize w27.drew = w28 at B0 HB hHeld ⊢
 refine sqP 0 (some 21) (h := ?_)
 refine sqP 1 (some 22) (h := ?_)
 refine sqP 2 (some 23) (h := ?_)
 refine sqP 3 (some 24) (h := ?_)
 refine sqP 4 (some 25) (h := ?_)
 refine sqP 5 (some 26) (h := ?_)
 refine sqP 6 (some 27) (h := ?_)
 refine sq1 7 none (h := fun K hK => ?_)
 have := sqY2 B0
 refine skip_ (w1 := ?_) (by rfl) rfl ?_ ?_
 rotate_left
 ·go_simp
  rfl
 refine hK.out _ _ trivial (fun hHeld => ?_)
 clear hK K
 refine done_ (done_of HT_.out (by kernel_rfl)) ?_
 try go_wp2
 refine sqEr g0 31 #[.int .i64 (wrap64 (Int.tdiv a0 t428)), .int .i64 (wrap64 (Int.tdiv a1 t428))] (Z39 B0) underlying31 ?_
 exact ⟨Z14, sqB1 HB E0⟩
def F31.l0 : Nat → ByteArray → Int → Int → Int → Int → Option (Int × Int × Bool)
 | 0, _, _, _, _, _ => none
 | k + 1, x1, x9, x0, x2, x3 => if x0 < x9 then (if 0 ≤ x0 then (if x0 < (x1.size : Int) then (if (bt x1 x0) = 84 then ((F56.f k x2 x3 1).bind fun bt0 => (if bt0.2.2 = true then (F31.l0 k x1 x9 (wrap64 (x0 + 1)) bt0.1 bt0.2.1) else (some (0, 0, false)))) else (if (bt x1 x0) = 116 then ((F56.f k x2 x3 (-1)).bind fun bt1 => (if bt1.2.2 = true then (F31.l0 k x1 x9 (wrap64 (x0 + 1)) bt1.1 bt1.2.1) else (some (0, 0, false)))) else ((F49.f k (wrap64 (-x3)) x2).bind fun bt2 => (F31.l0 k x1 x9 (wrap64 (x0 + 1)) bt2.1 bt2.2)))) else (none)) else (none)) else (some (x2, x3, true))
def F31.f (k : Nat) (a0_0 : Int) (a0_1 : Int) (a1 : ByteArray) : Option (Int × Int × Bool) := F31.l0 k a1 (a1.size : Int) 0 a0_0 a0_1
abbrev F31.M (k : Nat) : Prop := (∀ y0 y1 y2 y3 y4, LeO (F31.l0 k y0 y1 y2 y3 y4) (F31.l0 (k + 1) y0 y1 y2 y3 y4))
theorem F31.mt : ∀ k, F31.M k → F31.M (k + 1) ∧ ∀ a0 a1 a2, LeO (F31.f k a0 a1 a2) (F31.f (k + 1) a0 a1 a2) := by
  rintro k ih0
  refine ⟨?_, ?_⟩ <;> (try unfold F31.M) <;> intros <;> (first | unfold F31.l0 | unfold F31.f) <;> repeat' (with_reducible first | exact ih0 _ _ _ _ _ | exact F49.m _ _ _ | exact F56.m _ _ _ _ | exact LeO.refl _ | exact LeO.none _ | refine LeO.ite ?_ ?_ | refine LeO.bind ?_ fun _ => ?_)
theorem F31.ml : ∀ k, F31.M k
 | 0 => fun _ _ _ _ _ r h => by simp [F31.l0] at h
 | k + 1 => (F31.mt k (F31.ml k)).1
theorem F31.m a0 a1 a2 k : LeO (F31.f k a0 a1 a2) (F31.f (k + 1) a0 a1 a2) := (F31.mt k (F31.ml k)).2 a0 a1 a2
theorem F31.c (k : Nat) (a0_0 : Int) (a0_1 : Int) (a1 : ByteArray) (r1 : Int) (r2 : Int) (r3 : Bool) (w : World) (H : F31.f k a0_0 a0_1 a1 = some (r1, r2, r3)) :
  Calls prog 72 #[.agg #[.int .i64 a0_0, .int .i64 a0_1], .string a1] w fun e w' => e = .returned (.tuple #[.agg #[.int .i64 r1, .int .i64 r2], .bool r3]) ∧ Below w.heap.size w w' := by
 have hu31 := underlying31
 have HB := sqh w
 unfold F31.f at H
 have H' := sqa H
 clear H
 go_enter func72, ntmps72
 go_wp2_with (first | ((with_reducible refine sqd 2 rfl ?_); refine sqBx w (sqB HB) (cs := #[.int .i64 a0_0, .int .i64 a0_1]) (t := 31) ?_; intro g0 hg w3 B0 E0 HB hb; clear hb hg) | ((with_reducible refine sqd 4 rfl ?_); refine sqBx w (sqB1 HB E0) (cs := #[.int .i64 0, .int .i64 0]) (t := 31) ?_; intro g1 hg w4 B2 E1 HB hb; obtain ⟨N0, N1⟩ := sqM hg B0; replace B0 := sqT B0 hb; clear hb hg))
 go_loopg [10] k (fun kq v0 w' => ∃ (x0 : Int) (x1 : Int) (x2 : Int) (x431000_1 : Int) (x431001_1 : Int), v0 = .int .i64 x0 ∧ Aside0 (F31.l0 kq a1 (a1.size : Int) x0 x1 x2 = some (r1, r2, r3)) ∧ Aside0 (kq ≤ k) ∧ Aside0 (w'.heap[g0]? = some (.cells #[.int .i64 x1, .int .i64 x2] 31 (0, 0))) ∧ Aside0 (w'.heap[g1]? = some (.cells #[.int .i64 x431000_1, .int .i64 x431001_1] 31 (0, 0))) ∧ Aside0 (Below w.heap.size w w'))
 case atStart => exact ⟨(0), (a0_0), (a0_1), (0), (0), Z2, H', ⟨Nat.le_refl _⟩, ⟨sqK B0⟩, ⟨sqK B2⟩, ⟨sqB2 HB E0 E1⟩⟩
 case round =>
  clear H'
  obtain ⟨x0, x1, x2, x431000_1, x431001_1, rfl, HA, HK1, B0, B2, HB⟩ := hrel
  cases gk with
  | zero => exact absurd HA.out (by simp [F31.l0])
  | succ k1 =>
   have H := HA.out
   clear HA
   simp only [F31.l0] at H
   by_cases c5 : x0 < (a1.size : Int)
   ·rw [if_pos c5] at H
    have c5b0 : decide (x0 < (a1.size : Int)) = true := decide_eq_true c5
    clear c5
    obtain ⟨c6, H⟩ := sqI H
    have c6b0 : decide (0 ≤ x0) = true := decide_eq_true c6
    clear c6
    obtain ⟨c7, H⟩ := sqI H
    have c7b0 : decide (x0 < (a1.size : Int)) = true := decide_eq_true c7
    clear c7
    by_cases c9 : (bt a1 x0) = 84
    ·rw [if_pos c9] at H
     have c9b0 : ((bt a1 x0) == 84) = true := sqe1 c9
     have c9b1 : ((bt a1 x0) != 84) = false := sqn0 c9
     clear c9
     obtain ⟨⟨t0, t1, t2⟩, A0, H⟩ := sqD H
     try dsimp only at H
     by_cases c0 : t2 = true
     ·subst c0
      rw [if_pos rfl] at H
      have H' := sqa H
      clear H
      have p8 : 0 ≤ (x0 : Int) := of_decide_eq_true Z7
      have q8 : x0 < (a1.size : Int) := of_decide_eq_true Z7
      have hx8 := bt_at a1 x0
      replace p8 := eq_true p8
      replace q8 := eq_true q8
      have := sqn2 N0 N1
      have := sqY2 B0
      go_wp2_with (first | ((with_reducible refine sqc 119 rfl ?_); refine sqC (some 26) func119 #[.agg #[.int .i64 x1, .int .i64 x2], .int .i64 1] ?_; (with_reducible refine (F56.c k1 x1 x2 1 t0 t1 true _ A0.1).mono ?_); refine sqV fun w0 hb => ?_; obtain ⟨B0, B2⟩ := sqT2 hb B0 B2; replace HB := sqS (sqB2 HB E0 E1) hb; have := sqY2 B0))
      go_roundg k1
      case measure => have := HK1.out; omega
      case rel => exact ⟨(wrap64 (x0 + 1)), (t0), (t1), (x431000_1), (x431001_1), Z2, H', ⟨Z15 HK1⟩, ⟨by refine sqPut (cs := #[.int .i64 t0, .int .i64 x2]) ?_ 1; refine sqPut (cs := #[.int .i64 x1, .int .i64 x2]) ?_ 0; exact sqK B0⟩, ⟨Z9 N1 B2⟩, ⟨sqB2 HB E0 E1⟩⟩
     obtain rfl := sqb c0
     rw [if_neg sqF] at H
     obtain ⟨rfl, rfl, rfl⟩ := sqO3 H
     have p8 : 0 ≤ (x0 : Int) := of_decide_eq_true Z7
     have q8 : x0 < (a1.size : Int) := of_decide_eq_true Z7
     have hx8 := bt_at a1 x0
     replace p8 := eq_true p8
     replace q8 := eq_true q8
     have := sqn2 N0 N1
     have := sqY2 B0
     go_wp2_with (first | ((with_reducible refine sqc 119 rfl ?_); refine sqC (some 26) func119 #[.agg #[.int .i64 x1, .int .i64 x2], .int .i64 1] ?_; (with_reducible refine (F56.c k1 x1 x2 1 t0 t1 false _ A0.1).mono ?_); refine sqV fun w1 hb => ?_; obtain ⟨B0, B2⟩ := sqT2 hb B0 B2; replace HB := sqS (sqB2 HB E0 E1) hb; have := sqY2 B0; have := sqY2 B2))
     refine sqE g1 31 #[.int .i64 0, .int .i64 0] (Z78 N1 B2) underlying31 ?_
     exact ⟨Z14, sqB2 HB E0 E1⟩
    rw [if_neg c9] at H
    have c9b0 : ((bt a1 x0) == 84) = false := sqe0 c9
    have c9b1 : ((bt a1 x0) != 84) = true := sqn1 c9
    by_cases c21 : (bt a1 x0) = 116
    ·rw [if_pos c21] at H
     have c1 := sqe1 c21
     have c2 := sqn0 c21
     clear c21
     obtain ⟨⟨t3, t4, t5⟩, A1, H⟩ := sqD H
     try dsimp only at H
     by_cases c3 : t5 = true
     ·subst c3
      rw [if_pos rfl] at H
      have H' := sqa H
      clear H
      have p8 : 0 ≤ (x0 : Int) := of_decide_eq_true Z7
      have q8 : x0 < (a1.size : Int) := of_decide_eq_true Z7
      have hx8 := bt_at a1 x0
      replace p8 := eq_true p8
      replace q8 := eq_true q8
      have := sqn2 N0 N1
      have := sqY2 B0
      go_wp2_with (first | ((with_reducible refine sqc 119 rfl ?_); refine sqC (some 33) func119 #[.agg #[.int .i64 x1, .int .i64 x2], .int .i64 (-1)] ?_; (with_reducible refine (F56.c k1 x1 x2 (-1) t3 t4 true _ A1.1).mono ?_); refine sqV fun w2 hb => ?_; obtain ⟨B0, B2⟩ := sqT2 hb B0 B2; replace HB := sqS (sqB2 HB E0 E1) hb; have := sqY2 B0))
      go_roundg k1
      case measure => have := HK1.out; omega
      case rel => exact ⟨(wrap64 (x0 + 1)), (t3), (t4), (x431000_1), (x431001_1), Z2, H', ⟨Z15 HK1⟩, ⟨by refine sqPut (cs := #[.int .i64 t3, .int .i64 x2]) ?_ 1; refine sqPut (cs := #[.int .i64 x1, .int .i64 x2]) ?_ 0; exact sqK B0⟩, ⟨Z9 N1 B2⟩, ⟨sqB2 HB E0 E1⟩⟩
     obtain rfl := sqb c3
     rw [if_neg sqF] at H
     obtain ⟨rfl, rfl, rfl⟩ := sqO3 H
     have p8 : 0 ≤ (x0 : Int) := of_decide_eq_true Z7
     have q8 : x0 < (a1.size : Int) := of_decide_eq_true Z7
     have hx8 := bt_at a1 x0
     replace p8 := eq_true p8
     replace q8 := eq_true q8
     have := sqn2 N0 N1
     have := sqY2 B0
     go_wp2_with (first | ((with_reducible refine sqc 119 rfl ?_); refine sqC (some 33) func119 #[.agg #[.int .i64 x1, .int .i64 x2], .int .i64 (-1)] ?_; (with_reducible refine (F56.c k1 x1 x2 (-1) t3 t4 false _ A1.1).mono ?_); refine sqV fun w5 hb => ?_; obtain ⟨B0, B2⟩ := sqT2 hb B0 B2; replace HB := sqS (sqB2 HB E0 E1) hb; have := sqY2 B0; have := sqY2 B2))
     refine sqE g1 31 #[.int .i64 0, .int .i64 0] (Z78 N1 B2) underlying31 ?_
     exact ⟨Z14, sqB2 HB E0 E1⟩
    rw [if_neg c21] at H
    have c1 := sqe0 c21
    have c2 := sqn1 c21
    obtain ⟨⟨t6, t7⟩, A2, H⟩ := sqD H
    try dsimp only at H
    have H' := sqa H
    clear H
    have p8 : 0 ≤ (x0 : Int) := of_decide_eq_true Z7
    have q8 : x0 < (a1.size : Int) := of_decide_eq_true Z7
    have hx8 := bt_at a1 x0
    replace p8 := eq_true p8
    replace q8 := eq_true q8
    have := sqn2 N0 N1
    have := sqY2 B0
    go_wp2_with (first | ((with_reducible refine sqc 120 rfl ?_); refine sqC (some 21) func120 #[.int .i64 (wrap64 (-x2)), .int .i64 x1] ?_; (with_reducible refine (F49.c k1 (wrap64 (-x2)) x1 t6 t7 _ A2.1).mono ?_); refine sqV fun w6 hb => ?_; obtain ⟨B0, B2⟩ := sqT2 hb B0 B2; replace HB := sqS (sqB2 HB E0 E1) hb; have := sqY2 B0))
    go_roundg k1
    case measure => have := HK1.out; omega
    case rel => exact ⟨(wrap64 (x0 + 1)), (t6), (t7), (x431000_1), (x431001_1), Z2, H', ⟨Z15 HK1⟩, ⟨by refine sqPut (cs := #[.int .i64 t6, .int .i64 x2]) ?_ 1; refine sqPut (cs := #[.int .i64 x1, .int .i64 x2]) ?_ 0; exact sqK B0⟩, ⟨Z9 N1 B2⟩, ⟨sqB2 HB E0 E1⟩⟩
   rw [if_neg c5] at H
   have c5b0 : decide (x0 < (a1.size : Int)) = false := decide_eq_false c5
   clear c5
   obtain ⟨rfl, rfl, rfl⟩ := sqO3 H
   have := sqn2 N0 N1
   have := sqY2 B0
   have := sqY2 B2
   go_wp2
   refine sqE g1 31 #[.int .i64 x1, .int .i64 x2] (by refine sqPut (cs := #[.int .i64 x1, .int .i64 x431001_1]) ?_ 1; refine sqPut (cs := #[.int .i64 x431000_1, .int .i64 x431001_1]) ?_ 0; exact sqK B2) underlying31 ?_
   exact ⟨Z14, sqB2 HB E0 E1⟩

def F69.f (k : Nat) (a0_0 : Int) (a0_1 : Int) (a1 : ByteArray) : Option (Int × Int × Bool) := (F2.f k a0_0 a0_1).bind fun t0 => (if t0 = true then ((F73.f a1).bind fun t1 => (if t1 = true then ((F31.f k a0_0 a0_1 a1).bind fun bt0 => (some (bt0.1, bt0.2.1, bt0.2.2))) else (some (0, 0, false)))) else (some (0, 0, false)))
theorem F69.m : ∀ a0 a1 a2 k, LeO (F69.f k a0 a1 a2) (F69.f (k + 1) a0 a1 a2) := by
 intro a0 a1 a2 k
 unfold F69.f
 repeat' (with_reducible first | exact F31.m _ _ _ _ | exact F2.m _ _ _ | exact LeO.refl _ | exact LeO.none _ | refine LeO.ite ?_ ?_ | refine LeO.bind ?_ fun _ => ?_)
theorem F69.c (k : Nat) (a0_0 : Int) (a0_1 : Int) (a1 : ByteArray) (r1 : Int) (r2 : Int) (r3 : Bool) (w : World) (H : F69.f k a0_0 a0_1 a1 = some (r1, r2, r3)) :
  Calls prog 25 #[.agg #[.int .i64 a0_0, .int .i64 a0_1], .string a1] w fun e w' => e = .returned (.tuple #[.agg #[.int .i64 r1, .int .i64 r2], .bool r3]) ∧ Below w.heap.size w w' := by
 have hu31 := underlying31
 have HB := sqh w
 unfold F69.f at H
 obtain ⟨t0, A3, H⟩ := sqD H
 by_cases c4 : t0 = true
 ·subst c4
  rw [if_pos rfl] at H
  obtain ⟨t1, A5, H⟩ := sqD H
  by_cases c6 : t1 = true
  ·subst c6
   rw [if_pos rfl] at H
   obtain ⟨⟨t2, t3, t4⟩, A7, H⟩ := sqD H
   try dsimp only at H
   obtain ⟨rfl, rfl, rfl⟩ := sqO3 H
   go_enter func25, ntmps25
   go_wp2_with (first | ((with_reducible refine sqd 2 rfl ?_); refine sqBx w (sqB HB) (cs := #[.int .i64 a0_0, .int .i64 a0_1]) (t := 31) ?_; intro g0 hg w8 B0 E0 HB hb; clear hb hg) | ((with_reducible refine sqd 4 rfl ?_); refine sqBx w (sqB1 HB E0) (cs := #[.int .i64 0, .int .i64 0]) (t := 31) ?_; intro g1 hg w9 B2 E1 HB hb; obtain ⟨N0, N1⟩ := sqM hg B0; replace B0 := sqT B0 hb; clear hb hg; have := sqn2 N0 N1; have := sqY2 B0) | ((with_reducible refine sqc 70 rfl ?_); refine sqC (some 7) func70 #[.agg #[.int .i64 a0_0, .int .i64 a0_1]] ?_; (with_reducible refine (F2.c k a0_0 a0_1 true _ A3.1).mono ?_); refine sqV fun w0 hb => ?_; obtain ⟨B0, B2⟩ := sqT2 hb B0 B2; replace HB := sqS (sqB2 HB E0 E1) hb) | (go_at_call 71; (with_reducible refine (F73.c a1 true _ A5.1).mono ?_); rintro e w1 ⟨rfl, hb⟩; obtain ⟨B0, B2⟩ := sqT2 hb B0 B2; replace HB := sqS (sqB2 HB E0 E1) hb; have := sqY2 B0) | ((with_reducible refine sqc 72 rfl ?_); refine sqC (some 17) func72 #[.agg #[.int .i64 a0_0, .int .i64 a0_1], .string a1] ?_; (with_reducible refine (F31.c k a0_0 a0_1 a1 t2 t3 t4 _ A7.1).mono ?_); refine sqV fun w2 hb => ?_; obtain ⟨B0, B2⟩ := sqT2 hb B0 B2; replace HB := sqS (sqB2 HB E0 E1) hb; have := sqY2 B2))
   refine sqE g1 31 #[.int .i64 t2, .int .i64 t3] (by refine sqPut (cs := #[.int .i64 t2, .int .i64 0]) ?_ 1; refine sqPut (cs := #[.int .i64 0, .int .i64 0]) ?_ 0; exact sqK B2) underlying31 ?_
   exact ⟨Z14, sqB2 HB E0 E1⟩
  obtain rfl := sqb c6
  rw [if_neg sqF] at H
  obtain ⟨rfl, rfl, rfl⟩ := sqO3 H
  go_enter func25, ntmps25
  go_wp2_with (first | ((with_reducible refine sqd 2 rfl ?_); refine sqBx w (sqB HB) (cs := #[.int .i64 a0_0, .int .i64 a0_1]) (t := 31) ?_; intro g0 hg w3 B0 E0 HB hb; clear hb hg) | ((with_reducible refine sqd 4 rfl ?_); refine sqBx w (sqB1 HB E0) (cs := #[.int .i64 0, .int .i64 0]) (t := 31) ?_; intro g1 hg w4 B2 E1 HB hb; obtain ⟨N0, N1⟩ := sqM hg B0; replace B0 := sqT B0 hb; clear hb hg; have := sqn2 N0 N1; have := sqY2 B0) | ((with_reducible refine sqc 70 rfl ?_); refine sqC (some 7) func70 #[.agg #[.int .i64 a0_0, .int .i64 a0_1]] ?_; (with_reducible refine (F2.c k a0_0 a0_1 true _ A3.1).mono ?_); refine sqV fun w5 hb => ?_; obtain ⟨B0, B2⟩ := sqT2 hb B0 B2; replace HB := sqS (sqB2 HB E0 E1) hb) | (go_at_call 71; (with_reducible refine (F73.c a1 false _ A5.1).mono ?_); rintro e w6 ⟨rfl, hb⟩; obtain ⟨B0, B2⟩ := sqT2 hb B0 B2; replace HB := sqS (sqB2 HB E0 E1) hb; have := sqY2 B2))
  refine sqE g1 31 #[.int .i64 0, .int .i64 0] (Z37 B2) underlying31 ?_
  exact ⟨Z14, sqB2 HB E0 E1⟩
 obtain rfl := sqb c4
 rw [if_neg sqF] at H
 obtain ⟨rfl, rfl, rfl⟩ := sqO3 H
 go_enter func25, ntmps25
 go_wp2_with (first | ((with_reducible refine sqd 2 rfl ?_); refine sqBx w (sqB HB) (cs := #[.int .i64 a0_0, .int .i64 a0_1]) (t := 31) ?_; intro g0 hg w7 B0 E0 HB hb; clear hb hg) | ((with_reducible refine sqd 4 rfl ?_); refine sqBx w (sqB1 HB E0) (cs := #[.int .i64 0, .int .i64 0]) (t := 31) ?_; intro g1 hg w25 B2 E1 HB hb; obtain ⟨N0, N1⟩ := sqM hg B0; replace B0 := sqT B0 hb; clear hb hg; have := sqn2 N0 N1; have := sqY2 B0) | ((with_reducible refine sqc 70 rfl ?_); refine sqC (some 7) func70 #[.agg #[.int .i64 a0_0, .int .i64 a0_1]] ?_; (with_reducible refine (F2.c k a0_0 a0_1 false _ A3.1).mono ?_); refine sqV fun w28 hb => ?_; obtain ⟨B0, B2⟩ := sqT2 hb B0 B2; replace HB := sqS (sqB2 HB E0 E1) hb; have := sqY2 B2))
 refine sqE g1 31 #[.int .i64 0, .int .i64 0] (Z37 B2) underlying31 ?_
 exact ⟨Z14, sqB2 HB E0 E1⟩

def F50.f (k : Nat) (a0_0 : Int) (a0_1 : Int) (a1 : Int) : Option (Bool) := (F2.f k a0_0 a0_1).bind fun t0 => (if t0 = true then (if a0_0 ≥ (wrap64 (-a1)) then (if a0_0 ≤ a1 then (some (decide (a0_1 ≤ a1))) else (some false)) else (some false)) else (some false))
theorem F50.m : ∀ a0 a1 a2 k, LeO (F50.f k a0 a1 a2) (F50.f (k + 1) a0 a1 a2) := by
 intro a0 a1 a2 k
 unfold F50.f
 repeat' (with_reducible first | exact F2.m _ _ _ | exact LeO.refl _ | exact LeO.none _ | refine LeO.ite ?_ ?_ | refine LeO.bind ?_ fun _ => ?_)
theorem F50.c (k : Nat) (a0_0 : Int) (a0_1 : Int) (a1 : Int) (r : Bool) (w : World) (H : F50.f k a0_0 a0_1 a1 = some r) :
  Calls prog 104 #[.agg #[.int .i64 a0_0, .int .i64 a0_1], .int .i64 a1] w fun e w' => e = .returned (.bool r) ∧ Below w.heap.size w w' := by
 have hu31 := underlying31
 have HB := sqh w
 unfold F50.f at H
 obtain ⟨t0, A3, H⟩ := sqD H
 by_cases c4 : t0 = true
 ·subst c4
  rw [if_pos rfl] at H
  by_cases c5 : a0_0 ≥ (wrap64 (-a1))
  ·rw [if_pos c5] at H
   have c5b0 : decide ((wrap64 (-a1)) ≤ a0_0) = true := decide_eq_true c5
   clear c5
   by_cases c6 : a0_0 ≤ a1
   ·rw [if_pos c6] at H
    have c6b0 : decide (a0_0 ≤ a1) = true := decide_eq_true c6
    clear c6
    obtain rfl := sqo H
    go_enter func104, ntmps104
    go_wp2_with (first | ((with_reducible refine sqd 2 rfl ?_); refine sqBx w (sqB HB) (cs := #[.int .i64 a0_0, .int .i64 a0_1]) (t := 31) ?_; intro g0 hg w7 B0 E0 HB hb; clear hb hg; have := sqY2 B0) | ((with_reducible refine sqc 70 rfl ?_); refine sqC (some 6) func70 #[.agg #[.int .i64 a0_0, .int .i64 a0_1]] ?_; (with_reducible refine (F2.c k a0_0 a0_1 true _ A3.1).mono ?_); refine sqV fun w9 hb => ?_; replace B0 := sqT B0 hb; replace HB := sqS (sqB1 HB E0) hb; have := sqY2 B0))
    go_ret
    exact ⟨Z14, sqB1 HB E0⟩
   rw [if_neg c6] at H
   have c6b0 : decide (a0_0 ≤ a1) = false := decide_eq_false c6
   clear c6
   obtain rfl := sqo H
   go_enter func104, ntmps104
   go_wp2_with (first | ((with_reducible refine sqd 2 rfl ?_); refine sqBx w (sqB HB) (cs := #[.int .i64 a0_0, .int .i64 a0_1]) (t := 31) ?_; intro g0 hg w0 B0 E0 HB hb; clear hb hg; have := sqY2 B0) | ((with_reducible refine sqc 70 rfl ?_); refine sqC (some 6) func70 #[.agg #[.int .i64 a0_0, .int .i64 a0_1]] ?_; (with_reducible refine (F2.c k a0_0 a0_1 true _ A3.1).mono ?_); refine sqV fun w1 hb => ?_; replace B0 := sqT B0 hb; replace HB := sqS (sqB1 HB E0) hb; have := sqY2 B0))
   go_ret
   exact ⟨Z14, sqB1 HB E0⟩
  rw [if_neg c5] at H
  have c5b0 : decide ((wrap64 (-a1)) ≤ a0_0) = false := decide_eq_false c5
  clear c5
  obtain rfl := sqo H
  go_enter func104, ntmps104
  go_wp2_with (first | ((with_reducible refine sqd 2 rfl ?_); refine sqBx w (sqB HB) (cs := #[.int .i64 a0_0, .int .i64 a0_1]) (t := 31) ?_; intro g0 hg w2 B0 E0 HB hb; clear hb hg; have := sqY2 B0) | ((with_reducible refine sqc 70 rfl ?_); refine sqC (some 6) func70 #[.agg #[.int .i64 a0_0, .int .i64 a0_1]] ?_; (with_reducible refine (F2.c k a0_0 a0_1 true _ A3.1).mono ?_); refine sqV fun w3 hb => ?_; replace B0 := sqT B0 hb; replace HB := sqS (sqB1 HB E0) hb; have := sqY2 B0))
  go_ret
  exact ⟨Z14, sqB1 HB E0⟩
 obtain rfl := sqb c4
 rw [if_neg sqF] at H
 obtain rfl := sqo H
 go_enter func104, ntmps104
 go_wp2_with (first | ((with_reducible refine sqd 2 rfl ?_); refine sqBx w (sqB HB) (cs := #[.int .i64 a0_0, .int .i64 a0_1]) (t := 31) ?_; intro g0 hg w4 B0 E0 HB hb; clear hb hg; have := sqY2 B0) | ((with_reducible refine sqc 70 rfl ?_); refine sqC (some 6) func70 #[.agg #[.int .i64 a0_0, .int .i64 a0_1]] ?_; (with_reducible refine (F2.c k a0_0 a0_1 false _ A3.1).mono ?_); refine sqV fun w5 hb => ?_; replace B0 := sqT B0 hb; replace HB := sqS (sqB1 HB E0) hb))
 go_ret
 exact ⟨Z14, sqB1 HB E0⟩

-- given: function 84 (strings_Cut)

-- given: function 144 (strconv_Itoa)

def F51.f (a0_0 : Int) (a0_1 : Int) : Option (ByteArray) := if a0_1 = 1 then ((strconv_Itoa.f a0_0).bind fun t0 => (some t0)) else ((strconv_Itoa.f a0_0).bind fun t1 => (if t1.size + 1 ≤ 9223372036854775807 then ((strconv_Itoa.f a0_1).bind fun t2 => (if (t1 ++ (⟨#[47]⟩ : ByteArray)).size + t2.size ≤ 9223372036854775807 then (some ((t1 ++ (⟨#[47]⟩ : ByteArray)) ++ t2)) else (none))) else (none)))
def F51.T3 : Bool × List (List Nat × List Nat) := (true, [([], []), ([0], [0]), ([1], [1]), ([2], [2]), ([], []), ([4], [4]), ([5, 2], [5]), ([3, 6], [3, 6]), ([7, 6, 0, 1, 2, 3, 4, 5, 6, 7], [7])])
def F51.B3 : List Nat := [0, 1, 3, 7, 0, 16, 55, 127, 255]
theorem F51.tab3 : rtab .any (opsOf f141 3) = F51.T3 := by kernel_rfl
theorem F51.bits3 : waitsOk F51.T3.2 F51.B3 = true := by kernel_rfl
theorem F51.c (a0_0 : Int) (a0_1 : Int) (r : ByteArray) (w : World) (hG : Glob w) (H : F51.f a0_0 a0_1 = some r) :
  Calls prog 141 #[.agg #[.int .i64 a0_0, .int .i64 a0_1]] w fun e w' => e = .returned (.string r) ∧ Below w.heap.size w w' := by
 have hu31 := underlying31
 have HB := sqh w
 unfold F51.f at H
 by_cases c2 : a0_1 = 1
 ·rw [if_pos c2] at H
  have c2b0 : (a0_1 == 1) = true := sqe1 c2
  have c2b1 : (a0_1 != 1) = false := sqn0 c2
  clear c2
  obtain ⟨t0, A3, H⟩ := sqD H
  obtain rfl := sqo H
  go_enter func141, ntmps141
  go_wp2_with (first | ((with_reducible refine sqd 1 rfl ?_); refine sqBx w (sqB HB) (cs := #[.int .i64 a0_0, .int .i64 a0_1]) (t := 31) ?_; intro g0 hg w4 B0 E0 HB hb; clear hb hg; have := sqY2 B0) | ((with_reducible refine sqc 144 rfl ?_); refine sqC (some 8) func144 #[.int .i64 a0_0] ?_; (with_reducible refine (strconv_Itoa.calls a0_0 t0 _ ?sideG A3.1).mono ?_); (case sideG => exact Z59 E0); refine sqV fun w6 hb => ?_; replace B0 := sqT B0 hb; replace HB := sqS (sqB1 HB E0) hb))
  go_ret
  exact ⟨Z14, sqB1 HB E0⟩
 rw [if_neg c2] at H
 have c2b0 : (a0_1 == 1) = false := sqe0 c2
 have c2b1 : (a0_1 != 1) = true := sqn1 c2
 obtain ⟨t1, A7, H⟩ := sqD H
 obtain ⟨c8, H⟩ := sqI H
 have c8b0 := eq_true c8
 have c8b1 : decide (t1.size + 1 ≤ 9223372036854775807) = true := decide_eq_true c8
 try have c8b2 : (9223372036854775807 < t1.size + 1) = False := eq_false (Nat.not_lt.2 c8)
 obtain ⟨t2, A9, H⟩ := sqD H
 obtain ⟨c10, H⟩ := sqI H
 have c0 := eq_true c10
 have c1 : decide ((t1 ++ (⟨#[47]⟩ : ByteArray)).size + t2.size ≤ 9223372036854775807) = true := decide_eq_true c10
 try have c3 : (9223372036854775807 < (t1 ++ (⟨#[47]⟩ : ByteArray)).size + t2.size) = False := eq_false (Nat.not_lt.2 c10)
 try have c4 : (9223372036854775807 < t1.size + 1 + t2.size) = False := by (have h_ := c3; (repeat rw [ByteArray.size_append] at h_); exact h_)
 obtain rfl := sqo H
 go_enter func141, ntmps141
 try go_wp2_with (first | ((with_reducible refine sqd 1 rfl ?_); refine sqBx w (sqB HB) (cs := #[.int .i64 a0_0, .int .i64 a0_1]) (t := 31) ?_; intro g0 hg w0 B0 E0 HB hb; clear hb hg; have := sqY2 B0))
 replace B0 := sqa (blk_drew B0.1)
 replace HB := sqa (below_drew1 HB.1)
 refine start_ (n := 9) (S := fun w' => w'.cell? ⟨g0, 0, none⟩ = some (.int .i64 a0_0) ∧ w'.cell? ⟨g0, 1, none⟩ = some (.int .i64 a0_1)) (ds := []) #[false, false, false, false, false, false, false, false, false] (by kernel_rfl) rfl rfl (sqk1 B0) (fun hHeld => ?_); refine with_tabW F51.tab3 F51.bits3 (fun HT_ HW_ => ?_)
 generalize w0.drew = w1 at B0 HB hHeld ⊢
 refine sqP 0 (some 9) (h := ?_)
 refine sqP 4 (some 13) (h := ?_)
 refine sqQ 1 (some 10) hHeld (h := ?_)
 refine sqQ 5 (some 14) hHeld (h := ?_)
 refine sq1 2 (some 11) (h := fun K hK => ?_)
 refine sqg func144 #[.int .i64 a0_0] ?_
 with_reducible refine (strconv_Itoa.calls a0_0 t1 _ ?sideG A7.1).mono ?_
 (case sideG => exact Z59 E0)
 rintro e w2 ⟨rfl, hb⟩
 refine ⟨_, rfl, ?_⟩
 replace B0 := sqT B0 hb
 replace HB := sqS (sqB1 HB E0) hb
 refine hK.out _ _ (sqk1 B0) (fun hHeld => ?_)
 clear hK K
 refine sqN (some 11) ?_
 refine sqP 3 (some 12) (h := ?_)
 refine sq1 6 (some 15) (h := fun K hK => ?_)
 refine sqg func144 #[.int .i64 a0_1] ?_
 with_reducible refine (strconv_Itoa.calls a0_1 t2 _ ?sideG A9.1).mono ?_
 (case sideG => exact Z59 E0)
 rintro e w3 ⟨rfl, hb⟩
 refine ⟨_, rfl, ?_⟩
 replace B0 := sqT B0 hb
 replace HB := sqS (sqB1 HB E0) hb
 refine hK.out _ _ (sqk1 B0) (fun hHeld => ?_)
 clear hK K
 refine sqN (some 15) ?_
 refine sqP 7 (some 16) (h := ?_)
 refine sqP 8 (some 2) (h := ?_)
 refine done_ (done_of HT_.out (by kernel_rfl)) ?_
 try go_wp2
 go_ret
 exact ⟨Z14, sqB1 HB E0⟩

-- given: function 151 (strconv_Atoi)

def F21.j0 : Nat → ByteArray → Int → Option Int → Int → Option (Int × Int × Bool)
 | 0, _, _, _, _ => none
 | k + 1, x0, x7, x8, x9 => if x8.isNone = true then ((F2.f k x7 x9).bind fun t0 => (if t0 = true then ((F51.f x7 x9).bind fun t1 => (if t1.toList = x0.toList then (some (x7, x9, true)) else (some (0, 0, false)))) else (some (0, 0, false)))) else (some (0, 0, false))
def F21.f (k : Nat) (a0 : ByteArray) : Option (Int × Int × Bool) := (strings_Cut.f a0 (⟨#[47]⟩ : ByteArray)).bind fun bt0 => ((strconv_Atoi.f bt0.1).bind fun bt1 => (if bt0.2.2 = true then ((strconv_Atoi.f bt0.2.1).bind fun bt2 => (if bt2.2.isNone = true then (F21.j0 k a0 bt1.1 bt1.2 bt2.1) else (some (0, 0, false)))) else (F21.j0 k a0 bt1.1 bt1.2 1)))
abbrev F21.M (k : Nat) : Prop := (∀ y0 y1 y2 y3, LeO (F21.j0 k y0 y1 y2 y3) (F21.j0 (k + 1) y0 y1 y2 y3))
theorem F21.mt : ∀ k, F21.M k → F21.M (k + 1) ∧ ∀ a0, LeO (F21.f k a0) (F21.f (k + 1) a0) := by
  rintro k ih0
  refine ⟨?_, ?_⟩ <;> (try unfold F21.M) <;> intros <;> (first | unfold F21.j0 | unfold F21.f) <;> repeat' (with_reducible first | exact ih0 _ _ _ _ | exact F2.m _ _ _ | exact LeO.refl _ | exact LeO.none _ | refine LeO.ite ?_ ?_ | refine LeO.bind ?_ fun _ => ?_)
theorem F21.ml : ∀ k, F21.M k
 | 0 => fun _ _ _ _ r h => by simp [F21.j0] at h
 | k + 1 => (F21.mt k (F21.ml k)).1
theorem F21.m a0 k : LeO (F21.f k a0) (F21.f (k + 1) a0) := (F21.mt k (F21.ml k)).2 a0
theorem F21.c (k : Nat) (a0 : ByteArray) (r1 : Int) (r2 : Int) (r3 : Bool) (w : World) (hG : Glob w) (H : F21.f k a0 = some (r1, r2, r3)) :
  Calls prog 126 #[.string a0] w fun e w' => e = .returned (.tuple #[.agg #[.int .i64 r1, .int .i64 r2], .bool r3]) ∧ Below w.heap.size w w' := by
 have hu31 := underlying31
 have hu150 := underlying150
 have HB := sqh w
 unfold F21.f at H
 obtain ⟨⟨t0, t1, t2⟩, A2, H⟩ := sqD H
 try dsimp only at H
 obtain ⟨⟨t456, t3⟩, A3, H⟩ := sqD H
 try dsimp only at H
 have HC4 := sqa H
 clear H
 go_enter func126, ntmps126
 go_upto_if 24 with (first | ((with_reducible refine sqd 2 rfl ?_); refine sqBx w (sqB HB) (cs := #[.int .i64 0, .int .i64 0]) (t := 31) ?_; intro g0 hg w5 B0 E0 HB hb; clear hb hg) | ((with_reducible refine sqc 84 rfl ?_); refine sqC (some 15) func84 #[.string a0, .string (⟨#[47]⟩ : ByteArray)] ?_; (with_reducible refine (strings_Cut.calls a0 (⟨#[47]⟩ : ByteArray) t0 t1 t2 _ ?sideG A2.1).mono ?_); (case sideG => exact Z59 E0); refine sqV fun w6 hb => ?_; replace B0 := sqT B0 hb; replace HB := sqS (sqB1 HB E0) hb) | ((with_reducible refine sqc 151 rfl ?_); refine sqC (some 21) func151 #[.string t0] ?_; (with_reducible refine (strconv_Atoi.calls t0 t456 t3 _ ?sideG A3.1).mono ?_); (case sideG => exact Z59 E0); rintro e w7 ⟨q_t0, hq_t0, rfl, hb⟩; refine ⟨_, rfl, ?_⟩; replace B0 := sqT B0 hb; replace HB := sqS (sqB1 HB E0) hb; (try simp only [errP_none, errP_some])))
 (try simp only [Act.put, List.setIfInBounds_toArray, List.set_cons_zero, List.set_cons_succ])
 go_cut [9] (fun v9 wc => ∃ (kq : Nat) (x9_3 : Int) (x453000_3 : Int) (x453001_3 : Int), v9 = .int .i64 x9_3 ∧ Aside0 (F21.j0 kq a0 t456 t3 x9_3 = some (r1, r2, r3)) ∧ Aside0 (kq ≤ k) ∧ Aside0 (wc.heap[g0]? = some (.cells #[.int .i64 x453000_3, .int .i64 x453001_3] 31 (0, 0))) ∧ Aside0 (Below w.heap.size w wc))
 case first =>
  have H := HC4.1
  clear HC4
  by_cases c8 : t2 = true
  ·subst c8
   rw [if_pos rfl] at H
   obtain ⟨⟨t4, t5⟩, A9, H⟩ := sqD H
   try dsimp only at H
   rcases t5 with _ | q0
   ·have H1 : (F21.j0 k a0 t456 t3 t4) = some (r1, r2, r3) := by rw [if_pos (show (none : Option Int).isNone = true by rfl)] at H; exact H
    clear H
    have H := H1
    clear H1
    try simp only [errP_none, errP_some]
    have H' := sqa H
    clear H
    go_wp2_with (first | ((with_reducible refine sqc 151 rfl ?_); refine sqC (some 27) func151 #[.string t1] ?_; (with_reducible refine (strconv_Atoi.calls t1 t4 none _ ?sideG A9.1).mono ?_); (case sideG => exact Z59 E0); rintro e w0 ⟨qe, hqe, rfl, hb⟩; obtain rfl := isNone_none hqe; refine ⟨_, rfl, ?_⟩; replace B0 := sqT B0 hb; replace HB := sqS (sqB1 HB E0) hb; (try simp only [errP_none, errP_some])))
    go_meet
    case rel => exact ⟨_, (t4), (0), (0), Z2, H', ⟨Z3⟩, ⟨sqK B0⟩, ⟨sqB1 HB E0⟩⟩
   ·have H1 : (some (0, 0, false)) = some (r1, r2, r3) := by rw [if_neg (show ¬ (some q0).isNone = true by simp)] at H; exact H
    clear H
    have H := H1
    clear H1
    try simp only [errP_none, errP_some]
    obtain ⟨rfl, rfl, rfl⟩ := sqO3 H
    go_wp2_with (first | ((with_reducible refine sqc 151 rfl ?_); refine sqC (some 27) func151 #[.string t1] ?_; (with_reducible refine (strconv_Atoi.calls t1 t4 (some q0) _ ?sideG A9.1).mono ?_); (case sideG => exact Z59 E0); rintro e w1 ⟨qe, hqe, rfl, hb⟩; obtain ⟨qz, rfl⟩ := isNone_some hqe; refine ⟨_, rfl, ?_⟩; replace B0 := sqT B0 hb; replace HB := sqS (sqB1 HB E0) hb; (try simp only [errP_none, errP_some]); have := sqY2 B0))
    refine sqE g0 31 #[.int .i64 0, .int .i64 0] (Z37 B0) underlying31 ?_
    exact ⟨Z14, sqB1 HB E0⟩
  obtain rfl := sqb c8
  rw [if_neg sqF] at H
  have H' := sqa H
  clear H
  go_wp2
  go_meet
  case rel => exact ⟨_, (1), (0), (0), Z2, H', ⟨Z3⟩, ⟨sqK B0⟩, ⟨sqB1 HB E0⟩⟩
 case rest =>
  clear HC4
  obtain ⟨kq, x9_3, x453000_3, x453001_3, rfl, HA, HJ3, B0, HB⟩ := hcut
  cases kq with
  | zero => exact absurd HA.out (by simp [F21.j0])
  | succ kj3 =>
   have H := HA.out
   clear HA
   simp only [F21.j0] at H
   rcases t3 with _ | q1
   ·obtain rfl := isNone_none hq_t0
    have H1 : ((F2.f kj3 t456 x9_3).bind fun t6 => (if t6 = true then ((F51.f t456 x9_3).bind fun t7 => (if t7.toList = a0.toList then (some (t456, x9_3, true)) else (some (0, 0, false)))) else (some (0, 0, false)))) = some (r1, r2, r3) := by rw [if_pos (show (none : Option Int).isNone = true by rfl)] at H; exact H
    clear H
    have H := H1
    clear H1
    try simp only [errP_none, errP_some]
    obtain ⟨t6, A0, H⟩ := sqD H
    by_cases c0 : t6 = true
    ·subst c0
     rw [if_pos rfl] at H
     obtain ⟨t7, A1, H⟩ := sqD H
     by_cases c1 : t7.toList = a0.toList
     ·rw [if_pos c1] at H
      have c2 := sqe1 c1
      have c3 := sqn0 c1
      clear c1
      obtain ⟨rfl, rfl, rfl⟩ := sqO3 H
      go_wp2_with (first | ((with_reducible refine sqd 12 rfl ?_); refine sqBx w (sqB1 HB E0) (cs := #[.int .i64 0, .int .i64 0]) (t := 31) ?_; intro g1 hg w2 B2 E1 HB hb; obtain ⟨N0, N1⟩ := sqM hg B0; replace B0 := sqT B0 hb; clear hb hg; have := sqn2 N1 N0; have := sqY2 B2) | (go_at_call 70; (with_reducible refine (F2.c kj3 t456 x9_3 true _ A0.1).mono ?_); rintro e w3 ⟨rfl, hb⟩; replace B0 := sqH N0 B0 hb; replace B2 := sqa (blk_below (g := g1) (o := .cells #[.int .i64 t456, .int .i64 x9_3] 31 (0, 0)) (Z79 B2) hb); replace HB := sqS (sqB2 HB E0 E1) hb; have := sqY2 B2) | (go_at_call 141; (with_reducible refine (F51.c t456 x9_3 t7 _ ?sideG A1.1).mono ?_); (case sideG => exact Z56 E0 E1); rintro e w4 ⟨rfl, hb⟩; obtain ⟨B0, B2⟩ := sqT2 hb B0 B2; replace HB := sqS (sqB2 HB E0 E1) hb; have := sqY2 B2; have := sqY2 B0))
      refine sqE g0 31 #[.int .i64 t456, .int .i64 x9_3] (by refine sqPut (cs := #[.int .i64 t456, .int .i64 x453001_3]) ?_ 1; refine sqPut (cs := #[.int .i64 x453000_3, .int .i64 x453001_3]) ?_ 0; exact sqK B0) underlying31 ?_
      exact ⟨Z14, sqB2 HB E0 E1⟩
     rw [if_neg c1] at H
     have c2 := sqe0 c1
     have c3 := sqn1 c1
     obtain ⟨rfl, rfl, rfl⟩ := sqO3 H
     go_wp2_with (first | ((with_reducible refine sqd 12 rfl ?_); refine sqBx w (sqB1 HB E0) (cs := #[.int .i64 0, .int .i64 0]) (t := 31) ?_; intro g1 hg w8 B2 E1 HB hb; obtain ⟨N0, N1⟩ := sqM hg B0; replace B0 := sqT B0 hb; clear hb hg; have := sqn2 N1 N0; have := sqY2 B2) | (go_at_call 70; (with_reducible refine (F2.c kj3 t456 x9_3 true _ A0.1).mono ?_); rintro e w9 ⟨rfl, hb⟩; replace B0 := sqH N0 B0 hb; replace B2 := sqa (blk_below (g := g1) (o := .cells #[.int .i64 t456, .int .i64 x9_3] 31 (0, 0)) (Z79 B2) hb); replace HB := sqS (sqB2 HB E0 E1) hb; have := sqY2 B2) | (go_at_call 141; (with_reducible refine (F51.c t456 x9_3 t7 _ ?sideG A1.1).mono ?_); (case sideG => exact Z56 E0 E1); rintro e w30 ⟨rfl, hb⟩; obtain ⟨B0, B2⟩ := sqT2 hb B0 B2; replace HB := sqS (sqB2 HB E0 E1) hb; have := sqY2 B0))
     refine sqE g0 31 #[.int .i64 0, .int .i64 0] (Z80 B0) underlying31 ?_
     exact ⟨Z14, sqB2 HB E0 E1⟩
    obtain rfl := sqb c0
    rw [if_neg sqF] at H
    obtain ⟨rfl, rfl, rfl⟩ := sqO3 H
    go_wp2_with (first | ((with_reducible refine sqd 12 rfl ?_); refine sqBx w (sqB1 HB E0) (cs := #[.int .i64 0, .int .i64 0]) (t := 31) ?_; intro g1 hg w32 B2 E1 HB hb; obtain ⟨N0, N1⟩ := sqM hg B0; replace B0 := sqT B0 hb; clear hb hg; have := sqn2 N1 N0; have := sqY2 B2) | (go_at_call 70; (with_reducible refine (F2.c kj3 t456 x9_3 false _ A0.1).mono ?_); rintro e w35 ⟨rfl, hb⟩; replace B0 := sqH N0 B0 hb; replace B2 := sqa (blk_below (g := g1) (o := .cells #[.int .i64 t456, .int .i64 x9_3] 31 (0, 0)) (Z79 B2) hb); replace HB := sqS (sqB2 HB E0 E1) hb; have := sqY2 B0))
    refine sqE g0 31 #[.int .i64 0, .int .i64 0] (Z80 B0) underlying31 ?_
    exact ⟨Z14, sqB2 HB E0 E1⟩
   ·obtain ⟨qz_, rfl⟩ := isNone_some hq_t0
    have H1 : (some (0, 0, false)) = some (r1, r2, r3) := by rw [if_neg (show ¬ (some q1).isNone = true by simp)] at H; exact H
    clear H
    have H := H1
    clear H1
    try simp only [errP_none, errP_some]
    obtain ⟨rfl, rfl, rfl⟩ := sqO3 H
    go_wp2_with (first | ((with_reducible refine sqd 12 rfl ?_); refine sqBx w (sqB1 HB E0) (cs := #[.int .i64 0, .int .i64 0]) (t := 31) ?_; intro g1 hg w37 B2 E1 HB hb; obtain ⟨N0, N1⟩ := sqM hg B0; replace B0 := sqT B0 hb; clear hb hg; have := sqn2 N1 N0; have := sqY2 B2; have := sqY2 B0))
    refine sqE g0 31 #[.int .i64 0, .int .i64 0] (by refine sqPut (cs := #[.int .i64 0, .int .i64 x453001_3]) ?_ 1; refine sqPut (cs := #[.int .i64 x453000_3, .int .i64 x453001_3]) ?_ 0; refine sqFar ?_ N0; refine sqFar ?_ N0; exact sqK B0) underlying31 ?_
    exact ⟨Z14, sqB2 HB E0 E1⟩

def F83.f (a0_0 : Int) (a0_1 : Int) : Option (Int × Int) := if a0_1 > 0 then (some (wrap64 (-a0_0), a0_1)) else (some (a0_0, a0_1))
theorem F83.c (a0_0 : Int) (a0_1 : Int) (r1 : Int) (r2 : Int) (w : World) (H : F83.f a0_0 a0_1 = some (r1, r2)) :
  Calls prog 138 #[.agg #[.int .i64 a0_0, .int .i64 a0_1]] w fun e w' => e = .returned (.agg #[.int .i64 r1, .int .i64 r2]) ∧ Below w.heap.size w w' := by
 have hu31 := underlying31
 have HB := sqh w
 unfold F83.f at H
 by_cases c2 : a0_1 > 0
 ·rw [if_pos c2] at H
  have c2b0 : decide (0 < a0_1) = true := decide_eq_true c2
  clear c2
  obtain ⟨rfl, rfl⟩ := sqO2 H
  go_enter func138, ntmps138
  go_wp2_with (first | ((with_reducible refine sqd 1 rfl ?_); refine sqBx w (sqB HB) (cs := #[.int .i64 a0_0, .int .i64 a0_1]) (t := 31) ?_; intro g0 hg w3 B0 E0 HB hb; clear hb hg) | ((with_reducible refine sqd 2 rfl ?_); refine sqBx w (sqB1 HB E0) (cs := #[.int .i64 0, .int .i64 0]) (t := 31) ?_; intro g1 hg w4 B2 E1 HB hb; obtain ⟨N0, N1⟩ := sqM hg B0; replace B0 := sqT B0 hb; clear hb hg; have := sqn2 N0 N1; have := sqY2 B0; have := sqY2 B2))
  refine sqEr g1 31 #[.int .i64 (wrap64 (-a0_0)), .int .i64 a0_1] (by refine sqPut (cs := #[.int .i64 (wrap64 (-a0_0)), .int .i64 0]) ?_ 1; refine sqPut (cs := #[.int .i64 0, .int .i64 0]) ?_ 0; refine sqFar ?_ N1; exact sqK B2) underlying31 ?_
  exact ⟨Z14, sqB2 HB E0 E1⟩
 rw [if_neg c2] at H
 have c2b0 : decide (0 < a0_1) = false := decide_eq_false c2
 clear c2
 obtain ⟨rfl, rfl⟩ := sqO2 H
 go_enter func138, ntmps138
 go_wp2_with (first | ((with_reducible refine sqd 1 rfl ?_); refine sqBx w (sqB HB) (cs := #[.int .i64 a0_0, .int .i64 a0_1]) (t := 31) ?_; intro g0 hg w8 B0 E0 HB hb; clear hb hg) | ((with_reducible refine sqd 2 rfl ?_); refine sqBx w (sqB1 HB E0) (cs := #[.int .i64 0, .int .i64 0]) (t := 31) ?_; intro g1 hg w9 B2 E1 HB hb; obtain ⟨N0, N1⟩ := sqM hg B0; replace B0 := sqT B0 hb; clear hb hg; have := sqn2 N0 N1; have := sqY2 B0; have := sqY2 B2))
 refine sqEr g1 31 #[.int .i64 a0_0, .int .i64 a0_1] (Z81 B2) underlying31 ?_
 exact ⟨Z14, sqB2 HB E0 E1⟩
end Go.Proofs.YtofmlbgfcohhoaaGreatDoor.PFnReadJournal
