import Derived.Test.YtofmlbgfcohhoaaGreatDoorPFnExactDeskSayx3
set_option maxHeartbeats 8000000
set_option maxRecDepth 100000
namespace Go.Proofs.YtofmlbgfcohhoaaGreatDoor.PFnExactDeskSay
open Go.RowKit Go.Proofs.YtofmlbgfcohhoaaGreatDoorW.PrintWords Go.Proofs.YtofmlbgfcohhoaaGreatDoorW.PrintLast Go.Proofs.YtofmlbgfcohhoaaGreatDoorW.PrintMore Go.Proofs.YtofmlbgfcohhoaaGreatDoor.Lib Go.Proofs.Tryz
attribute [local go_sem] max2_int min2_int max_two min_two max_three min_three max_four min_four   -- for this text's walks alone
set_option linter.unusedVariables false
set_option linter.unusedSimpArgs false

/-! ### laws_markDesk: function 19 -/
def laws_markDesk.f (k : Nat) (a0_0 : Int) (a0_1 : Int) (l0_2 : List (S31)) (a1 : Int) : Option (Int × (List (S31))) := (laws_markFractionS.f k l0_2 a1).bind fun bt0 => (some (bt0.1, bt0.2))
theorem laws_markDesk.mono : ∀ a0 a1 a2 a3 k, LeO (laws_markDesk.f k a0 a1 a2 a3) (laws_markDesk.f (k + 1) a0 a1 a2 a3) := by
 intro a0 a1 a2 a3 k
 unfold laws_markDesk.f
 repeat' (with_reducible first | exact laws_markFractionS.mono _ _ _ | exact LeO.refl _ | exact LeO.none _ | refine LeO.ite ?_ ?_ | refine LeO.bind ?_ fun _ => ?_)
theorem laws_markDesk.calls (k : Nat) (a0_0 : Int) (a0_1 : Int) (P0_2_ : Nat → Prop) (u9000_ : Value) (l0_2 : List (S31)) (a1 : Int) (r1 : Int) (r2 : List (S31)) (w0 w : World) (hB : Below w0.heap.size w0 w) (ho0_2 : Kd.R k31 31 w w0.heap.size P0_2_ u9000_ l0_2) (H : laws_markDesk.f k a0_0 a0_1 l0_2 a1 = some (r1, r2)) :
  Calls prog 19 #[.agg #[.int .i64 a0_0, .int .i64 a0_1, u9000_], .int .i64 a1] w fun e w' => e = .returned (.int .i64 r1) ∧ Kd.R k31 31 w' w0.heap.size (fun k_ => (P0_2_ k_ ∨ w.heap.size ≤ k_)) u9000_ r2 ∧ Below w0.heap.size w0 w' ∧ Kept w w' (fun k_ => P0_2_ k_) := by
 have hu34 := underlying34
 have O0 := sqa (show Kd.R k31 31 w w0.heap.size (fun k_ => (P0_2_ k_ ∨ w.heap.size ≤ k_)) u9000_ l0_2 from Kd.R_mono ho0_2 (fun k_ hk => (.inl hk)))
 have HK := sqa (Kept.refl w (fun k_ => P0_2_ k_))
 have HW0 := sqa hB.size
 have HB := sqa hB
 clear hB
 unfold laws_markDesk.f at H
 obtain ⟨⟨t0, t1⟩, A3, H⟩ := sqD H
 try dsimp only at H
 obtain ⟨rfl, rfl⟩ := sqO2 H
 obtain ⟨Ao4, co4, eo4⟩ := Kd.R_slice O0.1
 subst eo4
 go_enter func19, ntmps19
 go_wp2_with (first | ((with_reducible refine sqd 2 rfl ?_); refine sqBox (N := 2) (cs := #[.int .i64 a0_0, .int .i64 a0_1, .slice Ao4 l0_2.length co4]) (t := 34) ?_; intro g0 hg w5 B0 hb; replace O0 := sqU O0 hb; have GW0 := sqa ((by rw [hg]; exact (by first | exact HK.out.1 | exact (show Kept w _ (fun k_ => P0_2_ k_) from by repeat (first | (with_reducible first | exact HK.out | apply Kept.alloc | apply Kept.drewN | apply Kept.drew) | exact HK.out)).1) : w.heap.size ≤ g0)); replace HK := sqa (Kept.below (S := (fun k_ => P0_2_ k_)) Z67 hb); have E0 := sqa ((by rw [hg]; exact (below_size (sqB HB)) : w0.heap.size ≤ g0)); replace HB := sqS (sqB HB) hb; clear hb hg; obtain ⟨_, _, _, _, _, _⟩ := sqY3 B0) | ((with_reducible refine sqc 64 rfl ?_); refine sqC (some 8) func64 #[.slice Ao4 l0_2.length co4, .int .i64 a1] ?_; (with_reducible refine (laws_markFractionS.calls k (fun k_ => some k_ = (.slice Ao4 l0_2.length co4 : Value).ownBlock) (.slice Ao4 l0_2.length co4) l0_2 a1 t0 t1 w0 _ ?side1 ?side2 A3.1).mono ?_); (case side1 => repeat (first | (with_reducible first | exact HB.1 | apply below_alloc | apply pw_below_drewN | apply below_drew1 | refine below_set ?_ E0.1) | exact HB.1)); (case side2 => exact Kd.R_tight rfl O0.1); rintro e w7 ⟨rfl, hy0, hb, hkp⟩; refine ⟨_, rfl, ?_⟩; replace B0 := sqa (blk_kept (sqK B0) hkp (fun hs_ => (fun e_ => (Kd.R_ne O0.1 B0.1 (by decide)) e_) hs_)); replace HK := sqa (Kept.then_ (S := (fun k_ => P0_2_ k_)) (Z68 GW0) hkp (fun k_ hs_ => (fun e_ => (O0.1.1 k_ e_.symm)) hs_)); replace O0 := sqa (Kd.R_reok rfl hy0 (fun k_ e_ => O0.1.1 k_ e_)); replace HB := sqa (hb); (try clear hb); (try clear hkp); (try clear hy0)))
 go_ret
 exact ⟨Z16, Z50 O0, sqB1 HB E0, Z68 GW0⟩

/-! ### laws_heldFractionS: function 65 -/
def laws_heldFractionS.l0 : Nat → List (S31) → Int → Int → Option (Int)
 | 0, _, _, _ => none
 | k + 1, x0, x1, x5 => if x5 < (x0.length : Int) then (if 0 ≤ x5 then (if ((rd_T31 x0 x5).f0) = x1 then (if ((rd_T31 x0 x5).f1) = (wrap64 (x1 + 1)) then (laws_heldFractionS.l0 k x0 (wrap64 ((wrap64 (x1 + 1)) + 1)) (wrap64 (x5 + 1))) else (some (-1))) else (some (-1))) else (none)) else (some x1)
def laws_heldFractionS.f (k : Nat) (l0 : List (S31)) (a1 : Int) : Option (Int) := laws_heldFractionS.l0 k l0 a1 0
abbrev laws_heldFractionS.M (k : Nat) : Prop := (∀ y0 y1 y2, LeO (laws_heldFractionS.l0 k y0 y1 y2) (laws_heldFractionS.l0 (k + 1) y0 y1 y2))
theorem laws_heldFractionS.mono_t : ∀ k, laws_heldFractionS.M k → laws_heldFractionS.M (k + 1) ∧ ∀ a0 a1, LeO (laws_heldFractionS.f k a0 a1) (laws_heldFractionS.f (k + 1) a0 a1) := by
  rintro k ih0
  refine ⟨?_, ?_⟩ <;> (try unfold laws_heldFractionS.M) <;> intros <;> (first | unfold laws_heldFractionS.l0 | unfold laws_heldFractionS.f) <;> repeat' (with_reducible first | exact ih0 _ _ _ | exact LeO.refl _ | exact LeO.none _ | refine LeO.ite ?_ ?_ | refine LeO.bind ?_ fun _ => ?_)
theorem laws_heldFractionS.mono_l : ∀ k, laws_heldFractionS.M k
 | 0 => fun _ _ _ r h => by simp [laws_heldFractionS.l0] at h
 | k + 1 => (laws_heldFractionS.mono_t k (laws_heldFractionS.mono_l k)).1
theorem laws_heldFractionS.mono a0 a1 k : LeO (laws_heldFractionS.f k a0 a1) (laws_heldFractionS.f (k + 1) a0 a1) := (laws_heldFractionS.mono_t k (laws_heldFractionS.mono_l k)).2 a0 a1
theorem laws_heldFractionS.calls (k : Nat) (A0 : Option Addr) (c0 : Nat) (l0 : List (S31)) (a1 : Int) (r : Int) (w : World) (hr0 : Kd.C k31 w A0 l0.length l0) (hc0 : l0.length ≤ c0) (H : laws_heldFractionS.f k l0 a1 = some r) :
  Calls prog 65 #[.slice A0 l0.length c0, .int .i64 a1] w fun e w' => e = .returned (.int .i64 r) ∧ Drawn0 w w' := by
 have HR0 := sqa hr0
 have HC0 := sqa hc0
 clear hr0 hc0
 unfold laws_heldFractionS.f at H
 have H' := sqa H
 clear H
 go_enter func65, ntmps65
 go_wp2
 go_loopg [1, 5] k (fun kq v1 v5 w' => ∃ (x1_1 : Int) (x5_1 : Int), v1 = .int .i64 x1_1 ∧ v5 = .int .i64 x5_1 ∧ Aside0 (laws_heldFractionS.l0 kq l0 x1_1 x5_1 = some r) ∧ Aside0 (kq ≤ k) ∧ Drawn0 w w')
 case atStart => exact ⟨(a1), (0), Z4, Z4, H', ⟨Nat.le_refl _⟩, Z51⟩
 case round =>
  clear H'
  obtain ⟨x1_1, x5_1, rfl, rfl, HA, HK1, ⟨m1, rfl⟩⟩ := hrel
  cases gk with
  | zero => exact absurd HA.out (by simp [laws_heldFractionS.l0])
  | succ k1 =>
   have H := HA.out
   clear HA
   simp only [laws_heldFractionS.l0] at H
   by_cases c3 : x5_1 < (l0.length : Int)
   ·rw [if_pos c3] at H
    have c3b0 : decide (x5_1 < (l0.length : Int)) = true := decide_eq_true c3
    clear c3
    obtain ⟨c4, H⟩ := sqI H
    have c4b0 : decide (0 ≤ x5_1) = true := decide_eq_true c4
    clear c4
    by_cases c5 : ((rd_T31 l0 x5_1).f0) = x1_1
    ·rw [if_pos c5] at H
     have c5b0 : (((rd_T31 l0 x5_1).f0) == x1_1) = true := sqe1 c5
     have c5b1 : (((rd_T31 l0 x5_1).f0) != x1_1) = false := sqn0 c5
     clear c5
     by_cases c6 : ((rd_T31 l0 x5_1).f1) = (wrap64 (x1_1 + 1))
     ·rw [if_pos c6] at H
      have c6b0 : (((rd_T31 l0 x5_1).f1) == (wrap64 (x1_1 + 1))) = true := sqe1 c6
      have c6b1 : (((rd_T31 l0 x5_1).f1) != (wrap64 (x1_1 + 1))) = false := sqn0 c6
      clear c6
      have H' := sqa H
      clear H
      have p0 : 0 ≤ (x5_1 : Int) := of_decide_eq_true Z9
      have q0 : x5_1 < (l0.length : Int) := of_decide_eq_true Z9
      obtain ⟨ad0, e0, hx0, hx1⟩ := at_T31 HR0.1 x5_1 p0 q0
      cases e0
      replace p0 := eq_true p0
      replace q0 := eq_true q0
      have p1 : 0 ≤ (x5_1 : Int) := of_decide_eq_true Z9
      have q1 : x5_1 < (l0.length : Int) := of_decide_eq_true Z9
      obtain ⟨ad1, e1, hx2, hx3⟩ := at_T31 HR0.1 x5_1 p1 q1
      obtain rfl : ad0 = ad1 := (by injection e1)
      replace p1 := eq_true p1
      replace q1 := eq_true q1
      go_wp2
      go_roundg k1
      case measure => have := HK1.out; omega
      case rel => exact ⟨(wrap64 ((wrap64 (x1_1 + 1)) + 1)), (wrap64 (x5_1 + 1)), Z4, Z4, H', ⟨Z17 HK1⟩, Z51⟩
     rw [if_neg c6] at H
     have c6b0 : (((rd_T31 l0 x5_1).f1) == (wrap64 (x1_1 + 1))) = false := sqe0 c6
     have c6b1 : (((rd_T31 l0 x5_1).f1) != (wrap64 (x1_1 + 1))) = true := sqn1 c6
     obtain rfl := sqo H
     have p0 : 0 ≤ (x5_1 : Int) := of_decide_eq_true Z9
     have q0 : x5_1 < (l0.length : Int) := of_decide_eq_true Z9
     obtain ⟨ad0, e0, hx0, hx1⟩ := at_T31 HR0.1 x5_1 p0 q0
     cases e0
     replace p0 := eq_true p0
     replace q0 := eq_true q0
     have p1 : 0 ≤ (x5_1 : Int) := of_decide_eq_true Z9
     have q1 : x5_1 < (l0.length : Int) := of_decide_eq_true Z9
     obtain ⟨ad1, e1, hx2, hx3⟩ := at_T31 HR0.1 x5_1 p1 q1
     obtain rfl : ad0 = ad1 := (by injection e1)
     replace p1 := eq_true p1
     replace q1 := eq_true q1
     go_wp2
     go_ret
     exact ⟨Z4, Z51⟩
    rw [if_neg c5] at H
    have c5b0 : (((rd_T31 l0 x5_1).f0) == x1_1) = false := sqe0 c5
    have c5b1 : (((rd_T31 l0 x5_1).f0) != x1_1) = true := sqn1 c5
    obtain rfl := sqo H
    have p0 : 0 ≤ (x5_1 : Int) := of_decide_eq_true Z9
    have q0 : x5_1 < (l0.length : Int) := of_decide_eq_true Z9
    obtain ⟨ad0, e0, hx0, hx1⟩ := at_T31 HR0.1 x5_1 p0 q0
    cases e0
    replace p0 := eq_true p0
    replace q0 := eq_true q0
    go_wp2
    go_ret
    exact ⟨Z4, Z51⟩
   rw [if_neg c3] at H
   have c3b0 : decide (x5_1 < (l0.length : Int)) = false := decide_eq_false c3
   clear c3
   obtain rfl := sqo H
   go_wp2
   go_ret
   exact ⟨Z4, Z51⟩

/-! ### laws_heldDesk: function 20 -/
def laws_heldDesk.f (k : Nat) (a0_0 : Int) (a0_1 : Int) (l0_2 : List (S31)) (a1 : Int) : Option (Int) := (laws_heldFractionS.f k l0_2 a1).bind fun t0 => (if t0 < 0 then (some (-1)) else (some t0))
theorem laws_heldDesk.mono : ∀ a0 a1 a2 a3 k, LeO (laws_heldDesk.f k a0 a1 a2 a3) (laws_heldDesk.f (k + 1) a0 a1 a2 a3) := by
 intro a0 a1 a2 a3 k
 unfold laws_heldDesk.f
 repeat' (with_reducible first | exact laws_heldFractionS.mono _ _ _ | exact LeO.refl _ | exact LeO.none _ | refine LeO.ite ?_ ?_ | refine LeO.bind ?_ fun _ => ?_)
theorem laws_heldDesk.calls (k : Nat) (a0_0 : Int) (a0_1 : Int) (A0_2 : Option Addr) (c0_2 : Nat) (l0_2 : List (S31)) (a1 : Int) (r : Int) (w : World) (hr0_2 : Kd.C k31 w A0_2 l0_2.length l0_2) (hc0_2 : l0_2.length ≤ c0_2) (H : laws_heldDesk.f k a0_0 a0_1 l0_2 a1 = some r) :
  Calls prog 20 #[.agg #[.int .i64 a0_0, .int .i64 a0_1, .slice A0_2 l0_2.length c0_2], .int .i64 a1] w fun e w' => e = .returned (.int .i64 r) ∧ Below w.heap.size w w' := by
 have hu34 := underlying34
 have HR0_2 := sqa hr0_2
 have HC0_2 := sqa hc0_2
 clear hr0_2 hc0_2
 have HB := sqh w
 unfold laws_heldDesk.f at H
 obtain ⟨t0, A3, H⟩ := sqD H
 by_cases c4 : t0 < 0
 ·rw [if_pos c4] at H
  have c4b0 : decide (t0 < 0) = true := decide_eq_true c4
  clear c4
  obtain rfl := sqo H
  go_enter func20, ntmps20
  go_wp2_with (first | ((with_reducible refine sqd 2 rfl ?_); refine sqBx w (sqB HB) (cs := #[.int .i64 a0_0, .int .i64 a0_1, .slice A0_2 l0_2.length c0_2]) (t := 34) ?_; intro g0 hg w5 B0 E0 HB hb; clear hb hg; obtain ⟨_, _, _, _, _, _⟩ := sqY3 B0) | ((with_reducible refine sqc 65 rfl ?_); refine sqC (some 8) func65 #[.slice A0_2 l0_2.length c0_2, .int .i64 a1] ?_; (with_reducible refine (laws_heldFractionS.calls k _ _ l0_2 a1 t0 _ ?side1 ?side2 A3.1).mono ?_); (case side1 => exact Z2); (case side2 => exact Z3); rintro e w' ⟨rfl, ⟨nd, rfl⟩⟩; refine ⟨_, rfl, ?_⟩))
  go_ret
  exact ⟨Z16, sqB1 HB E0⟩
 rw [if_neg c4] at H
 have c4b0 : decide (t0 < 0) = false := decide_eq_false c4
 clear c4
 obtain rfl := sqo H
 go_enter func20, ntmps20
 go_wp2_with (first | ((with_reducible refine sqd 2 rfl ?_); refine sqBx w (sqB HB) (cs := #[.int .i64 a0_0, .int .i64 a0_1, .slice A0_2 l0_2.length c0_2]) (t := 34) ?_; intro g0 hg w7 B0 E0 HB hb; clear hb hg; obtain ⟨_, _, _, _, _, _⟩ := sqY3 B0) | ((with_reducible refine sqc 65 rfl ?_); refine sqC (some 8) func65 #[.slice A0_2 l0_2.length c0_2, .int .i64 a1] ?_; (with_reducible refine (laws_heldFractionS.calls k _ _ l0_2 a1 t0 _ ?side1 ?side2 A3.1).mono ?_); (case side1 => exact Z2); (case side2 => exact Z3); rintro e w' ⟨rfl, ⟨nd, rfl⟩⟩; refine ⟨_, rfl, ?_⟩))
 go_ret
 exact ⟨Z16, sqB1 HB E0⟩

/-! ### laws_szStringS: function 45 -/
def laws_szStringS.l0 : Nat → List ByteArray → Int → Int → Option (Int)
 | 0, _, _, _ => none
 | k + 1, x0, x1, x5 => if x5 < (x0.length : Int) then (if 0 ≤ x5 then (if (wrap64 (x1 - ((rdOf ByteArray.empty x0 x5).size : Int))) < 0 then (some (-1)) else (laws_szStringS.l0 k x0 (wrap64 (x1 - ((rdOf ByteArray.empty x0 x5).size : Int))) (wrap64 (x5 + 1)))) else (none)) else (some x1)
def laws_szStringS.f (k : Nat) (l0 : List ByteArray) (a1 : Int) : Option (Int) := if (wrap64 (a1 - (l0.length : Int))) < 0 then (some (-1)) else (laws_szStringS.l0 k l0 (wrap64 (a1 - (l0.length : Int))) 0)
abbrev laws_szStringS.M (k : Nat) : Prop := (∀ y0 y1 y2, LeO (laws_szStringS.l0 k y0 y1 y2) (laws_szStringS.l0 (k + 1) y0 y1 y2))
theorem laws_szStringS.mono_t : ∀ k, laws_szStringS.M k → laws_szStringS.M (k + 1) ∧ ∀ a0 a1, LeO (laws_szStringS.f k a0 a1) (laws_szStringS.f (k + 1) a0 a1) := by
  rintro k ih0
  refine ⟨?_, ?_⟩ <;> (try unfold laws_szStringS.M) <;> intros <;> (first | unfold laws_szStringS.l0 | unfold laws_szStringS.f) <;> repeat' (with_reducible first | exact ih0 _ _ _ | exact LeO.refl _ | exact LeO.none _ | refine LeO.ite ?_ ?_ | refine LeO.bind ?_ fun _ => ?_)
theorem laws_szStringS.mono_l : ∀ k, laws_szStringS.M k
 | 0 => fun _ _ _ r h => by simp [laws_szStringS.l0] at h
 | k + 1 => (laws_szStringS.mono_t k (laws_szStringS.mono_l k)).1
theorem laws_szStringS.mono a0 a1 k : LeO (laws_szStringS.f k a0 a1) (laws_szStringS.f (k + 1) a0 a1) := (laws_szStringS.mono_t k (laws_szStringS.mono_l k)).2 a0 a1
theorem laws_szStringS.calls (k : Nat) (A0 : Option Addr) (c0 : Nat) (l0 : List ByteArray) (a1 : Int) (r : Int) (w : World) (hr0 : Kd.C Kd.string w A0 l0.length l0) (hc0 : l0.length ≤ c0) (H : laws_szStringS.f k l0 a1 = some r) :
  Calls prog 45 #[.slice A0 l0.length c0, .int .i64 a1] w fun e w' => e = .returned (.int .i64 r) ∧ Drawn0 w w' := by
 have HR0 := sqa hr0
 have HC0 := sqa hc0
 clear hr0 hc0
 unfold laws_szStringS.f at H
 by_cases c3 : (wrap64 (a1 - (l0.length : Int))) < 0
 ·rw [if_pos c3] at H
  have c3b0 : decide ((wrap64 (a1 - (l0.length : Int))) < 0) = true := decide_eq_true c3
  clear c3
  obtain rfl := sqo H
  go_enter func45, ntmps45
  go_wp2
  go_ret
  exact ⟨Z4, Z51⟩
 rw [if_neg c3] at H
 have c3b0 : decide ((wrap64 (a1 - (l0.length : Int))) < 0) = false := decide_eq_false c3
 clear c3
 have H' := sqa H
 clear H
 go_enter func45, ntmps45
 go_wp2
 go_loopg [1, 5] k (fun kq v1 v5 w' => ∃ (x1_1 : Int) (x5_1 : Int), v1 = .int .i64 x1_1 ∧ v5 = .int .i64 x5_1 ∧ Aside0 (laws_szStringS.l0 kq l0 x1_1 x5_1 = some r) ∧ Aside0 (kq ≤ k) ∧ Drawn0 w w')
 case atStart => exact ⟨(wrap64 (a1 - (l0.length : Int))), (0), Z4, Z4, H', ⟨Nat.le_refl _⟩, Z51⟩
 case round =>
  clear H'
  obtain ⟨x1_1, x5_1, rfl, rfl, HA, HK1, ⟨m1, rfl⟩⟩ := hrel
  cases gk with
  | zero => exact absurd HA.out (by simp [laws_szStringS.l0])
  | succ k1 =>
   have H := HA.out
   clear HA
   simp only [laws_szStringS.l0] at H
   by_cases c4 : x5_1 < (l0.length : Int)
   ·rw [if_pos c4] at H
    have c4b0 : decide (x5_1 < (l0.length : Int)) = true := decide_eq_true c4
    clear c4
    obtain ⟨c5, H⟩ := sqI H
    have c5b0 : decide (0 ≤ x5_1) = true := decide_eq_true c5
    clear c5
    by_cases c6 : (wrap64 (x1_1 - ((rdOf ByteArray.empty l0 x5_1).size : Int))) < 0
    ·rw [if_pos c6] at H
     have c6b0 : decide ((wrap64 (x1_1 - ((rdOf ByteArray.empty l0 x5_1).size : Int))) < 0) = true := decide_eq_true c6
     clear c6
     obtain rfl := sqo H
     have p0 : 0 ≤ (x5_1 : Int) := of_decide_eq_true Z9
     have q0 : x5_1 < (l0.length : Int) := of_decide_eq_true Z9
     obtain ⟨ad0, e0, hx0⟩ := Kd.at_string HR0.1 x5_1 p0 q0
     cases e0
     replace p0 := eq_true p0
     replace q0 := eq_true q0
     go_wp2
     go_ret
     exact ⟨Z4, Z51⟩
    rw [if_neg c6] at H
    have c6b0 : decide ((wrap64 (x1_1 - ((rdOf ByteArray.empty l0 x5_1).size : Int))) < 0) = false := decide_eq_false c6
    clear c6
    have H' := sqa H
    clear H
    have p0 : 0 ≤ (x5_1 : Int) := of_decide_eq_true Z9
    have q0 : x5_1 < (l0.length : Int) := of_decide_eq_true Z9
    obtain ⟨ad0, e0, hx0⟩ := Kd.at_string HR0.1 x5_1 p0 q0
    cases e0
    replace p0 := eq_true p0
    replace q0 := eq_true q0
    go_wp2
    go_roundg k1
    case measure => have := HK1.out; omega
    case rel => exact ⟨(wrap64 (x1_1 - ((rdOf ByteArray.empty l0 x5_1).size : Int))), (wrap64 (x5_1 + 1)), Z4, Z4, H', ⟨Z17 HK1⟩, Z51⟩
   rw [if_neg c4] at H
   have c4b0 : decide (x5_1 < (l0.length : Int)) = false := decide_eq_false c4
   clear c4
   obtain rfl := sqo H
   go_wp2
   go_ret
   exact ⟨Z4, Z51⟩

/-! ### spec_l1In: function 101 -/
def spec_l1In.f (a0 : Int) (a1 : Int) (a2 : Int) : Option (Bool) := if a0 ≥ a1 then (some (decide (a0 ≤ a2))) else (some false)
theorem spec_l1In.calls (a0 : Int) (a1 : Int) (a2 : Int) (r : Bool) (w : World) (H : spec_l1In.f a0 a1 a2 = some r) :
  Calls prog 101 #[.int .i64 a0, .int .i64 a1, .int .i64 a2] w fun e w' => e = .returned (.bool r) ∧ Drawn0 w w' := by
 unfold spec_l1In.f at H
 by_cases c4 : a0 ≥ a1
 ·rw [if_pos c4] at H
  have c4b0 : decide (a1 ≤ a0) = true := decide_eq_true c4
  clear c4
  obtain rfl := sqo H
  go_enter func101, ntmps101
  go_wp2
  go_ret
  exact ⟨Z4, Z51⟩
 rw [if_neg c4] at H
 have c4b0 : decide (a1 ≤ a0) = false := decide_eq_false c4
 clear c4
 obtain rfl := sqo H
 go_enter func101, ntmps101
 go_wp2
 go_ret
 exact ⟨Z4, Z51⟩

/-! ### spec_l1Common: function 121 -/
def spec_l1Common.l0 : Nat → Int → Int → Option (Int)
 | 0, _, _ => none
 | k + 1, x0, x1 => if x1 > 0 then (if x1 = 0 then (none) else (spec_l1Common.l0 k x1 (Int.tmod x0 x1))) else (some x0)
def spec_l1Common.f (k : Nat) (a0 : Int) (a1 : Int) : Option (Int) := spec_l1Common.l0 k (mx a0 (wrap64 (-a0))) (mx a1 (wrap64 (-a1)))
abbrev spec_l1Common.M (k : Nat) : Prop := (∀ y0 y1, LeO (spec_l1Common.l0 k y0 y1) (spec_l1Common.l0 (k + 1) y0 y1))
theorem spec_l1Common.mono_t : ∀ k, spec_l1Common.M k → spec_l1Common.M (k + 1) ∧ ∀ a0 a1, LeO (spec_l1Common.f k a0 a1) (spec_l1Common.f (k + 1) a0 a1) := by
  rintro k ih0
  refine ⟨?_, ?_⟩ <;> (try unfold spec_l1Common.M) <;> intros <;> (first | unfold spec_l1Common.l0 | unfold spec_l1Common.f) <;> repeat' (with_reducible first | exact ih0 _ _ | exact LeO.refl _ | exact LeO.none _ | refine LeO.ite ?_ ?_ | refine LeO.bind ?_ fun _ => ?_)
theorem spec_l1Common.mono_l : ∀ k, spec_l1Common.M k
 | 0 => fun _ _ r h => by simp [spec_l1Common.l0] at h
 | k + 1 => (spec_l1Common.mono_t k (spec_l1Common.mono_l k)).1
theorem spec_l1Common.mono a0 a1 k : LeO (spec_l1Common.f k a0 a1) (spec_l1Common.f (k + 1) a0 a1) := (spec_l1Common.mono_t k (spec_l1Common.mono_l k)).2 a0 a1
theorem spec_l1Common.calls (k : Nat) (a0 : Int) (a1 : Int) (r : Int) (w : World) (H : spec_l1Common.f k a0 a1 = some r) :
  Calls prog 121 #[.int .i64 a0, .int .i64 a1] w fun e w' => e = .returned (.int .i64 r) ∧ Below w.heap.size w w' := by
 have HB := sqh w
 unfold spec_l1Common.f at H
 obtain ⟨ji3, hji3⟩ : ∃ j_ : Int, (mx a0 (wrap64 (-a0))) = j_ := ⟨_, rfl⟩
 replace H : (spec_l1Common.l0 k ji3 (mx a1 (wrap64 (-a1)))) = some r := by first | (rw [hji3] at H; exact H) | (simp only [hji3] at H ⊢; exact H)
 have hji3_ : (if a0 < (wrap64 (-a0)) then (wrap64 (-a0)) else a0) = ji3 := hji3
 obtain ⟨ji4, hji4⟩ : ∃ j_ : Int, (mx a1 (wrap64 (-a1))) = j_ := ⟨_, rfl⟩
 replace H : (spec_l1Common.l0 k ji3 ji4) = some r := by first | (rw [hji4] at H; exact H) | (simp only [hji4] at H ⊢; exact H)
 have hji4_ : (if a1 < (wrap64 (-a1)) then (wrap64 (-a1)) else a1) = ji4 := hji4
 have H' := sqa H
 clear H
 go_enter func121, ntmps121
 go_wp2
 go_loopg [0, 1] k (fun kq v0 v1 w' => ∃ (x0_1 : Int) (x1_1 : Int), v0 = .int .i64 x0_1 ∧ v1 = .int .i64 x1_1 ∧ Aside0 (spec_l1Common.l0 kq x0_1 x1_1 = some r) ∧ Aside0 (kq ≤ k) ∧ Aside0 (Below w.heap.size w w'))
 case atStart => exact ⟨(ji3), (ji4), (by first | rfl | (simp; done) | (simp only [← hji3] <;> (first | rfl | simp)) | (simp [*]; done)), (by first | rfl | (simp; done) | (simp only [← hji4] <;> (first | rfl | simp)) | (simp [*]; done)), H', ⟨Nat.le_refl _⟩, ⟨sqB HB⟩⟩
 case round =>
  clear H'
  obtain ⟨x0_1, x1_1, rfl, rfl, HA, HK1, HB⟩ := hrel
  cases gk with
  | zero => exact absurd HA.out (by simp [spec_l1Common.l0])
  | succ k1 =>
   have H := HA.out
   clear HA
   simp only [spec_l1Common.l0] at H
   by_cases c5 : x1_1 > 0
   ·rw [if_pos c5] at H
    have c5b0 : decide (0 < x1_1) = true := decide_eq_true c5
    clear c5
    by_cases c6 : x1_1 = 0
    ·rw [if_pos c6] at H
     exact absurd H (by simp)
    rw [if_neg c6] at H
    have c6b0 : (x1_1 == 0) = false := sqe0 c6
    have c6b1 : (x1_1 != 0) = true := sqn1 c6
    have H' := sqa H
    clear H
    go_wp2
    go_roundg k1
    case measure => have := HK1.out; omega
    case rel => exact ⟨(x1_1), (Int.tmod x0_1 x1_1), Z4, Z4, H', ⟨Z17 HK1⟩, ⟨sqB HB⟩⟩
   rw [if_neg c5] at H
   have c5b0 : decide (0 < x1_1) = false := decide_eq_false c5
   clear c5
   obtain rfl := sqo H
   go_wp2
   go_ret
   exact ⟨by first | rfl | (simp [errP_none, errP_some] <;> rfl) | (simp only [← hji3, ← hji4]; first | rfl | (simp [errP_none, errP_some] <;> rfl)) | (simp [*, errP_none, errP_some] <;> rfl), sqB HB⟩

/-! ### spec_FractionOk: function 77 -/
def spec_FractionOk.f (k : Nat) (a0_0 : Int) (a0_1 : Int) : Option (Bool) := (spec_l1In.f a0_0 (-1000000) 1000000).bind fun t0 => (if t0 = true then ((spec_l1In.f a0_1 0 1000000).bind fun t1 => (if t1 = true then ((spec_l1Common.f k a0_0 a0_1).bind fun t2 => (if t2 = 1 then (if a0_1 > 0 then (some true) else (some (a0_0 == 1))) else (some false))) else (some false))) else (some false))
theorem spec_FractionOk.mono : ∀ a0 a1 k, LeO (spec_FractionOk.f k a0 a1) (spec_FractionOk.f (k + 1) a0 a1) := by
 intro a0 a1 k
 unfold spec_FractionOk.f
 repeat' (with_reducible first | exact spec_l1Common.mono _ _ _ | exact LeO.refl _ | exact LeO.none _ | refine LeO.ite ?_ ?_ | refine LeO.bind ?_ fun _ => ?_)
theorem spec_FractionOk.calls (k : Nat) (a0_0 : Int) (a0_1 : Int) (r : Bool) (w : World) (H : spec_FractionOk.f k a0_0 a0_1 = some r) :
  Calls prog 77 #[.agg #[.int .i64 a0_0, .int .i64 a0_1]] w fun e w' => e = .returned (.bool r) ∧ Below w.heap.size w w' := by
 have hu31 := underlying31
 have HB := sqh w
 unfold spec_FractionOk.f at H
 obtain ⟨t0, A2, H⟩ := sqD H
 by_cases c3 : t0 = true
 ·subst c3
  rw [if_pos rfl] at H
  obtain ⟨t1, A4, H⟩ := sqD H
  by_cases c5 : t1 = true
  ·subst c5
   rw [if_pos rfl] at H
   obtain ⟨t2, A6, H⟩ := sqD H
   by_cases c7 : t2 = 1
   ·rw [if_pos c7] at H
    have c7b0 : (t2 == 1) = true := sqe1 c7
    have c7b1 : (t2 != 1) = false := sqn0 c7
    clear c7
    by_cases c8 : a0_1 > 0
    ·rw [if_pos c8] at H
     have c8b0 : decide (0 < a0_1) = true := decide_eq_true c8
     clear c8
     obtain rfl := sqo H
     go_enter func77, ntmps77
     go_wp2_with (first | ((with_reducible refine sqd 1 rfl ?_); refine sqBx w (sqB HB) (cs := #[.int .i64 a0_0, .int .i64 a0_1]) (t := 31) ?_; intro g0 hg w9 B0 E0 HB hb; clear hb hg; obtain ⟨_, _, _, _⟩ := sqY2 B0) | ((with_reducible refine sqc 101 rfl ?_); refine sqC (some 5) func101 #[.int .i64 a0_0, .int .i64 (-1000000), .int .i64 1000000] ?_; (with_reducible refine (spec_l1In.calls a0_0 (-1000000) 1000000 true _ A2.1).mono ?_); rintro e w' ⟨rfl, ⟨nd, rfl⟩⟩; refine ⟨_, rfl, ?_⟩) | (go_at_call 101; (with_reducible refine (spec_l1In.calls a0_1 0 1000000 true _ A4.1).mono ?_); rintro e w' ⟨rfl, ⟨nd, rfl⟩⟩) | ((with_reducible refine sqc 121 rfl ?_); refine sqC (some 17) func121 #[.int .i64 a0_0, .int .i64 a0_1] ?_; (with_reducible refine (spec_l1Common.calls k a0_0 a0_1 t2 _ A6.1).mono ?_); refine sqV fun w11 hb => ?_; replace B0 := sqT B0 hb; replace HB := sqS (sqB1 HB E0) hb; (try clear hb); obtain ⟨_, _, _, _⟩ := sqY2 B0))
     go_ret
     exact ⟨Z16, sqB1 HB E0⟩
    rw [if_neg c8] at H
    have c8b0 : decide (0 < a0_1) = false := decide_eq_false c8
    clear c8
    obtain rfl := sqo H
    go_enter func77, ntmps77
    go_wp2_with (first | ((with_reducible refine sqd 1 rfl ?_); refine sqBx w (sqB HB) (cs := #[.int .i64 a0_0, .int .i64 a0_1]) (t := 31) ?_; intro g0 hg w13 B0 E0 HB hb; clear hb hg; obtain ⟨_, _, _, _⟩ := sqY2 B0) | ((with_reducible refine sqc 101 rfl ?_); refine sqC (some 5) func101 #[.int .i64 a0_0, .int .i64 (-1000000), .int .i64 1000000] ?_; (with_reducible refine (spec_l1In.calls a0_0 (-1000000) 1000000 true _ A2.1).mono ?_); rintro e w' ⟨rfl, ⟨nd, rfl⟩⟩; refine ⟨_, rfl, ?_⟩) | (go_at_call 101; (with_reducible refine (spec_l1In.calls a0_1 0 1000000 true _ A4.1).mono ?_); rintro e w' ⟨rfl, ⟨nd, rfl⟩⟩) | ((with_reducible refine sqc 121 rfl ?_); refine sqC (some 17) func121 #[.int .i64 a0_0, .int .i64 a0_1] ?_; (with_reducible refine (spec_l1Common.calls k a0_0 a0_1 t2 _ A6.1).mono ?_); refine sqV fun w15 hb => ?_; replace B0 := sqT B0 hb; replace HB := sqS (sqB1 HB E0) hb; (try clear hb); obtain ⟨_, _, _, _⟩ := sqY2 B0))
    go_ret
    exact ⟨Z16, sqB1 HB E0⟩
   rw [if_neg c7] at H
   have c7b0 : (t2 == 1) = false := sqe0 c7
   have c7b1 : (t2 != 1) = true := sqn1 c7
   obtain rfl := sqo H
   go_enter func77, ntmps77
   go_wp2_with (first | ((with_reducible refine sqd 1 rfl ?_); refine sqBx w (sqB HB) (cs := #[.int .i64 a0_0, .int .i64 a0_1]) (t := 31) ?_; intro g0 hg w17 B0 E0 HB hb; clear hb hg; obtain ⟨_, _, _, _⟩ := sqY2 B0) | ((with_reducible refine sqc 101 rfl ?_); refine sqC (some 5) func101 #[.int .i64 a0_0, .int .i64 (-1000000), .int .i64 1000000] ?_; (with_reducible refine (spec_l1In.calls a0_0 (-1000000) 1000000 true _ A2.1).mono ?_); rintro e w' ⟨rfl, ⟨nd, rfl⟩⟩; refine ⟨_, rfl, ?_⟩) | (go_at_call 101; (with_reducible refine (spec_l1In.calls a0_1 0 1000000 true _ A4.1).mono ?_); rintro e w' ⟨rfl, ⟨nd, rfl⟩⟩) | ((with_reducible refine sqc 121 rfl ?_); refine sqC (some 17) func121 #[.int .i64 a0_0, .int .i64 a0_1] ?_; (with_reducible refine (spec_l1Common.calls k a0_0 a0_1 t2 _ A6.1).mono ?_); refine sqV fun w19 hb => ?_; replace B0 := sqT B0 hb; replace HB := sqS (sqB1 HB E0) hb; (try clear hb)))
   go_ret
   exact ⟨Z16, sqB1 HB E0⟩
  obtain rfl := sqb c5
  rw [if_neg sqF] at H
  obtain rfl := sqo H
  go_enter func77, ntmps77
  go_wp2_with (first | ((with_reducible refine sqd 1 rfl ?_); refine sqBx w (sqB HB) (cs := #[.int .i64 a0_0, .int .i64 a0_1]) (t := 31) ?_; intro g0 hg w20 B0 E0 HB hb; clear hb hg; obtain ⟨_, _, _, _⟩ := sqY2 B0) | ((with_reducible refine sqc 101 rfl ?_); refine sqC (some 5) func101 #[.int .i64 a0_0, .int .i64 (-1000000), .int .i64 1000000] ?_; (with_reducible refine (spec_l1In.calls a0_0 (-1000000) 1000000 true _ A2.1).mono ?_); rintro e w' ⟨rfl, ⟨nd, rfl⟩⟩; refine ⟨_, rfl, ?_⟩) | (go_at_call 101; (with_reducible refine (spec_l1In.calls a0_1 0 1000000 false _ A4.1).mono ?_); rintro e w' ⟨rfl, ⟨nd, rfl⟩⟩))
  go_ret
  exact ⟨Z16, sqB1 HB E0⟩
 obtain rfl := sqb c3
 rw [if_neg sqF] at H
 obtain rfl := sqo H
 go_enter func77, ntmps77
 go_wp2_with (first | ((with_reducible refine sqd 1 rfl ?_); refine sqBx w (sqB HB) (cs := #[.int .i64 a0_0, .int .i64 a0_1]) (t := 31) ?_; intro g0 hg w22 B0 E0 HB hb; clear hb hg; obtain ⟨_, _, _, _⟩ := sqY2 B0) | ((with_reducible refine sqc 101 rfl ?_); refine sqC (some 5) func101 #[.int .i64 a0_0, .int .i64 (-1000000), .int .i64 1000000] ?_; (with_reducible refine (spec_l1In.calls a0_0 (-1000000) 1000000 false _ A2.1).mono ?_); rintro e w' ⟨rfl, ⟨nd, rfl⟩⟩; refine ⟨_, rfl, ?_⟩))
 go_ret
 exact ⟨Z16, sqB1 HB E0⟩

/-! ### spec_DeskOk: function 30 -/
def spec_DeskOk.l0 : Nat → Int → Int → Int → List (S31) → Option (Bool)
 | 0, _, _, _, _ => none
 | k + 1, x3, x0, x1, x2 => if x3 < (x2.length : Int) then (if 0 ≤ x3 then ((spec_FractionOk.f k ((rd_T31 x2 x3).f0) ((rd_T31 x2 x3).f1)).bind fun t0 => (if t0 = true then (spec_DeskOk.l0 k (wrap64 (x3 + 1)) x0 x1 x2) else (some false))) else (none)) else ((spec_FractionOk.f k x0 x1).bind fun t1 => (if t1 = true then (some (decide ((x2.length : Int) ≤ 8))) else (some false)))
def spec_DeskOk.f (k : Nat) (a0_0 : Int) (a0_1 : Int) (l0_2 : List (S31)) : Option (Bool) := spec_DeskOk.l0 k 0 a0_0 a0_1 l0_2
abbrev spec_DeskOk.M (k : Nat) : Prop := (∀ y0 y1 y2 y3, LeO (spec_DeskOk.l0 k y0 y1 y2 y3) (spec_DeskOk.l0 (k + 1) y0 y1 y2 y3))
theorem spec_DeskOk.mono_t : ∀ k, spec_DeskOk.M k → spec_DeskOk.M (k + 1) ∧ ∀ a0 a1 a2, LeO (spec_DeskOk.f k a0 a1 a2) (spec_DeskOk.f (k + 1) a0 a1 a2) := by
  rintro k ih0
  refine ⟨?_, ?_⟩ <;> (try unfold spec_DeskOk.M) <;> intros <;> (first | unfold spec_DeskOk.l0 | unfold spec_DeskOk.f) <;> repeat' (with_reducible first | exact ih0 _ _ _ _ | exact spec_FractionOk.mono _ _ _ | exact LeO.refl _ | exact LeO.none _ | refine LeO.ite ?_ ?_ | refine LeO.bind ?_ fun _ => ?_)
theorem spec_DeskOk.mono_l : ∀ k, spec_DeskOk.M k
 | 0 => fun _ _ _ _ r h => by simp [spec_DeskOk.l0] at h
 | k + 1 => (spec_DeskOk.mono_t k (spec_DeskOk.mono_l k)).1
theorem spec_DeskOk.mono a0 a1 a2 k : LeO (spec_DeskOk.f k a0 a1 a2) (spec_DeskOk.f (k + 1) a0 a1 a2) := (spec_DeskOk.mono_t k (spec_DeskOk.mono_l k)).2 a0 a1 a2
theorem spec_DeskOk.calls (k : Nat) (a0_0 : Int) (a0_1 : Int) (A0_2 : Option Addr) (c0_2 : Nat) (l0_2 : List (S31)) (r : Bool) (w : World) (hr0_2 : Kd.C k31 w A0_2 l0_2.length l0_2) (hc0_2 : l0_2.length ≤ c0_2) (H : spec_DeskOk.f k a0_0 a0_1 l0_2 = some r) :
  Calls prog 30 #[.agg #[.int .i64 a0_0, .int .i64 a0_1, .slice A0_2 l0_2.length c0_2]] w fun e w' => e = .returned (.bool r) ∧ Below w.heap.size w w' := by
 have hu34 := underlying34
 have hu31 := underlying31
 have HR0_2 := sqa hr0_2
 have HC0_2 := sqa hc0_2
 clear hr0_2 hc0_2
 have HB := sqh w
 unfold spec_DeskOk.f at H
 have H' := sqa H
 clear H
 go_enter func30, ntmps30
 go_wp2_with (first | ((with_reducible refine sqd 1 rfl ?_); (try (refine gate_guard (by rfl) ?_; dsimp only)); refine sqBx w (sqB HB) (cs := #[.int .i64 a0_0, .int .i64 a0_1, .slice A0_2 l0_2.length c0_2]) (t := 34) ?_; intro g0 hg w2 B0 E0 HB hb; clear hb hg))
 go_loopg [3] k (fun kq v3 w' => ∃ (x3_1 : Int), v3 = .int .i64 x3_1 ∧ Aside0 (spec_DeskOk.l0 kq x3_1 a0_0 a0_1 l0_2 = some r) ∧ Aside0 (kq ≤ k) ∧ Aside0 (w'.heap[g0]? = some (.cells #[.int .i64 a0_0, .int .i64 a0_1, (.slice A0_2 l0_2.length c0_2)] 34 (0, 0))) ∧ Aside0 (Below w.heap.size w w'))
 case atStart => exact ⟨(0), Z4, H', ⟨Nat.le_refl _⟩, ⟨sqK B0⟩, ⟨sqB1 HB E0⟩⟩
 case round =>
  clear H'
  obtain ⟨x3_1, rfl, HA, HK1, B0, HB⟩ := hrel
  cases gk with
  | zero => exact absurd HA.out (by simp [spec_DeskOk.l0])
  | succ k1 =>
   have H := HA.out
   clear HA
   simp only [spec_DeskOk.l0] at H
   by_cases c3 : x3_1 < (l0_2.length : Int)
   ·rw [if_pos c3] at H
    have c3b0 : decide (x3_1 < (l0_2.length : Int)) = true := decide_eq_true c3
    clear c3
    obtain ⟨c4, H⟩ := sqI H
    have c4b0 : decide (0 ≤ x3_1) = true := decide_eq_true c4
    clear c4
    obtain ⟨t0, A5, H⟩ := sqD H
    by_cases c6 : t0 = true
    ·subst c6
     rw [if_pos rfl] at H
     have H' := sqa H
     clear H
     obtain ⟨_, _, _, _, _, _⟩ := sqY3 B0
     have p0 : 0 ≤ (x3_1 : Int) := of_decide_eq_true Z9
     have q0 : x3_1 < (l0_2.length : Int) := of_decide_eq_true Z9
     obtain ⟨ad0, e0, hx0, hx1⟩ := at_T31 HR0_2.1 x3_1 p0 q0
     cases e0
     replace hx0 := (HB.1.cell (World.block_lt_of_cell? w _ hx0)).trans hx0
     replace hx1 := (HB.1.cell (World.block_lt_of_cell? w _ hx1)).trans hx1
     replace p0 := eq_true p0
     replace q0 := eq_true q0
     go_wp2_with (first | ((with_reducible refine sqc 77 rfl ?_); refine sqC (some 16) func77 #[.agg #[.int .i64 ((rd_T31 l0_2 x3_1).f0), .int .i64 ((rd_T31 l0_2 x3_1).f1)]] ?_; (with_reducible refine (spec_FractionOk.calls k1 ((rd_T31 l0_2 x3_1).f0) ((rd_T31 l0_2 x3_1).f1) true _ A5.1).mono ?_); refine sqV fun w8 hb => ?_; replace B0 := sqT B0 hb; replace HB := sqS (sqB1 HB E0) hb; (try clear hb)))
     go_roundg k1
     case measure => have := HK1.out; omega
     case rel => exact ⟨(wrap64 (x3_1 + 1)), Z4, H', ⟨Z17 HK1⟩, ⟨sqK B0⟩, ⟨sqB1 HB E0⟩⟩
    obtain rfl := sqb c6
    rw [if_neg sqF] at H
    obtain rfl := sqo H
    obtain ⟨_, _, _, _, _, _⟩ := sqY3 B0
    have p0 : 0 ≤ (x3_1 : Int) := of_decide_eq_true Z9
    have q0 : x3_1 < (l0_2.length : Int) := of_decide_eq_true Z9
    obtain ⟨ad0, e0, hx0, hx1⟩ := at_T31 HR0_2.1 x3_1 p0 q0
    cases e0
    replace hx0 := (HB.1.cell (World.block_lt_of_cell? w _ hx0)).trans hx0
    replace hx1 := (HB.1.cell (World.block_lt_of_cell? w _ hx1)).trans hx1
    replace p0 := eq_true p0
    replace q0 := eq_true q0
    go_wp2_with (first | ((with_reducible refine sqc 77 rfl ?_); refine sqC (some 16) func77 #[.agg #[.int .i64 ((rd_T31 l0_2 x3_1).f0), .int .i64 ((rd_T31 l0_2 x3_1).f1)]] ?_; (with_reducible refine (spec_FractionOk.calls k1 ((rd_T31 l0_2 x3_1).f0) ((rd_T31 l0_2 x3_1).f1) false _ A5.1).mono ?_); refine sqV fun w10 hb => ?_; replace B0 := sqT B0 hb; replace HB := sqS (sqB1 HB E0) hb; (try clear hb)))
    go_ret
    exact ⟨Z16, sqB1 HB E0⟩
   rw [if_neg c3] at H
   have c3b0 : decide (x3_1 < (l0_2.length : Int)) = false := decide_eq_false c3
   clear c3
   obtain ⟨t1, A11, H⟩ := sqD H
   by_cases c12 : t1 = true
   ·subst c12
    rw [if_pos rfl] at H
    obtain rfl := sqo H
    obtain ⟨_, _, _, _, _, _⟩ := sqY3 B0
    go_wp2_with (first | ((with_reducible refine sqc 77 rfl ?_); refine sqC (some 20) func77 #[.agg #[.int .i64 a0_0, .int .i64 a0_1]] ?_; (with_reducible refine (spec_FractionOk.calls k1 a0_0 a0_1 true _ A11.1).mono ?_); refine sqV fun w14 hb => ?_; replace B0 := sqT B0 hb; replace HB := sqS (sqB1 HB E0) hb; (try clear hb); obtain ⟨_, _, _, _, _, _⟩ := sqY3 B0))
    go_ret
    exact ⟨Z16, sqB1 HB E0⟩
   obtain rfl := sqb c12
   rw [if_neg sqF] at H
   obtain rfl := sqo H
   obtain ⟨_, _, _, _, _, _⟩ := sqY3 B0
   go_wp2_with (first | ((with_reducible refine sqc 77 rfl ?_); refine sqC (some 20) func77 #[.agg #[.int .i64 a0_0, .int .i64 a0_1]] ?_; (with_reducible refine (spec_FractionOk.calls k1 a0_0 a0_1 false _ A11.1).mono ?_); refine sqV fun w17 hb => ?_; replace B0 := sqT B0 hb; replace HB := sqS (sqB1 HB E0) hb; (try clear hb)))
   go_ret
   exact ⟨Z16, sqB1 HB E0⟩

end Go.Proofs.YtofmlbgfcohhoaaGreatDoor.PFnExactDeskSay
