/- Lean functions of the Go functions that the law FnExactDeskLine reaches, each with its contract: made by a program of this session. -/
import Derived.Test.YtofmlbgfcohhoaaGreatDoorPFnExactDeskLinex3
namespace Go.Proofs.YtofmlbgfcohhoaaGreatDoor.PFnExactDeskLine
open Go.RowKit Go.Proofs.YtofmlbgfcohhoaaGreatDoorW.PrintWords Go.Proofs.YtofmlbgfcohhoaaGreatDoorW.PrintLast Go.Proofs.YtofmlbgfcohhoaaGreatDoorW.PrintMore Go.Proofs.YtofmlbgfcohhoaaGreatDoor.Lib
attribute [local go_sem] max2_int min2_int max_two min_two max_three min_three max_four min_four   -- for this text's walks alone
set_option linter.unusedVariables false
set_option linter.unusedSimpArgs false

/-! ### laws_markDesk: function 19 -/
def laws_markDesk.f (k : Nat) (a0_0 : Int) (a0_1 : Int) (l0_2 : List (S31)) (a1 : Int) : Option (Int × (List (S31))) := (laws_markFractionS.f k l0_2 a1).bind fun bt133 => (some (bt133.1, bt133.2))
theorem laws_markDesk.mono : ∀ a0 a1 a2 a3 k, LeO (laws_markDesk.f k a0 a1 a2 a3) (laws_markDesk.f (k + 1) a0 a1 a2 a3) := by
 intro a0 a1 a2 a3 k
 unfold laws_markDesk.f
 repeat' (with_reducible first | exact laws_markFractionS.mono _ _ _ | exact LeO.refl _ | exact LeO.none _ | refine LeO.ite ?_ ?_ | refine LeO.bind ?_ fun _ => ?_)
set_option maxHeartbeats 8000000 in
set_option maxRecDepth 100000 in
theorem laws_markDesk.calls (k : Nat) (a0_0 : Int) (a0_1 : Int) (P0_2_ : Nat → Prop) (u9000_ : Value) (l0_2 : List (S31)) (a1 : Int) (r1 : Int) (r2 : List (S31)) (w0 w : World) (hB : Below w0.heap.size w0 w) (ho0_2 : Kd.R k31 31 w w0.heap.size P0_2_ u9000_ l0_2) (h : laws_markDesk.f k a0_0 a0_1 l0_2 a1 = some (r1, r2)) :
  Calls Tryz.prog 19 #[.agg #[.int .i64 a0_0, .int .i64 a0_1, u9000_], .int .i64 a1] w fun e w' => e = .returned (.int .i64 r1) ∧ Kd.R k31 31 w' w0.heap.size (fun k_ => (P0_2_ k_ ∨ w.heap.size ≤ k_)) u9000_ r2 ∧ Below w0.heap.size w0 w' ∧ Kept w w' (fun k_ => P0_2_ k_) := by
 have hu34 := Tryz.underlying34
 have HO0_2 := Aside0.mk (show Kd.R k31 31 w w0.heap.size (fun k_ => (P0_2_ k_ ∨ w.heap.size ≤ k_)) u9000_ l0_2 from Kd.R_mono ho0_2 (fun k_ hk => (.inl hk)))
 have HK := Aside0.mk (Kept.refl w (fun k_ => P0_2_ k_))
 have HW0 := Aside0.mk hB.size
 have HB := Aside0.mk hB
 clear hB
 unfold laws_markDesk.f at h
 have H := h
 clear h
 obtain ⟨⟨t133, t134⟩, A3, H⟩ := sqD H
 try dsimp only at H
 obtain ⟨rfl, rfl⟩ := sqO2 H
 obtain ⟨Ao4, co4, eo4⟩ := Kd.R_slice HO0_2.out
 subst eo4
 go_enter Tryz.func19, Tryz.ntmps19
 go_wp2_with (first | ((with_reducible refine gate_dst (N := 2) rfl ?_); refine sqBox (N := 2) (cs := #[.int .i64 a0_0, .int .i64 a0_1, .slice Ao4 l0_2.length co4]) (t := 34) ?_; intro gb132 hg w5 BK132 hb; replace HO0_2 := sqU HO0_2 hb; have GW132 := Aside0.mk ((by rw [hg]; exact (by first | exact HK.out.1 | exact (show Kept w _ (fun k_ => P0_2_ k_) from by repeat (first | (with_reducible first | exact HK.out | apply Kept.alloc | apply Kept.drewN | apply Kept.drew) | exact HK.out)).1) : w.heap.size ≤ gb132)); replace HK := Aside0.mk (Kept.below (S := (fun k_ => P0_2_ k_)) Z72 hb); have GE132 := Aside0.mk ((by rw [hg]; exact (below_size (sqB HB)) : w0.heap.size ≤ gb132)); replace HB := sqS (sqB HB) hb; clear hb hg; obtain ⟨hcz6_0, hcz6_1, hcz6_2, hfz6_0, hfz6_1, hfz6_2⟩ := sqY3 BK132) | ((with_reducible refine gate_callee (f := 64) rfl ?_); refine sqC (some 8) Tryz.func64 #[.slice Ao4 l0_2.length co4, .int .i64 a1] ?_; (with_reducible refine (laws_markFractionS.calls k (fun k_ => some k_ = (.slice Ao4 l0_2.length co4 : Value).ownBlock) (.slice Ao4 l0_2.length co4) l0_2 a1 t133 t134 w0 _ ?side1 ?side2 A3.out).mono ?_); (case side1 => repeat (first | (with_reducible first | exact HB.out | apply below_alloc | apply pw_below_drewN | apply below_drew1 | refine below_set ?_ GE132.out) | exact HB.out)); (case side2 => exact Kd.R_tight rfl HO0_2.out); rintro e w7 ⟨rfl, hy0, hb, hkp⟩; refine ⟨_, rfl, ?_⟩; replace BK132 := Aside0.mk (blk_kept (sqK BK132) hkp (fun hs_ => (fun e_ => (Kd.R_ne HO0_2.out BK132.out (by decide)) e_) hs_)); replace HK := Aside0.mk (Kept.then_ (S := (fun k_ => P0_2_ k_)) (Z73 GW132) hkp (fun k_ hs_ => (fun e_ => (HO0_2.out.1 k_ e_.symm)) hs_)); replace HO0_2 := Aside0.mk (Kd.R_reok rfl hy0 (fun k_ e_ => HO0_2.out.1 k_ e_)); replace HB := Aside0.mk (hb); (try clear hb); (try clear hkp); (try clear hy0)))
 go_ret
 exact ⟨Z6, Z35 HO0_2, sqB1 HB GE132, Z73 GW132⟩

/-! ### laws_heldFractionS: function 65 -/
def laws_heldFractionS.l0 : Nat → List (S31) → Int → Int → Option (Int)
 | 0, _, _, _ => none
 | k + 1, x0, x1, x5 => if x5 < (x0.length : Int) then (if 0 ≤ x5 then (if ((rd_T31 x0 x5).f0) = x1 then (if ((rd_T31 x0 x5).f1) = (wrap64 (x1 + 1)) then (laws_heldFractionS.l0 k x0 (wrap64 ((wrap64 (x1 + 1)) + 1)) (wrap64 (x5 + 1))) else (some (-1))) else (some (-1))) else (none)) else (some x1)
def laws_heldFractionS.f (k : Nat) (l0 : List (S31)) (a1 : Int) : Option (Int) := laws_heldFractionS.l0 k l0 a1 0
abbrev laws_heldFractionS.M (k : Nat) : Prop := (∀ y0 y1 y2, LeO (laws_heldFractionS.l0 k y0 y1 y2) (laws_heldFractionS.l0 (k + 1) y0 y1 y2))
theorem laws_heldFractionS.mono_t : ∀ k, laws_heldFractionS.M k → laws_heldFractionS.M (k + 1) ∧ ∀ a0 a1, LeO (laws_heldFractionS.f k a0 a1) (laws_heldFractionS.f (k + 1) a0 a1) := by
  rintro k ih0
  refine ⟨?_, ?_⟩ <;> (try unfold laws_heldFractionS.M) <;> intros <;> (first | unfold laws_heldFractionS.l0 | unfold laws_heldFractionS.f) <;> repeat' (with_reducible first | exact ih0 _ _ _ | exact LeO.refl _ | exact LeO.none _ | refine LeO.ite ?_ ?_ | refine LeO.bind ?_ fun _ => ?_)
theorem laws_heldFractionS.mono_l : ∀ k, laws_heldFractionS.M k
 | 0 => fun _ _ _ r h => by simp [laws_heldFractionS.l0] at h
 | k + 1 => (laws_heldFractionS.mono_t k (laws_heldFractionS.mono_l k)).1
theorem laws_heldFractionS.mono a0 a1 k : LeO (laws_heldFractionS.f k a0 a1) (laws_heldFractionS.f (k + 1) a0 a1) := (laws_heldFractionS.mono_t k (laws_heldFractionS.mono_l k)).2 a0 a1
set_option maxHeartbeats 8000000 in
set_option maxRecDepth 100000 in
theorem laws_heldFractionS.calls (k : Nat) (A0 : Option Addr) (c0 : Nat) (l0 : List (S31)) (a1 : Int) (r : Int) (w : World) (hr0 : Kd.C k31 w A0 l0.length l0) (hc0 : l0.length ≤ c0) (h : laws_heldFractionS.f k l0 a1 = some r) :
  Calls Tryz.prog 65 #[.slice A0 l0.length c0, .int .i64 a1] w fun e w' => e = .returned (.int .i64 r) ∧ Drawn0 w w' := by
 have HR0 := Aside0.mk hr0
 have HC0 := Aside0.mk hc0
 clear hr0 hc0
 unfold laws_heldFractionS.f at h
 have H := h
 clear h
 have H' := Aside0.mk H
 clear H
 go_enter Tryz.func65, Tryz.ntmps65
 go_wp2
 go_loopg [1, 5] k (fun kq v1 v5 w' => ∃ (x1_1 : Int) (x5_1 : Int), v1 = .int .i64 x1_1 ∧ v5 = .int .i64 x5_1 ∧ Aside0 (laws_heldFractionS.l0 kq l0 x1_1 x5_1 = some r) ∧ Aside0 (kq ≤ k) ∧ Drawn0 w w')
 case atStart => exact ⟨(a1), (0), Z2, Z2, H', ⟨Nat.le_refl _⟩, Z19⟩
 case round =>
  clear H'
  obtain ⟨x1_1, x5_1, rfl, rfl, HA, HK1, ⟨m1, rfl⟩⟩ := hrel
  cases gk with
  | zero => exact absurd HA.out (by simp [laws_heldFractionS.l0])
  | succ k1 =>
   have H := HA.out
   clear HA
   simp only [laws_heldFractionS.l0] at H
   by_cases c3 : x5_1 < (l0.length : Int)
   ·rw [if_pos c3] at H
    have c3b0 : decide (x5_1 < (l0.length : Int)) = true := decide_eq_true c3
    clear c3
    obtain ⟨c4, H⟩ := sqI H
    have c4b0 : decide (0 ≤ x5_1) = true := decide_eq_true c4
    clear c4
    by_cases c5 : ((rd_T31 l0 x5_1).f0) = x1_1
    ·rw [if_pos c5] at H
     have c5b0 : (((rd_T31 l0 x5_1).f0) == x1_1) = true := beq_iff_eq.mpr c5
     have c5b1 : (((rd_T31 l0 x5_1).f0) != x1_1) = false := bne_eq_false_iff_eq.mpr c5
     clear c5
     by_cases c6 : ((rd_T31 l0 x5_1).f1) = (wrap64 (x1_1 + 1))
     ·rw [if_pos c6] at H
      have c6b0 : (((rd_T31 l0 x5_1).f1) == (wrap64 (x1_1 + 1))) = true := beq_iff_eq.mpr c6
      have c6b1 : (((rd_T31 l0 x5_1).f1) != (wrap64 (x1_1 + 1))) = false := bne_eq_false_iff_eq.mpr c6
      clear c6
      have H' := Aside0.mk H
      clear H
      have p135 : 0 ≤ (x5_1 : Int) := of_decide_eq_true Z20
      have q135 : x5_1 < (l0.length : Int) := of_decide_eq_true Z20
      obtain ⟨ad135, e135, hx135_0, hx135_1⟩ := at_T31 HR0.out x5_1 p135 q135
      cases e135
      replace p135 := eq_true p135
      replace q135 := eq_true q135
      have p136 : 0 ≤ (x5_1 : Int) := of_decide_eq_true Z20
      have q136 : x5_1 < (l0.length : Int) := of_decide_eq_true Z20
      obtain ⟨ad136, e136, hx136_0, hx136_1⟩ := at_T31 HR0.out x5_1 p136 q136
      obtain rfl : ad135 = ad136 := (by injection e136)
      replace p136 := eq_true p136
      replace q136 := eq_true q136
      go_wp2
      go_roundg k1
      case measure => have := HK1.out; omega
      case rel => exact ⟨(wrap64 ((wrap64 (x1_1 + 1)) + 1)), (wrap64 (x5_1 + 1)), Z2, Z2, H', ⟨Z3 HK1⟩, Z19⟩
     rw [if_neg c6] at H
     have c6b0 : (((rd_T31 l0 x5_1).f1) == (wrap64 (x1_1 + 1))) = false := beq_eq_false_iff_ne.mpr c6
     have c6b1 : (((rd_T31 l0 x5_1).f1) != (wrap64 (x1_1 + 1))) = true := bne_iff_ne.mpr c6
     obtain rfl := Option.some.inj H
     have p135 : 0 ≤ (x5_1 : Int) := of_decide_eq_true Z20
     have q135 : x5_1 < (l0.length : Int) := of_decide_eq_true Z20
     obtain ⟨ad135, e135, hx135_0, hx135_1⟩ := at_T31 HR0.out x5_1 p135 q135
     cases e135
     replace p135 := eq_true p135
     replace q135 := eq_true q135
     have p136 : 0 ≤ (x5_1 : Int) := of_decide_eq_true Z20
     have q136 : x5_1 < (l0.length : Int) := of_decide_eq_true Z20
     obtain ⟨ad136, e136, hx136_0, hx136_1⟩ := at_T31 HR0.out x5_1 p136 q136
     obtain rfl : ad135 = ad136 := (by injection e136)
     replace p136 := eq_true p136
     replace q136 := eq_true q136
     go_wp2
     go_ret
     exact ⟨Z2, Z19⟩
    rw [if_neg c5] at H
    have c5b0 : (((rd_T31 l0 x5_1).f0) == x1_1) = false := beq_eq_false_iff_ne.mpr c5
    have c5b1 : (((rd_T31 l0 x5_1).f0) != x1_1) = true := bne_iff_ne.mpr c5
    obtain rfl := Option.some.inj H
    have p135 : 0 ≤ (x5_1 : Int) := of_decide_eq_true Z20
    have q135 : x5_1 < (l0.length : Int) := of_decide_eq_true Z20
    obtain ⟨ad135, e135, hx135_0, hx135_1⟩ := at_T31 HR0.out x5_1 p135 q135
    cases e135
    replace p135 := eq_true p135
    replace q135 := eq_true q135
    go_wp2
    go_ret
    exact ⟨Z2, Z19⟩
   rw [if_neg c3] at H
   have c3b0 : decide (x5_1 < (l0.length : Int)) = false := decide_eq_false c3
   clear c3
   obtain rfl := Option.some.inj H
   go_wp2
   go_ret
   exact ⟨Z2, Z19⟩

/-! ### laws_heldDesk: function 20 -/
def laws_heldDesk.f (k : Nat) (a0_0 : Int) (a0_1 : Int) (l0_2 : List (S31)) (a1 : Int) : Option (Int) := (laws_heldFractionS.f k l0_2 a1).bind fun t138 => (if t138 < 0 then (some (-1)) else (some t138))
theorem laws_heldDesk.mono : ∀ a0 a1 a2 a3 k, LeO (laws_heldDesk.f k a0 a1 a2 a3) (laws_heldDesk.f (k + 1) a0 a1 a2 a3) := by
 intro a0 a1 a2 a3 k
 unfold laws_heldDesk.f
 repeat' (with_reducible first | exact laws_heldFractionS.mono _ _ _ | exact LeO.refl _ | exact LeO.none _ | refine LeO.ite ?_ ?_ | refine LeO.bind ?_ fun _ => ?_)
set_option maxHeartbeats 8000000 in
set_option maxRecDepth 100000 in
theorem laws_heldDesk.calls (k : Nat) (a0_0 : Int) (a0_1 : Int) (A0_2 : Option Addr) (c0_2 : Nat) (l0_2 : List (S31)) (a1 : Int) (r : Int) (w : World) (hr0_2 : Kd.C k31 w A0_2 l0_2.length l0_2) (hc0_2 : l0_2.length ≤ c0_2) (h : laws_heldDesk.f k a0_0 a0_1 l0_2 a1 = some r) :
  Calls Tryz.prog 20 #[.agg #[.int .i64 a0_0, .int .i64 a0_1, .slice A0_2 l0_2.length c0_2], .int .i64 a1] w fun e w' => e = .returned (.int .i64 r) ∧ Below w.heap.size w w' := by
 have hu34 := Tryz.underlying34
 have HR0_2 := Aside0.mk hr0_2
 have HC0_2 := Aside0.mk hc0_2
 clear hr0_2 hc0_2
 have HB := Aside0.mk (Below.refl w.heap.size w)
 unfold laws_heldDesk.f at h
 have H := h
 clear h
 obtain ⟨t138, A3, H⟩ := sqD H
 by_cases c4 : t138 < 0
 ·rw [if_pos c4] at H
  have c4b0 : decide (t138 < 0) = true := decide_eq_true c4
  clear c4
  obtain rfl := Option.some.inj H
  go_enter Tryz.func20, Tryz.ntmps20
  go_wp2_with (first | ((with_reducible refine gate_dst (N := 2) rfl ?_); refine sqBx w (sqB HB) (N := 2) (cs := #[.int .i64 a0_0, .int .i64 a0_1, .slice A0_2 l0_2.length c0_2]) (t := 34) ?_; intro gb137 hg w5 BK137 GE137 HB hb; clear hb hg; obtain ⟨hcz6_0, hcz6_1, hcz6_2, hfz6_0, hfz6_1, hfz6_2⟩ := sqY3 BK137) | ((with_reducible refine gate_callee (f := 65) rfl ?_); refine sqC (some 8) Tryz.func65 #[.slice A0_2 l0_2.length c0_2, .int .i64 a1] ?_; (with_reducible refine (laws_heldFractionS.calls k _ _ l0_2 a1 t138 _ ?side1 ?side2 A3.out).mono ?_); (case side1 => exact Z16); (case side2 => exact Z13); rintro e w' ⟨rfl, ⟨nd, rfl⟩⟩; refine ⟨_, rfl, ?_⟩))
  go_ret
  exact ⟨Z6, sqB1 HB GE137⟩
 rw [if_neg c4] at H
 have c4b0 : decide (t138 < 0) = false := decide_eq_false c4
 clear c4
 obtain rfl := Option.some.inj H
 go_enter Tryz.func20, Tryz.ntmps20
 go_wp2_with (first | ((with_reducible refine gate_dst (N := 2) rfl ?_); refine sqBx w (sqB HB) (N := 2) (cs := #[.int .i64 a0_0, .int .i64 a0_1, .slice A0_2 l0_2.length c0_2]) (t := 34) ?_; intro gb137 hg w7 BK137 GE137 HB hb; clear hb hg; obtain ⟨hcz8_0, hcz8_1, hcz8_2, hfz8_0, hfz8_1, hfz8_2⟩ := sqY3 BK137) | ((with_reducible refine gate_callee (f := 65) rfl ?_); refine sqC (some 8) Tryz.func65 #[.slice A0_2 l0_2.length c0_2, .int .i64 a1] ?_; (with_reducible refine (laws_heldFractionS.calls k _ _ l0_2 a1 t138 _ ?side1 ?side2 A3.out).mono ?_); (case side1 => exact Z16); (case side2 => exact Z13); rintro e w' ⟨rfl, ⟨nd, rfl⟩⟩; refine ⟨_, rfl, ?_⟩))
 go_ret
 exact ⟨Z6, sqB1 HB GE137⟩

/-! ### impl_isPart: function 116 -/
def impl_isPart.f (a0 : Int) : Option (Bool) := if a0 ≥ (-1000000) then (some (decide (a0 ≤ 1000000))) else (some false)
set_option maxHeartbeats 8000000 in
set_option maxRecDepth 100000 in
theorem impl_isPart.calls (a0 : Int) (r : Bool) (w : World) (h : impl_isPart.f a0 = some r) :
  Calls Tryz.prog 116 #[.int .i64 a0] w fun e w' => e = .returned (.bool r) ∧ Drawn0 w w' := by
 unfold impl_isPart.f at h
 have H := h
 clear h
 by_cases c2 : a0 ≥ (-1000000)
 ·rw [if_pos c2] at H
  have c2b0 : decide ((-1000000) ≤ a0) = true := decide_eq_true c2
  clear c2
  obtain rfl := Option.some.inj H
  go_enter Tryz.func116, Tryz.ntmps116
  go_wp2
  go_ret
  exact ⟨Z2, Z19⟩
 rw [if_neg c2] at H
 have c2b0 : decide ((-1000000) ≤ a0) = false := decide_eq_false c2
 clear c2
 obtain rfl := Option.some.inj H
 go_enter Tryz.func116, Tryz.ntmps116
 go_wp2
 go_ret
 exact ⟨Z2, Z19⟩

/-! ### impl_gcd: function 117 -/
def impl_gcd.l0 : Nat → Int → Int → Option (Int)
 | 0, _, _ => none
 | k + 1, x0, x1 => if x1 = 0 then (some (mx x0 (wrap64 (-x0)))) else (impl_gcd.l0 k x1 (Int.tmod x0 x1))
def impl_gcd.f (k : Nat) (a0 : Int) (a1 : Int) : Option (Int) := impl_gcd.l0 k a0 a1
abbrev impl_gcd.M (k : Nat) : Prop := (∀ y0 y1, LeO (impl_gcd.l0 k y0 y1) (impl_gcd.l0 (k + 1) y0 y1))
theorem impl_gcd.mono_t : ∀ k, impl_gcd.M k → impl_gcd.M (k + 1) ∧ ∀ a0 a1, LeO (impl_gcd.f k a0 a1) (impl_gcd.f (k + 1) a0 a1) := by
  rintro k ih0
  refine ⟨?_, ?_⟩ <;> (try unfold impl_gcd.M) <;> intros <;> (first | unfold impl_gcd.l0 | unfold impl_gcd.f) <;> repeat' (with_reducible first | exact ih0 _ _ | exact LeO.refl _ | exact LeO.none _ | refine LeO.ite ?_ ?_ | refine LeO.bind ?_ fun _ => ?_)
theorem impl_gcd.mono_l : ∀ k, impl_gcd.M k
 | 0 => fun _ _ r h => by simp [impl_gcd.l0] at h
 | k + 1 => (impl_gcd.mono_t k (impl_gcd.mono_l k)).1
theorem impl_gcd.mono a0 a1 k : LeO (impl_gcd.f k a0 a1) (impl_gcd.f (k + 1) a0 a1) := (impl_gcd.mono_t k (impl_gcd.mono_l k)).2 a0 a1
set_option maxHeartbeats 8000000 in
set_option maxRecDepth 100000 in
theorem impl_gcd.calls (k : Nat) (a0 : Int) (a1 : Int) (r : Int) (w : World) (h : impl_gcd.f k a0 a1 = some r) :
  Calls Tryz.prog 117 #[.int .i64 a0, .int .i64 a1] w fun e w' => e = .returned (.int .i64 r) ∧ Below w.heap.size w w' := by
 have HB := Aside0.mk (Below.refl w.heap.size w)
 unfold impl_gcd.f at h
 have H := h
 clear h
 have H' := Aside0.mk H
 clear H
 go_enter Tryz.func117, Tryz.ntmps117
 go_wp2
 repeat (go_quiet (fail); try go_wp2)
 go_loopg [0, 1] k (fun kq v0 v1 w' => ∃ (x0_1 : Int) (x1_1 : Int), v0 = .int .i64 x0_1 ∧ v1 = .int .i64 x1_1 ∧ Aside0 (impl_gcd.l0 kq x0_1 x1_1 = some r) ∧ Aside0 (kq ≤ k) ∧ Aside0 (Below w.heap.size w w'))
 case atStart => exact ⟨(a0), (a1), Z2, Z2, H', ⟨Nat.le_refl _⟩, ⟨sqB HB⟩⟩
 case round =>
  clear H'
  obtain ⟨x0_1, x1_1, rfl, rfl, HA, HK1, HB⟩ := hrel
  cases gk with
  | zero => exact absurd HA.out (by simp [impl_gcd.l0])
  | succ k1 =>
   have H := HA.out
   clear HA
   simp only [impl_gcd.l0] at H
   by_cases c3 : x1_1 = 0
   ·rw [if_pos c3] at H
    have c3b0 : (x1_1 == 0) = true := beq_iff_eq.mpr c3
    have c3b1 : (x1_1 != 0) = false := bne_eq_false_iff_eq.mpr c3
    clear c3
    obtain ⟨ji4, hji4⟩ : ∃ j_ : Int, (mx x0_1 (wrap64 (-x0_1))) = j_ := ⟨_, rfl⟩
    replace H : (some ji4) = some r := by first | (rw [hji4] at H; exact H) | (simp only [hji4] at H ⊢; exact H)
    have hji4_ : (if x0_1 < (wrap64 (-x0_1)) then (wrap64 (-x0_1)) else x0_1) = ji4 := hji4
    obtain rfl := Option.some.inj H
    go_wp2
    repeat (go_quiet (fail); try go_wp2)
    go_ret
    exact ⟨by first | rfl | (simp [errP_none, errP_some] <;> rfl) | (simp only [← hji4]; first | rfl | (simp [errP_none, errP_some] <;> rfl)) | (simp [*, errP_none, errP_some] <;> rfl), sqB HB⟩
   rw [if_neg c3] at H
   have c3b0 : (x1_1 == 0) = false := beq_eq_false_iff_ne.mpr c3
   have c3b1 : (x1_1 != 0) = true := bne_iff_ne.mpr c3
   have H' := Aside0.mk H
   clear H
   go_wp2
   repeat (go_quiet (fail); try go_wp2)
   go_roundg k1
   case measure => have := HK1.out; omega
   case rel => exact ⟨(x1_1), (Int.tmod x0_1 x1_1), Z2, Z2, H', ⟨Z3 HK1⟩, ⟨sqB HB⟩⟩

/-! ### impl_isFraction: function 70 -/
def impl_isFraction.f (k : Nat) (a0_0 : Int) (a0_1 : Int) : Option (Bool) := (impl_isPart.f a0_0).bind fun t140 => (if t140 = true then (if a0_1 < 0 then (some false) else (if a0_1 > 1000000 then (some false) else (if a0_1 = 0 then (if a0_0 = 1 then ((impl_gcd.f k a0_0 a0_1).bind fun t141 => (some (t141 == 1))) else (some false)) else ((impl_gcd.f k a0_0 a0_1).bind fun t142 => (some (t142 == 1)))))) else (some false))
theorem impl_isFraction.mono : ∀ a0 a1 k, LeO (impl_isFraction.f k a0 a1) (impl_isFraction.f (k + 1) a0 a1) := by
 intro a0 a1 k
 unfold impl_isFraction.f
 repeat' (with_reducible first | exact impl_gcd.mono _ _ _ | exact LeO.refl _ | exact LeO.none _ | refine LeO.ite ?_ ?_ | refine LeO.bind ?_ fun _ => ?_)
set_option maxHeartbeats 8000000 in
set_option maxRecDepth 100000 in
theorem impl_isFraction.calls (k : Nat) (a0_0 : Int) (a0_1 : Int) (r : Bool) (w : World) (h : impl_isFraction.f k a0_0 a0_1 = some r) :
  Calls Tryz.prog 70 #[.agg #[.int .i64 a0_0, .int .i64 a0_1]] w fun e w' => e = .returned (.bool r) ∧ Below w.heap.size w w' := by
 have hu31 := Tryz.underlying31
 have HB := Aside0.mk (Below.refl w.heap.size w)
 unfold impl_isFraction.f at h
 have H := h
 clear h
 obtain ⟨t140, A2, H⟩ := sqD H
 by_cases c3 : t140 = true
 ·subst c3
  rw [if_pos rfl] at H
  by_cases c4 : a0_1 < 0
  ·rw [if_pos c4] at H
   have c4b0 : decide (a0_1 < 0) = true := decide_eq_true c4
   clear c4
   obtain rfl := Option.some.inj H
   go_enter Tryz.func70, Tryz.ntmps70
   go_wp2_with (first | ((with_reducible refine gate_dst (N := 1) rfl ?_); refine sqBx w (sqB HB) (N := 1) (cs := #[.int .i64 a0_0, .int .i64 a0_1]) (t := 31) ?_; intro gb139 hg w5 BK139 GE139 HB hb; clear hb hg; obtain ⟨hcz6_0, hcz6_1, hfz6_0, hfz6_1⟩ := sqY2 BK139) | ((with_reducible refine gate_callee (f := 116) rfl ?_); refine sqC (some 5) Tryz.func116 #[.int .i64 a0_0] ?_; (with_reducible refine (impl_isPart.calls a0_0 true _ A2.out).mono ?_); rintro e w' ⟨rfl, ⟨nd, rfl⟩⟩; refine ⟨_, rfl, ?_⟩))
   go_ret
   exact ⟨Z6, sqB1 HB GE139⟩
  rw [if_neg c4] at H
  have c4b0 : decide (a0_1 < 0) = false := decide_eq_false c4
  clear c4
  by_cases c7 : a0_1 > 1000000
  ·rw [if_pos c7] at H
   have c7b0 : decide (1000000 < a0_1) = true := decide_eq_true c7
   clear c7
   obtain rfl := Option.some.inj H
   go_enter Tryz.func70, Tryz.ntmps70
   go_wp2_with (first | ((with_reducible refine gate_dst (N := 1) rfl ?_); refine sqBx w (sqB HB) (N := 1) (cs := #[.int .i64 a0_0, .int .i64 a0_1]) (t := 31) ?_; intro gb139 hg w8 BK139 GE139 HB hb; clear hb hg; obtain ⟨hcz9_0, hcz9_1, hfz9_0, hfz9_1⟩ := sqY2 BK139) | ((with_reducible refine gate_callee (f := 116) rfl ?_); refine sqC (some 5) Tryz.func116 #[.int .i64 a0_0] ?_; (with_reducible refine (impl_isPart.calls a0_0 true _ A2.out).mono ?_); rintro e w' ⟨rfl, ⟨nd, rfl⟩⟩; refine ⟨_, rfl, ?_⟩))
   go_ret
   exact ⟨Z6, sqB1 HB GE139⟩
  rw [if_neg c7] at H
  have c7b0 : decide (1000000 < a0_1) = false := decide_eq_false c7
  clear c7
  by_cases c10 : a0_1 = 0
  ·rw [if_pos c10] at H
   have c10b0 : (a0_1 == 0) = true := beq_iff_eq.mpr c10
   have c10b1 : (a0_1 != 0) = false := bne_eq_false_iff_eq.mpr c10
   clear c10
   by_cases c11 : a0_0 = 1
   ·rw [if_pos c11] at H
    have c11b0 : (a0_0 == 1) = true := beq_iff_eq.mpr c11
    have c11b1 : (a0_0 != 1) = false := bne_eq_false_iff_eq.mpr c11
    clear c11
    obtain ⟨t141, A12, H⟩ := sqD H
    obtain rfl := Option.some.inj H
    go_enter Tryz.func70, Tryz.ntmps70
    go_wp2_with (first | ((with_reducible refine gate_dst (N := 1) rfl ?_); refine sqBx w (sqB HB) (N := 1) (cs := #[.int .i64 a0_0, .int .i64 a0_1]) (t := 31) ?_; intro gb139 hg w13 BK139 GE139 HB hb; clear hb hg; obtain ⟨hcz14_0, hcz14_1, hfz14_0, hfz14_1⟩ := sqY2 BK139) | ((with_reducible refine gate_callee (f := 116) rfl ?_); refine sqC (some 5) Tryz.func116 #[.int .i64 a0_0] ?_; (with_reducible refine (impl_isPart.calls a0_0 true _ A2.out).mono ?_); rintro e w' ⟨rfl, ⟨nd, rfl⟩⟩; refine ⟨_, rfl, ?_⟩) | ((with_reducible refine gate_callee (f := 117) rfl ?_); refine sqC (some 31) Tryz.func117 #[.int .i64 a0_0, .int .i64 a0_1] ?_; (with_reducible refine (impl_gcd.calls k a0_0 a0_1 t141 _ A12.out).mono ?_); rintro e w15 ⟨rfl, hb⟩; refine ⟨_, rfl, ?_⟩; replace BK139 := sqT BK139 hb; replace HB := sqS (sqB1 HB GE139) hb; (try clear hb)))
    go_ret
    exact ⟨Z6, sqB1 HB GE139⟩
   rw [if_neg c11] at H
   have c11b0 : (a0_0 == 1) = false := beq_eq_false_iff_ne.mpr c11
   have c11b1 : (a0_0 != 1) = true := bne_iff_ne.mpr c11
   obtain rfl := Option.some.inj H
   go_enter Tryz.func70, Tryz.ntmps70
   go_wp2_with (first | ((with_reducible refine gate_dst (N := 1) rfl ?_); refine sqBx w (sqB HB) (N := 1) (cs := #[.int .i64 a0_0, .int .i64 a0_1]) (t := 31) ?_; intro gb139 hg w16 BK139 GE139 HB hb; clear hb hg; obtain ⟨hcz17_0, hcz17_1, hfz17_0, hfz17_1⟩ := sqY2 BK139) | ((with_reducible refine gate_callee (f := 116) rfl ?_); refine sqC (some 5) Tryz.func116 #[.int .i64 a0_0] ?_; (with_reducible refine (impl_isPart.calls a0_0 true _ A2.out).mono ?_); rintro e w' ⟨rfl, ⟨nd, rfl⟩⟩; refine ⟨_, rfl, ?_⟩))
   go_ret
   exact ⟨Z6, sqB1 HB GE139⟩
  rw [if_neg c10] at H
  have c10b0 : (a0_1 == 0) = false := beq_eq_false_iff_ne.mpr c10
  have c10b1 : (a0_1 != 0) = true := bne_iff_ne.mpr c10
  obtain ⟨t142, A18, H⟩ := sqD H
  obtain rfl := Option.some.inj H
  go_enter Tryz.func70, Tryz.ntmps70
  go_wp2_with (first | ((with_reducible refine gate_dst (N := 1) rfl ?_); refine sqBx w (sqB HB) (N := 1) (cs := #[.int .i64 a0_0, .int .i64 a0_1]) (t := 31) ?_; intro gb139 hg w19 BK139 GE139 HB hb; clear hb hg; obtain ⟨hcz20_0, hcz20_1, hfz20_0, hfz20_1⟩ := sqY2 BK139) | ((with_reducible refine gate_callee (f := 116) rfl ?_); refine sqC (some 5) Tryz.func116 #[.int .i64 a0_0] ?_; (with_reducible refine (impl_isPart.calls a0_0 true _ A2.out).mono ?_); rintro e w' ⟨rfl, ⟨nd, rfl⟩⟩; refine ⟨_, rfl, ?_⟩) | ((with_reducible refine gate_callee (f := 117) rfl ?_); refine sqC (some 31) Tryz.func117 #[.int .i64 a0_0, .int .i64 a0_1] ?_; (with_reducible refine (impl_gcd.calls k a0_0 a0_1 t142 _ A18.out).mono ?_); rintro e w21 ⟨rfl, hb⟩; refine ⟨_, rfl, ?_⟩; replace BK139 := sqT BK139 hb; replace HB := sqS (sqB1 HB GE139) hb; (try clear hb)))
  go_ret
  exact ⟨Z6, sqB1 HB GE139⟩
 replace c3 := Bool.eq_false_iff.mpr c3
 subst c3
 rw [if_neg sqF] at H
 obtain rfl := Option.some.inj H
 go_enter Tryz.func70, Tryz.ntmps70
 go_wp2_with (first | ((with_reducible refine gate_dst (N := 1) rfl ?_); refine sqBx w (sqB HB) (N := 1) (cs := #[.int .i64 a0_0, .int .i64 a0_1]) (t := 31) ?_; intro gb139 hg w22 BK139 GE139 HB hb; clear hb hg; obtain ⟨hcz23_0, hcz23_1, hfz23_0, hfz23_1⟩ := sqY2 BK139) | ((with_reducible refine gate_callee (f := 116) rfl ?_); refine sqC (some 5) Tryz.func116 #[.int .i64 a0_0] ?_; (with_reducible refine (impl_isPart.calls a0_0 false _ A2.out).mono ?_); rintro e w' ⟨rfl, ⟨nd, rfl⟩⟩; refine ⟨_, rfl, ?_⟩))
 go_ret
 exact ⟨Z6, sqB1 HB GE139⟩

/-! ### impl_isDesk_1: function 110 -/
def impl_isDesk_1.f (k : Nat) (a0_0 : Int) (a0_1 : Int) : Option (Bool) := (impl_isFraction.f k a0_0 a0_1).bind fun t144 => (some (!t144))
theorem impl_isDesk_1.mono : ∀ a0 a1 k, LeO (impl_isDesk_1.f k a0 a1) (impl_isDesk_1.f (k + 1) a0 a1) := by
 intro a0 a1 k
 unfold impl_isDesk_1.f
 repeat' (with_reducible first | exact impl_isFraction.mono _ _ _ | exact LeO.refl _ | exact LeO.none _ | refine LeO.ite ?_ ?_ | refine LeO.bind ?_ fun _ => ?_)
set_option maxHeartbeats 8000000 in
set_option maxRecDepth 100000 in
theorem impl_isDesk_1.calls (k : Nat) (a0_0 : Int) (a0_1 : Int) (r : Bool) (w : World) (h : impl_isDesk_1.f k a0_0 a0_1 = some r) :
  Calls Tryz.prog 110 #[.agg #[.int .i64 a0_0, .int .i64 a0_1]] w fun e w' => e = .returned (.bool r) ∧ Below w.heap.size w w' := by
 have hu31 := Tryz.underlying31
 have HB := Aside0.mk (Below.refl w.heap.size w)
 unfold impl_isDesk_1.f at h
 have H := h
 clear h
 obtain ⟨t144, A2, H⟩ := sqD H
 obtain rfl := Option.some.inj H
 go_enter Tryz.func110, Tryz.ntmps110
 go_wp2_with (first | ((with_reducible refine gate_dst (N := 1) rfl ?_); refine sqBx w (sqB HB) (N := 1) (cs := #[.int .i64 a0_0, .int .i64 a0_1]) (t := 31) ?_; intro gb143 hg w3 BK143 GE143 HB hb; clear hb hg; obtain ⟨hcz4_0, hcz4_1, hfz4_0, hfz4_1⟩ := sqY2 BK143) | ((with_reducible refine gate_callee (f := 70) rfl ?_); refine sqC (some 4) Tryz.func70 #[.agg #[.int .i64 a0_0, .int .i64 a0_1]] ?_; (with_reducible refine (impl_isFraction.calls k a0_0 a0_1 t144 _ A2.out).mono ?_); rintro e w5 ⟨rfl, hb⟩; refine ⟨_, rfl, ?_⟩; replace BK143 := sqT BK143 hb; replace HB := sqS (sqB1 HB GE143) hb; (try clear hb)))
 go_ret
 exact ⟨Z6, sqB1 HB GE143⟩

/-! ### impl_Fraction_137: function 137 -/
section
theorem gate_dyn {P : Program} {ops : Array Oper} {rest : List Oper} {o : Oper} {a : Act} {Q : Exit → Act → World → Prop} {W : World} {t : Tmp} {zs : Array Operand} {ts : Array TypeId} (_ho : o.op = .call { callee := .value (.tmp t), args := zs, argTypes := ts }) (h : wpList P ops Q (o :: rest) a W) : wpList P ops Q (o :: rest) a W := h
/-- A call of a function value that stands in a temporary: after the words' goesL_. -/
theorem goesV_ {P : Program} {ops : Array Oper} {Q : Exit → Act → World → Prop} {rest : List Oper} {oi : Oper} {a : Act} {w : World} (N : Option Tmp) (hd : oi.dst = N) (hg : oi.guard = none) {f : FuncId} {fn : Func} {t : Tmp} {zs : Array Operand} {ts : Array TypeId} (hf : P.funcs[f]? = some fn) (hname : (fn.name == "runtime.NumGoroutine") = false) (hb : fn.body.isSome = true) (args : Array Value)
  (hop : oi.op = .call { callee := .value (.tmp t), args := zs, argTypes := ts }) (hev : a.eval (.tmp t) = .func (.func f) #[] #[]) (hargs : zs.map a.eval = args)
  (h : Calls P f args w fun e w' => ∃ v, e = .returned v ∧ wpList P ops Q rest (a.put N v) w') : wpList P ops Q (oi :: rest) a w := by
 refine wpList_plain hg fun K hK => ?_
 have he := enters_ hf hname hb args w
 have hrun : (execOp a.eval oi).run P w = .ok (.enter f args) w := by
  unfold execOp
  simp [hop, resolve, Deferred.ofValue, invoke, hev, hargs, he]
 unfold Oper.wp
 rw [hrun, Oper.upon_enter]
 refine h.mono fun e w'' hh => ?_
 obtain ⟨v, rfl, hk⟩ := hh
 subst hd
 exact hK _ _ hk
end
def impl_Fraction_137.l0 : Nat → List (S31) → Int → Int → Option (Int)
 | 0, _, _, _ => none
 | k + 1, x0, x7, x8 => if x8 < x7 then (if 0 ≤ x8 then (if x8 < (x0.length : Int) then ((impl_isDesk_1.f k ((rd_T31 x0 x8).f0) ((rd_T31 x0 x8).f1)).bind fun t146 => (if t146 = true then (some x8) else (impl_Fraction_137.l0 k x0 x7 (wrap64 (x8 + 1))))) else (none)) else (none)) else (some (-1))
def impl_Fraction_137.f (k : Nat) (l0 : List (S31)) (a1 : Int) : Option (Int) := impl_Fraction_137.l0 k l0 (l0.length : Int) 0
abbrev impl_Fraction_137.M (k : Nat) : Prop := (∀ y0 y1 y2, LeO (impl_Fraction_137.l0 k y0 y1 y2) (impl_Fraction_137.l0 (k + 1) y0 y1 y2))
theorem impl_Fraction_137.mono_t : ∀ k, impl_Fraction_137.M k → impl_Fraction_137.M (k + 1) ∧ ∀ a0 a1, LeO (impl_Fraction_137.f k a0 a1) (impl_Fraction_137.f (k + 1) a0 a1) := by
  rintro k ih0
  refine ⟨?_, ?_⟩ <;> (try unfold impl_Fraction_137.M) <;> intros <;> (first | unfold impl_Fraction_137.l0 | unfold impl_Fraction_137.f) <;> repeat' (with_reducible first | exact ih0 _ _ _ | exact impl_isDesk_1.mono _ _ _ | exact LeO.refl _ | exact LeO.none _ | refine LeO.ite ?_ ?_ | refine LeO.bind ?_ fun _ => ?_)
theorem impl_Fraction_137.mono_l : ∀ k, impl_Fraction_137.M k
 | 0 => fun _ _ _ r h => by simp [impl_Fraction_137.l0] at h
 | k + 1 => (impl_Fraction_137.mono_t k (impl_Fraction_137.mono_l k)).1
theorem impl_Fraction_137.mono a0 a1 k : LeO (impl_Fraction_137.f k a0 a1) (impl_Fraction_137.f (k + 1) a0 a1) := (impl_Fraction_137.mono_t k (impl_Fraction_137.mono_l k)).2 a0 a1
set_option maxHeartbeats 8000000 in
set_option maxRecDepth 100000 in
theorem impl_Fraction_137.calls (k : Nat) (A0 : Option Addr) (c0 : Nat) (l0 : List (S31)) (a1 : Int) (r : Int) (w : World) (hr0 : Kd.C k31 w A0 l0.length l0) (hc0 : l0.length ≤ c0) (h : impl_Fraction_137.f k l0 a1 = some r) :
  Calls Tryz.prog 137 #[.slice A0 l0.length c0, .func (.func 110) #[] #[]] w fun e w' => e = .returned (.int .i64 r) ∧ Below w.heap.size w w' := by
 have hu31 := Tryz.underlying31
 have HR0 := Aside0.mk hr0
 have HC0 := Aside0.mk hc0
 clear hr0 hc0
 have HB := Aside0.mk (Below.refl w.heap.size w)
 unfold impl_Fraction_137.f at h
 have H := h
 clear h
 have H' := Aside0.mk H
 clear H
 go_enter Tryz.func137, Tryz.ntmps137
 go_wp2
 go_loopg [8] k (fun kq v8 w' => ∃ (x8_1 : Int), v8 = .int .i64 x8_1 ∧ Aside0 (impl_Fraction_137.l0 kq l0 (l0.length : Int) x8_1 = some r) ∧ Aside0 (kq ≤ k) ∧ Aside0 (Below w.heap.size w w'))
 case atStart => exact ⟨(0), Z2, H', ⟨Nat.le_refl _⟩, ⟨sqB HB⟩⟩
 case round =>
  clear H'
  obtain ⟨x8_1, rfl, HA, HK1, HB⟩ := hrel
  cases gk with
  | zero => exact absurd HA.out (by simp [impl_Fraction_137.l0])
  | succ k1 =>
   have H := HA.out
   clear HA
   simp only [impl_Fraction_137.l0] at H
   by_cases c3 : x8_1 < (l0.length : Int)
   ·rw [if_pos c3] at H
    have c3b0 : decide (x8_1 < (l0.length : Int)) = true := decide_eq_true c3
    clear c3
    obtain ⟨c4, H⟩ := sqI H
    have c4b0 : decide (0 ≤ x8_1) = true := decide_eq_true c4
    clear c4
    obtain ⟨c5, H⟩ := sqI H
    have c5b0 : decide (x8_1 < (l0.length : Int)) = true := decide_eq_true c5
    clear c5
    obtain ⟨t146, A6, H⟩ := sqD H
    by_cases c7 : t146 = true
    ·subst c7
     rw [if_pos rfl] at H
     obtain rfl := Option.some.inj H
     have p145 : 0 ≤ (x8_1 : Int) := of_decide_eq_true Z20
     have q145 : x8_1 < (l0.length : Int) := of_decide_eq_true Z20
     obtain ⟨ad145, e145, hx145_0, hx145_1⟩ := at_T31 HR0.out x8_1 p145 q145
     cases e145
     replace hx145_0 := (HB.out.cell (World.block_lt_of_cell? w _ hx145_0)).trans hx145_0
     replace hx145_1 := (HB.out.cell (World.block_lt_of_cell? w _ hx145_1)).trans hx145_1
     replace p145 := eq_true p145
     replace q145 := eq_true q145
     go_wp2_with (first | ((with_reducible refine gate_dyn rfl ?_); refine goesV_ (some 16) rfl rfl Tryz.func110 (by kernel_rfl) rfl #[.agg #[.int .i64 ((rd_T31 l0 x8_1).f0), .int .i64 ((rd_T31 l0 x8_1).f1)]] rfl (by rfl) sqA ?_; (with_reducible refine (impl_isDesk_1.calls k1 ((rd_T31 l0 x8_1).f0) ((rd_T31 l0 x8_1).f1) true _ A6.out).mono ?_); rintro e w8 ⟨rfl, hb⟩; refine ⟨_, rfl, ?_⟩; replace HB := sqS (sqB HB) hb; (try clear hb)))
     go_ret
     exact ⟨Z6, sqB HB⟩
    replace c7 := Bool.eq_false_iff.mpr c7
    subst c7
    rw [if_neg sqF] at H
    have H' := Aside0.mk H
    clear H
    have p145 : 0 ≤ (x8_1 : Int) := of_decide_eq_true Z20
    have q145 : x8_1 < (l0.length : Int) := of_decide_eq_true Z20
    obtain ⟨ad145, e145, hx145_0, hx145_1⟩ := at_T31 HR0.out x8_1 p145 q145
    cases e145
    replace hx145_0 := (HB.out.cell (World.block_lt_of_cell? w _ hx145_0)).trans hx145_0
    replace hx145_1 := (HB.out.cell (World.block_lt_of_cell? w _ hx145_1)).trans hx145_1
    replace p145 := eq_true p145
    replace q145 := eq_true q145
    go_wp2_with (first | ((with_reducible refine gate_dyn rfl ?_); refine goesV_ (some 16) rfl rfl Tryz.func110 (by kernel_rfl) rfl #[.agg #[.int .i64 ((rd_T31 l0 x8_1).f0), .int .i64 ((rd_T31 l0 x8_1).f1)]] rfl (by rfl) sqA ?_; (with_reducible refine (impl_isDesk_1.calls k1 ((rd_T31 l0 x8_1).f0) ((rd_T31 l0 x8_1).f1) false _ A6.out).mono ?_); rintro e w9 ⟨rfl, hb⟩; refine ⟨_, rfl, ?_⟩; replace HB := sqS (sqB HB) hb; (try clear hb)))
    go_roundg k1
    case measure => have := HK1.out; omega
    case rel => exact ⟨(wrap64 (x8_1 + 1)), Z2, H', ⟨Z3 HK1⟩, ⟨sqB HB⟩⟩
   rw [if_neg c3] at H
   have c3b0 : decide (x8_1 < (l0.length : Int)) = false := decide_eq_false c3
   clear c3
   obtain rfl := Option.some.inj H
   go_wp2
   go_ret
   exact ⟨Z6, sqB HB⟩

/-! ### impl_Fraction_109: function 109 -/
def impl_Fraction_109.f (k : Nat) (l0 : List (S31)) (a1 : Int) : Option (Bool) := (impl_Fraction_137.f k l0 a1).bind fun t147 => (some (decide (t147 ≥ 0)))
theorem impl_Fraction_109.mono : ∀ a0 a1 k, LeO (impl_Fraction_109.f k a0 a1) (impl_Fraction_109.f (k + 1) a0 a1) := by
 intro a0 a1 k
 unfold impl_Fraction_109.f
 repeat' (with_reducible first | exact impl_Fraction_137.mono _ _ _ | exact LeO.refl _ | exact LeO.none _ | refine LeO.ite ?_ ?_ | refine LeO.bind ?_ fun _ => ?_)
set_option maxHeartbeats 8000000 in
set_option maxRecDepth 100000 in
theorem impl_Fraction_109.calls (k : Nat) (A0 : Option Addr) (c0 : Nat) (l0 : List (S31)) (a1 : Int) (r : Bool) (w : World) (hr0 : Kd.C k31 w A0 l0.length l0) (hc0 : l0.length ≤ c0) (h : impl_Fraction_109.f k l0 a1 = some r) :
  Calls Tryz.prog 109 #[.slice A0 l0.length c0, .func (.func 110) #[] #[]] w fun e w' => e = .returned (.bool r) ∧ Below w.heap.size w w' := by
 have HR0 := Aside0.mk hr0
 have HC0 := Aside0.mk hc0
 clear hr0 hc0
 have HB := Aside0.mk (Below.refl w.heap.size w)
 unfold impl_Fraction_109.f at h
 have H := h
 clear h
 obtain ⟨t147, A3, H⟩ := sqD H
 obtain rfl := Option.some.inj H
 go_enter Tryz.func109, Tryz.ntmps109
 go_wp2_with (first | ((with_reducible refine gate_callee (f := 137) rfl ?_); refine sqC (some 7) Tryz.func137 #[.slice A0 l0.length c0, .func (.func 110) #[] #[]] ?_; (with_reducible refine (impl_Fraction_137.calls k _ _ l0 a1 t147 _ ?side1 ?side2 A3.out).mono ?_); (case side1 => repeat (first | exact HR0.out | (with_reducible refine Kd.C_alloc ?_ _) | (with_reducible refine Kd.C_drewN ?_ _) | (with_reducible refine Kd.C_drew ?_))); (case side2 => exact HC0.out); rintro e w4 ⟨rfl, hb⟩; refine ⟨_, rfl, ?_⟩; replace HB := sqS (sqB HB) hb; (try clear hb)))
 go_ret
 exact ⟨Z6, sqB HB⟩

/-! ### impl_isDesk: function 60 -/
def impl_isDesk.f (k : Nat) (a0_0 : Int) (a0_1 : Int) (l0_2 : List (S31)) : Option (Bool) := (impl_isFraction.f k a0_0 a0_1).bind fun t149 => (if t149 = true then (if (l0_2.length : Int) ≤ 8 then ((impl_Fraction_109.f k l0_2 777777).bind fun t150 => (some (!t150))) else (some false)) else (some false))
theorem impl_isDesk.mono : ∀ a0 a1 a2 k, LeO (impl_isDesk.f k a0 a1 a2) (impl_isDesk.f (k + 1) a0 a1 a2) := by
 intro a0 a1 a2 k
 unfold impl_isDesk.f
 repeat' (with_reducible first | exact impl_Fraction_109.mono _ _ _ | exact impl_isFraction.mono _ _ _ | exact LeO.refl _ | exact LeO.none _ | refine LeO.ite ?_ ?_ | refine LeO.bind ?_ fun _ => ?_)
set_option maxHeartbeats 8000000 in
set_option maxRecDepth 100000 in
theorem impl_isDesk.calls (k : Nat) (a0_0 : Int) (a0_1 : Int) (A0_2 : Option Addr) (c0_2 : Nat) (l0_2 : List (S31)) (r : Bool) (w : World) (hr0_2 : Kd.C k31 w A0_2 l0_2.length l0_2) (hc0_2 : l0_2.length ≤ c0_2) (h : impl_isDesk.f k a0_0 a0_1 l0_2 = some r) :
  Calls Tryz.prog 60 #[.agg #[.int .i64 a0_0, .int .i64 a0_1, .slice A0_2 l0_2.length c0_2]] w fun e w' => e = .returned (.bool r) ∧ Below w.heap.size w w' := by
 have hu34 := Tryz.underlying34
 have hu31 := Tryz.underlying31
 have HR0_2 := Aside0.mk hr0_2
 have HC0_2 := Aside0.mk hc0_2
 clear hr0_2 hc0_2
 have HB := Aside0.mk (Below.refl w.heap.size w)
 unfold impl_isDesk.f at h
 have H := h
 clear h
 obtain ⟨t149, A2, H⟩ := sqD H
 by_cases c3 : t149 = true
 ·subst c3
  rw [if_pos rfl] at H
  by_cases c4 : (l0_2.length : Int) ≤ 8
  ·rw [if_pos c4] at H
   have c4b0 : decide ((l0_2.length : Int) ≤ 8) = true := decide_eq_true c4
   have c4b1 : decide (l0_2.length ≤ 8) = true := decide_eq_true (by omega)
   clear c4
   obtain ⟨t150, A5, H⟩ := sqD H
   obtain rfl := Option.some.inj H
   go_enter Tryz.func60, Tryz.ntmps60
   go_wp2_with (first | ((with_reducible refine gate_dst (N := 1) rfl ?_); (try (refine gate_guard (by rfl) ?_; dsimp only)); refine sqBx w (sqB HB) (N := 1) (cs := #[.int .i64 a0_0, .int .i64 a0_1, .slice A0_2 l0_2.length c0_2]) (t := 34) ?_; intro gb148 hg w6 BK148 GE148 HB hb; clear hb hg; obtain ⟨hcz7_0, hcz7_1, hcz7_2, hfz7_0, hfz7_1, hfz7_2⟩ := sqY3 BK148) | ((with_reducible refine gate_callee (f := 70) rfl ?_); refine sqC (some 5) Tryz.func70 #[.agg #[.int .i64 a0_0, .int .i64 a0_1]] ?_; (with_reducible refine (impl_isFraction.calls k a0_0 a0_1 true _ A2.out).mono ?_); rintro e w8 ⟨rfl, hb⟩; refine ⟨_, rfl, ?_⟩; replace BK148 := sqT BK148 hb; replace HB := sqS (sqB1 HB GE148) hb; (try clear hb); obtain ⟨hcz9_0, hcz9_1, hcz9_2, hfz9_0, hfz9_1, hfz9_2⟩ := sqY3 BK148) | (go_at_call 109; (with_reducible refine (impl_Fraction_109.calls k _ _ l0_2 777777 t150 _ ?side1 ?side2 A5.out).mono ?_); (case side1 => exact Z16); (case side2 => exact Z13); rintro e w10 ⟨rfl, hb⟩; replace BK148 := sqT BK148 hb; replace HB := sqS (sqB1 HB GE148) hb; (try clear hb)))
   go_ret
   exact ⟨Z6, sqB1 HB GE148⟩
  rw [if_neg c4] at H
  have c4b0 : decide ((l0_2.length : Int) ≤ 8) = false := decide_eq_false c4
  have c4b1 : decide (l0_2.length ≤ 8) = false := decide_eq_false (by omega)
  clear c4
  obtain rfl := Option.some.inj H
  go_enter Tryz.func60, Tryz.ntmps60
  go_wp2_with (first | ((with_reducible refine gate_dst (N := 1) rfl ?_); (try (refine gate_guard (by rfl) ?_; dsimp only)); refine sqBx w (sqB HB) (N := 1) (cs := #[.int .i64 a0_0, .int .i64 a0_1, .slice A0_2 l0_2.length c0_2]) (t := 34) ?_; intro gb148 hg w11 BK148 GE148 HB hb; clear hb hg; obtain ⟨hcz12_0, hcz12_1, hcz12_2, hfz12_0, hfz12_1, hfz12_2⟩ := sqY3 BK148) | ((with_reducible refine gate_callee (f := 70) rfl ?_); refine sqC (some 5) Tryz.func70 #[.agg #[.int .i64 a0_0, .int .i64 a0_1]] ?_; (with_reducible refine (impl_isFraction.calls k a0_0 a0_1 true _ A2.out).mono ?_); rintro e w13 ⟨rfl, hb⟩; refine ⟨_, rfl, ?_⟩; replace BK148 := sqT BK148 hb; replace HB := sqS (sqB1 HB GE148) hb; (try clear hb); obtain ⟨hcz14_0, hcz14_1, hcz14_2, hfz14_0, hfz14_1, hfz14_2⟩ := sqY3 BK148))
  go_ret
  exact ⟨Z6, sqB1 HB GE148⟩
 replace c3 := Bool.eq_false_iff.mpr c3
 subst c3
 rw [if_neg sqF] at H
 obtain rfl := Option.some.inj H
 go_enter Tryz.func60, Tryz.ntmps60
 go_wp2_with (first | ((with_reducible refine gate_dst (N := 1) rfl ?_); (try (refine gate_guard (by rfl) ?_; dsimp only)); refine sqBx w (sqB HB) (N := 1) (cs := #[.int .i64 a0_0, .int .i64 a0_1, .slice A0_2 l0_2.length c0_2]) (t := 34) ?_; intro gb148 hg w15 BK148 GE148 HB hb; clear hb hg; obtain ⟨hcz16_0, hcz16_1, hcz16_2, hfz16_0, hfz16_1, hfz16_2⟩ := sqY3 BK148) | ((with_reducible refine gate_callee (f := 70) rfl ?_); refine sqC (some 5) Tryz.func70 #[.agg #[.int .i64 a0_0, .int .i64 a0_1]] ?_; (with_reducible refine (impl_isFraction.calls k a0_0 a0_1 false _ A2.out).mono ?_); rintro e w17 ⟨rfl, hb⟩; refine ⟨_, rfl, ?_⟩; replace BK148 := sqT BK148 hb; replace HB := sqS (sqB1 HB GE148) hb; (try clear hb)))
 go_ret
 exact ⟨Z6, sqB1 HB GE148⟩

/-! ### impl_copyDesk: function 76 -/
def impl_copyDesk.f (a0_0 : Int) (a0_1 : Int) (l0_2 : List (S31)) : Option (Int × Int × (List (S31))) := (some (([] : List (S31)) : List (S31))).bind fun y153 => (if y153.length + l0_2.length < 8796093022208 then (some (a0_0, a0_1, (y153 ++ l0_2))) else (none))
def impl_copyDesk.T1 : Bool × List (List Nat × List Nat) := (true, [([], []), ([0], [0]), ([], []), ([], []), ([3], [3]), ([2, 4], [2, 4]), ([1, 5], [1, 5]), ([6, 5, 0, 1, 2, 3, 4, 5, 6], [6])])
def impl_copyDesk.B1 : List Nat := [0, 1, 0, 0, 8, 28, 63, 127]
theorem impl_copyDesk.tab1 : rtab .any (opsOf Tryz.f76 1) = impl_copyDesk.T1 := by kernel_rfl
theorem impl_copyDesk.bits1 : waitsOk impl_copyDesk.T1.2 impl_copyDesk.B1 = true := by kernel_rfl
set_option maxHeartbeats 8000000 in
set_option maxRecDepth 100000 in
theorem impl_copyDesk.calls (a0_0 : Int) (a0_1 : Int) (A0_2 : Option Addr) (c0_2 : Nat) (l0_2 : List (S31)) (r1 : Int) (r2 : Int) (r3 : List (S31)) (w : World) (hr0_2 : Kd.C k31 w A0_2 l0_2.length l0_2) (hc0_2 : l0_2.length ≤ c0_2) (h : impl_copyDesk.f a0_0 a0_1 l0_2 = some (r1, r2, r3)) :
  Calls Tryz.prog 76 #[.agg #[.int .i64 a0_0, .int .i64 a0_1, .slice A0_2 l0_2.length c0_2]] w fun e w' => ∃ v2_ : Value, e = .returned (.agg #[.int .i64 r1, .int .i64 r2, v2_]) ∧ Kd.R k31 31 w' w.heap.size (fun _ => True) v2_ r3 ∧ Below w.heap.size w w' := by
 have hu34 := Tryz.underlying34
 have hu31 := Tryz.underlying31
 have HR0_2 := Aside0.mk hr0_2
 have HC0_2 := Aside0.mk hc0_2
 clear hr0_2 hc0_2
 have HB := Aside0.mk (Below.refl w.heap.size w)
 unfold impl_copyDesk.f at h
 have H := h
 clear h
 obtain ⟨y153, hy153⟩ : ∃ y_ : List (S31), y_ = (([] : List (S31))) := ⟨_, rfl⟩
 replace H : (if y153.length + l0_2.length < 8796093022208 then (some (a0_0, a0_1, (y153 ++ l0_2))) else (none)) = some (r1, r2, r3) := sqW hy153 H
 have Ny153 := Aside0.mk hy153
 clear hy153
 obtain ⟨c2, H⟩ := sqI H
 have LMc2 := Aside0.mk c2
 clear c2
 obtain ⟨y156, hy156⟩ : ∃ y_ : List (S31), y_ = (y153 ++ l0_2) := ⟨_, rfl⟩
 replace H : (some (a0_0, a0_1, y156)) = some (r1, r2, r3) := sqW hy156 H
 have Ny156 := Aside0.mk hy156
 clear hy156
 obtain ⟨rfl, rfl, rfl⟩ := sqO3 H
 go_enter Tryz.func76, Tryz.ntmps76
 try go_wp2_with (first | ((with_reducible refine gate_dst (N := 1) rfl ?_); refine sqBx w (sqB HB) (N := 1) (cs := #[.int .i64 a0_0, .int .i64 a0_1, .slice A0_2 l0_2.length c0_2]) (t := 34) ?_; intro gb151 hg w3 BK151 GE151 HB hb; clear hb hg) | ((with_reducible refine gate_dst (N := 2) rfl ?_); refine sqBx w (sqB1 HB GE151) (N := 2) (cs := #[.int .i64 0, .int .i64 0, .slice none 0 0]) (t := 34) ?_; intro gb152 hg w4 BK152 GE152 HB hb; obtain ⟨NB151_152, NB152_151⟩ := sqM hg BK151; replace BK151 := sqT BK151 hb; clear hb hg))
 replace BK151 := Aside0.mk (blk_drew BK151.out)
 replace BK152 := Aside0.mk (blk_drew BK152.out)
 replace HB := Aside0.mk (below_drew1 HB.out)
 refine start_ (n := 8) (S := fun w' => w'.cell? ⟨gb151, 0, none⟩ = some (.int .i64 a0_0) ∧ w'.cell? ⟨gb151, 1, none⟩ = some (.int .i64 a0_1) ∧ w'.cell? ⟨gb151, 2, none⟩ = some (.slice A0_2 l0_2.length c0_2)) (ds := []) #[false, false, false, false, false, false, false, false] (by kernel_rfl) rfl rfl ⟨(blk_cell BK151.out 0).trans rfl, (blk_cell BK151.out 1).trans rfl, (blk_cell BK151.out 2).trans rfl⟩ (fun hHeld => ?_); refine with_tabW impl_copyDesk.tab1 impl_copyDesk.bits1 (fun HT_ HW_ => ?_)
 generalize w4.drew = w5 at BK151 BK152 HB hHeld ⊢
 refine sqP (i := 0) (N := some 3) (h := ?_)
 refine sqP (i := 3) (N := some 6) (h := ?_)
 refine sqQ (i := 1) (N := some 4) hHeld (h := ?_)
 refine sqQ (i := 4) (N := some 7) hHeld (h := ?_)
 refine one_ (i := 2) (N := some 5) #[true, true, true, true, true, false, false, false] rfl rfl (one_of HT_.out (by kernel_rfl)) (by decide) (fun K hK => ?_)
 refine Kd.R_lit_step k31 _ 31 ?hg (N := 5) ?hd (xs := ([] : List (S31))) (inner := []) (ok := fun _ => True) (okp := fun _ => True) ?hr ?hp (fun _ hk => hk) trivial (Below.refl _ _) (Nat.le_refl _) (by simp) ?_; (case hd => rfl); (case hg => rfl); (case hr => exact Z21); (case hp => exact Z22)
 intro v154 w6 ho7 hb hg_ hnew_
 clear hg_ hnew_
 (first | rw [← Ny153.out] at ho7 | (simp only [Int.reduceToNat] at ho7; rw [← Ny153.out] at ho7))
 have HO155 := sqL ho7 (sqB2 HB GE151 GE152)
 replace BK151 := sqT BK151 hb
 replace BK152 := sqT BK152 hb
 replace HB := sqS (sqB2 HB GE151 GE152) hb
 clear hb ho7
 refine hK.out _ _ ⟨(blk_cell BK151.out 0).trans rfl, (blk_cell BK151.out 1).trans rfl, (blk_cell BK151.out 2).trans rfl⟩ (fun hHeld => ?_)
 clear hK K
 refine sqN (some 5) ?_
 refine one_ (i := 5) (N := some 8) #[true, true, true, true, true, true, false, false] rfl rfl (one_of HT_.out (by kernel_rfl)) (by decide) (fun K hK => ?_)
 refine Kd.R_append_rows_step k31 (w0 := w) w.heap.size (by rfl) (.tmp 5) (.tmp 7) 32 31 (.agg #[(.int .i64 0), (.int .i64 0)]) 16 rfl Tryz.underlying32 info31 rfl (by decide) (by omega) v154 y153 l0_2 _ _ _ (fun _ => True) (fun _ => False) rfl rfl ?aO ?aR (fun _ _ h => h) (fun _ h => h.elim) ?aF ?aB ?aS ?aL ?_
 (case aR => exact Z16)
 (case aB => exact (sqB2 HB GE151 GE152))
 (case aF => exact Z23)
 (case aO => exact (sqR HO155))
 (case aS => exact (below_size (sqB2 HB GE151 GE152)))
 (case aL => exact Z3 LMc2)
 intro v157 w8 ho hb hg hat
 rw [← Ny156.out] at ho
 replace BK151 := Aside0.mk (blk_grown (sqK BK151) hg (Kd.R_ne HO155.out BK151.out (by decide)))
 replace BK152 := Aside0.mk (blk_grown (sqK BK152) hg (Kd.R_ne HO155.out BK152.out (by decide)))
 replace HB := Aside0.mk (hb)
 have HO158 := Aside0.mk (ho)
 clear HO155
 clear ho hb hg hat
 obtain ⟨Ao9, co9, eo9⟩ := Kd.R_slice HO158.out
 (first | subst eo9 | (injection eo9 with f1_ f2_ f3_; have f4_ := f1_.symm; have f5_ := f3_.symm; clear f1_ f2_ f3_; subst f4_; subst f5_))
 refine hK.out _ _ ⟨(blk_cell BK151.out 0).trans rfl, (blk_cell BK151.out 1).trans rfl, (blk_cell BK151.out 2).trans rfl⟩ (fun hHeld => ?_)
 clear hK K
 refine sqN (some 8) ?_
 refine sqP (i := 6) (N := some 9) (h := ?_)
 refine one_ (i := 7) (N := none) #[true, true, true, true, true, true, true, true] rfl rfl (one_of HT_.out (by kernel_rfl)) (by decide) (fun K hK => ?_)
 have hs10 : w8.cell? ⟨gb152, 0, none⟩ = some (.int .i64 0) := (blk_cell BK152.out 0).trans rfl
 have hfs10 := blk_frozen BK152.out 0
 have hns10_0 := NB151_152.out
 have hms10_0 := NB152_151.out
 have hs11 : w8.cell? ⟨gb152, 1, none⟩ = some (.int .i64 0) := (blk_cell BK152.out 1).trans rfl
 have hfs11 := blk_frozen BK152.out 1
 have hs12 : w8.cell? ⟨gb152, 2, none⟩ = some (.slice none 0 0) := (blk_cell BK152.out 2).trans rfl
 have hfs12 := blk_frozen BK152.out 2
 refine skip_ (w1 := ?_) (by rfl) rfl ?_ ?_
 rotate_left
 ·go_simp
  rfl
 refine hK.out _ _ ⟨((cell_far (p := ⟨gb152, _, none⟩) NB151_152.out _).trans (((cell_far (p := ⟨gb152, _, none⟩) NB151_152.out _).trans (((cell_far (p := ⟨gb152, _, none⟩) NB151_152.out _).trans (hHeld.1)))))), ((cell_far (p := ⟨gb152, _, none⟩) NB151_152.out _).trans (((cell_far (p := ⟨gb152, _, none⟩) NB151_152.out _).trans (((cell_far (p := ⟨gb152, _, none⟩) NB151_152.out _).trans (hHeld.2.1)))))), ((cell_far (p := ⟨gb152, _, none⟩) NB151_152.out _).trans (((cell_far (p := ⟨gb152, _, none⟩) NB151_152.out _).trans (((cell_far (p := ⟨gb152, _, none⟩) NB151_152.out _).trans (hHeld.2.2))))))⟩ (fun hHeld => ?_)
 clear hK K
 refine done_ (done_of HT_.out (by kernel_rfl)) ?_
 try go_wp2
 refine bodyPost_ret (results_cell_row rfl _ _ gb152 34 #[.int .i64 a0_0, .int .i64 a0_1, .slice Ao9 y156.length co9] (0, 0) _ rfl (Z24 BK152) Tryz.underlying34 rfl (by kernel_rfl)) rfl ?_
 exact ⟨_, Z6, by (with_reducible repeat (first | apply Kd.R_alloc | apply Kd.R_drewN | apply Kd.R_drew)); exact Kd.R_mono (Kd.R_far (p := ⟨gb152, 2, none⟩) (Kd.R_far (p := ⟨gb152, 1, none⟩) (Kd.R_far (p := ⟨gb152, 0, none⟩) (Kd.R_types HO158.out BK152.out (by decide)) (fun _ hk => hk.2) (.int .i64 a0_0)) (fun _ hk => hk.2) (.int .i64 a0_1)) (fun _ hk => hk.2) (.slice Ao9 y156.length co9)) (fun _ hk => trivial), sqB2 HB GE151 GE152⟩

-- given: function 139 (strings_Trim)

end Go.Proofs.YtofmlbgfcohhoaaGreatDoor.PFnExactDeskLine
