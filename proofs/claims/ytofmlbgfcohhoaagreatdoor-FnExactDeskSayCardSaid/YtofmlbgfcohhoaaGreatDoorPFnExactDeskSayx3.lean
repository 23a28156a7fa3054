import Derived.Test.YtofmlbgfcohhoaaGreatDoorPFnExactDeskSayx0
set_option maxHeartbeats 8000000
set_option maxRecDepth 100000
namespace Go.Proofs.YtofmlbgfcohhoaaGreatDoor.PFnExactDeskSay
open Go.RowKit Go.Proofs.YtofmlbgfcohhoaaGreatDoorW.PrintWords Go.Proofs.YtofmlbgfcohhoaaGreatDoorW.PrintLast Go.Proofs.YtofmlbgfcohhoaaGreatDoorW.PrintMore Go.Proofs.YtofmlbgfcohhoaaGreatDoor.Lib Go.Proofs.Tryz
attribute [local go_sem] max2_int min2_int max_two min_two max_three min_three max_four min_four   -- for this text's walks alone
set_option linter.unusedVariables false
set_option linter.unusedSimpArgs false

/-! ### laws_szFractionS: function 55 -/
def laws_szFractionS.f (l0 : List (S23)) (a1 : Int) : Option (Int) := if (wrap64 (a1 - (l0.length : Int))) < 0 then (some (-1)) else (some (wrap64 (a1 - (l0.length : Int))))
theorem laws_szFractionS.calls (A0 : Option Addr) (c0 : Nat) (l0 : List (S23)) (a1 : Int) (r : Int) (w : World) (hr0 : Kd.C k23 w A0 l0.length l0) (hc0 : l0.length ≤ c0) (H : laws_szFractionS.f l0 a1 = some r) :
  Calls prog 55 #[.slice A0 l0.length c0, .int .i64 a1] w fun e w' => e = .returned (.int .i64 r) ∧ Drawn0 w w' := by
 have HR0 := sqa hr0
 have HC0 := sqa hc0
 clear hr0 hc0
 unfold laws_szFractionS.f at H
 by_cases c3 : (wrap64 (a1 - (l0.length : Int))) < 0
 ·rw [if_pos c3] at H
  have c3b0 : decide ((wrap64 (a1 - (l0.length : Int))) < 0) = true := decide_eq_true c3
  clear c3
  obtain rfl := sqo H
  go_enter func55, ntmps55
  go_wp2
  go_ret
  exact ⟨Z4, Z51⟩
 rw [if_neg c3] at H
 have c3b0 : decide ((wrap64 (a1 - (l0.length : Int))) < 0) = false := decide_eq_false c3
 clear c3
 obtain rfl := sqo H
 go_enter func55, ntmps55
 go_wp2
 go_ret
 exact ⟨Z4, Z51⟩

/-! ### laws_szDesk: function 12 -/
def laws_szDesk.f (a0_0 : Int) (a0_1 : Int) (l0_2 : List (S23)) (a1 : Int) : Option (Int) := (laws_szFractionS.f l0_2 a1).bind fun t0 => (if t0 < 0 then (some (-1)) else (some t0))
theorem laws_szDesk.calls (a0_0 : Int) (a0_1 : Int) (A0_2 : Option Addr) (c0_2 : Nat) (l0_2 : List (S23)) (a1 : Int) (r : Int) (w : World) (hr0_2 : Kd.C k23 w A0_2 l0_2.length l0_2) (hc0_2 : l0_2.length ≤ c0_2) (H : laws_szDesk.f a0_0 a0_1 l0_2 a1 = some r) :
  Calls prog 12 #[.agg #[.int .i64 a0_0, .int .i64 a0_1, .slice A0_2 l0_2.length c0_2], .int .i64 a1] w fun e w' => e = .returned (.int .i64 r) ∧ Below w.heap.size w w' := by
 have hu26 := underlying26
 have HR0_2 := sqa hr0_2
 have HC0_2 := sqa hc0_2
 clear hr0_2 hc0_2
 have HB := sqh w
 unfold laws_szDesk.f at H
 obtain ⟨t0, A3, H⟩ := sqD H
 by_cases c4 : t0 < 0
 ·rw [if_pos c4] at H
  have c4b0 : decide (t0 < 0) = true := decide_eq_true c4
  clear c4
  obtain rfl := sqo H
  go_enter func12, ntmps12
  go_wp2_with (first | ((with_reducible refine sqd 2 rfl ?_); refine sqBx w (sqB HB) (cs := #[.int .i64 a0_0, .int .i64 a0_1, .slice A0_2 l0_2.length c0_2]) (t := 26) ?_; intro g0 hg w5 B0 E0 HB hb; clear hb hg; obtain ⟨_, _, _, _, _, _⟩ := sqY3 B0) | ((with_reducible refine sqc 55 rfl ?_); refine sqC (some 8) func55 #[.slice A0_2 l0_2.length c0_2, .int .i64 a1] ?_; (with_reducible refine (laws_szFractionS.calls _ _ l0_2 a1 t0 _ ?side1 ?side2 A3.1).mono ?_); (case side1 => exact Z2); (case side2 => exact Z3); rintro e w' ⟨rfl, ⟨nd, rfl⟩⟩; refine ⟨_, rfl, ?_⟩))
  go_ret
  exact ⟨Z16, sqB1 HB E0⟩
 rw [if_neg c4] at H
 have c4b0 : decide (t0 < 0) = false := decide_eq_false c4
 clear c4
 obtain rfl := sqo H
 go_enter func12, ntmps12
 go_wp2_with (first | ((with_reducible refine sqd 2 rfl ?_); refine sqBx w (sqB HB) (cs := #[.int .i64 a0_0, .int .i64 a0_1, .slice A0_2 l0_2.length c0_2]) (t := 26) ?_; intro g0 hg w7 B0 E0 HB hb; clear hb hg; obtain ⟨_, _, _, _, _, _⟩ := sqY3 B0) | ((with_reducible refine sqc 55 rfl ?_); refine sqC (some 8) func55 #[.slice A0_2 l0_2.length c0_2, .int .i64 a1] ?_; (with_reducible refine (laws_szFractionS.calls _ _ l0_2 a1 t0 _ ?side1 ?side2 A3.1).mono ?_); (case side1 => exact Z2); (case side2 => exact Z3); rintro e w' ⟨rfl, ⟨nd, rfl⟩⟩; refine ⟨_, rfl, ?_⟩))
 go_ret
 exact ⟨Z16, sqB1 HB E0⟩

/-! ### laws_toFraction: function 58 -/
def laws_toFraction.f (a0_0 : Int) (a0_1 : Int) : Option (Int × Int) := some (a0_0, a0_1)
theorem laws_toFraction.calls (a0_0 : Int) (a0_1 : Int) (r1 : Int) (r2 : Int) (w : World) (H : laws_toFraction.f a0_0 a0_1 = some (r1, r2)) :
  Calls prog 58 #[.agg #[.int .i64 a0_0, .int .i64 a0_1]] w fun e w' => e = .returned (.agg #[.int .i64 r1, .int .i64 r2]) ∧ Below w.heap.size w w' := by
 have hu23 := underlying23
 have hu31 := underlying31
 have HB := sqh w
 unfold laws_toFraction.f at H
 obtain ⟨rfl, rfl⟩ := sqO2 H
 go_enter func58, ntmps58
 go_wp2_with (first | ((with_reducible refine sqd 1 rfl ?_); refine sqBx w (sqB HB) (cs := #[.int .i64 a0_0, .int .i64 a0_1]) (t := 23) ?_; intro g0 hg w2 B0 E0 HB hb; clear hb hg) | ((with_reducible refine sqd 2 rfl ?_); refine sqBx w (sqB1 HB E0) (cs := #[.int .i64 0, .int .i64 0]) (t := 31) ?_; intro g1 hg w3 B2 E1 HB hb; obtain ⟨N0, N1⟩ := sqM hg B0; replace B0 := sqT B0 hb; clear hb hg) | ((with_reducible refine sqd 3 rfl ?_); refine sqBx w (sqB2 HB E0 E1) (cs := #[.int .i64 0, .int .i64 0]) (t := 31) ?_; intro g2 hg w4 B9 E2 HB hb; obtain ⟨N2, N3⟩ := sqM hg B0; replace B0 := sqT B0 hb; obtain ⟨N4, N5⟩ := sqM hg B2; replace B2 := sqT B2 hb; clear hb hg; have := N0.1; have := N1.1; have := N2.1; have := N3.1; obtain ⟨_, _, _, _⟩ := sqY2 B0; have := N5.1; have := N4.1; obtain ⟨_, _, _, _⟩ := sqY2 B9; obtain ⟨_, _, _, _⟩ := sqY2 B2))
 refine bodyPost_ret (results_cell_row rfl _ _ g1 31 #[.int .i64 a0_0, .int .i64 a0_1] (0, 0) _ rfl (by refine sqPut (cs := #[.int .i64 a0_0, .int .i64 0]) ?_ 1; refine sqPut (cs := #[.int .i64 0, .int .i64 0]) ?_ 0; refine sqFar ?_ N4; refine sqFar ?_ N4; exact sqK B2) underlying31 rfl (by kernel_rfl)) rfl ?_
 exact ⟨Z16, sqB3 HB E0 E1 E2⟩

/-! ### laws_toFractionS: function 59 -/
def laws_toFractionS.l0 : Nat → List (S23) → List (S31) → Int → Option ((List (S31)))
 | 0, _, _, _ => none
 | k + 1, x0, x3, x4 => if x4 < (x0.length : Int) then (if 0 ≤ x4 then ((laws_toFraction.f ((rd_T23 x0 x4).f0) ((rd_T23 x0 x4).f1)).bind fun bt0 => (if x4 < (x3.length : Int) then (laws_toFractionS.l0 k x0 (x3.set (x4 : Int).toNat (⟨bt0.1, bt0.2⟩ : S31)) (wrap64 (x4 + 1))) else (none))) else (none)) else (some x3)
def laws_toFractionS.f (k : Nat) (l0 : List (S23)) : Option ((List (S31))) := if 0 ≤ (l0.length : Int) then (if ((l0.length : Int) : Int).toNat ≤ 17592186044416 then (laws_toFractionS.l0 k l0 (List.replicate ((l0.length : Int) : Int).toNat z31) 0) else (none)) else (none)
abbrev laws_toFractionS.M (k : Nat) : Prop := (∀ y0 y1 y2, LeO (laws_toFractionS.l0 k y0 y1 y2) (laws_toFractionS.l0 (k + 1) y0 y1 y2))
theorem laws_toFractionS.mono_t : ∀ k, laws_toFractionS.M k → laws_toFractionS.M (k + 1) ∧ ∀ a0, LeO (laws_toFractionS.f k a0) (laws_toFractionS.f (k + 1) a0) := by
  rintro k ih0
  refine ⟨?_, ?_⟩ <;> (try unfold laws_toFractionS.M) <;> intros <;> (first | unfold laws_toFractionS.l0 | unfold laws_toFractionS.f) <;> repeat' (with_reducible first | exact ih0 _ _ _ | exact LeO.refl _ | exact LeO.none _ | refine LeO.ite ?_ ?_ | refine LeO.bind ?_ fun _ => ?_)
theorem laws_toFractionS.mono_l : ∀ k, laws_toFractionS.M k
 | 0 => fun _ _ _ r h => by simp [laws_toFractionS.l0] at h
 | k + 1 => (laws_toFractionS.mono_t k (laws_toFractionS.mono_l k)).1
theorem laws_toFractionS.mono a0 k : LeO (laws_toFractionS.f k a0) (laws_toFractionS.f (k + 1) a0) := (laws_toFractionS.mono_t k (laws_toFractionS.mono_l k)).2 a0
theorem laws_toFractionS.calls (k : Nat) (A0 : Option Addr) (c0 : Nat) (l0 : List (S23)) (r : List (S31)) (w : World) (hr0 : Kd.C k23 w A0 l0.length l0) (hc0 : l0.length ≤ c0) (H : laws_toFractionS.f k l0 = some r) :
  Calls prog 59 #[.slice A0 l0.length c0] w fun e w' => ∃ v0_ : Value, e = .returned (v0_) ∧ Kd.R k31 31 w' w.heap.size (fun _ => True) v0_ r ∧ Below w.heap.size w w' := by
 have hu23 := underlying23
 have hu31 := underlying31
 have HR0 := sqa hr0
 have HC0 := sqa hc0
 clear hr0 hc0
 have HB := sqh w
 unfold laws_toFractionS.f at H
 obtain ⟨c2, H⟩ := sqI H
 have c2b0 := eq_true c2
 have c2b1 : decide (0 ≤ (l0.length : Int)) = true := decide_eq_true c2
 clear c2
 obtain ⟨c3, H⟩ := sqI H
 have c3b0 := eq_true c3
 have c3b1 : decide (((l0.length : Int) : Int).toNat ≤ 17592186044416) = true := decide_eq_true c3
 clear c3
 obtain ⟨y0, hy0⟩ : ∃ y_ : List (S31), y_ = (List.replicate ((l0.length : Int) : Int).toNat z31) := ⟨_, rfl⟩
 replace H : (laws_toFractionS.l0 k l0 y0 0) = some r := sqW hy0 H
 have Ny0 := sqa hy0
 clear hy0
 have H' := sqa H
 clear H
 go_enter func59, ntmps59
 go_wp2_with (first | ((with_reducible refine sqd 7 rfl ?_); refine Kd.R_make k31 _ 31 rfl (N := 7) rfl 32 _ _ rfl (l0.length : Int) rfl rfl underlying32 (.agg #[(.int .i64 0), (.int .i64 0)]) 16 info31 rfl (by decide) (by omega) z31 (ok := fun _ => True) (okp := fun _ => True) (k31_mkM _ _ _ z31 ) (fun _ hk => hk) trivial (of_decide_eq_true Z9) (Nat.le_trans (Nat.mul_le_mul_right _ (of_decide_eq_true Z9 : (l0.length : Int).toNat ≤ 17592186044416)) (by omega)) (Below.refl _ _) (Nat.le_refl _) ?_; intro v0 w4 ho5 hb hg_ hnew_; clear hg_ hnew_; (first | rw [← Ny0.out] at ho5 | (simp only [Int.reduceToNat] at ho5; rw [← Ny0.out] at ho5)); have O0 := sqL ho5 (sqB HB); replace HB := sqS (sqB HB) hb; clear hb ho5))
 go_loopg [4] k (fun kq v4 w' => ∃ (x3_1 : List (S31)) (x4_1 : Int), v4 = .int .i64 x4_1 ∧ Aside0 (laws_toFractionS.l0 kq l0 x3_1 x4_1 = some r) ∧ Aside0 (kq ≤ k) ∧ Aside0 (Kd.R k31 31 w' w.heap.size (fun _ => True) v0 x3_1) ∧ Aside0 (Below w.heap.size w w'))
 case atStart => exact ⟨(y0), (0), Z4, H', ⟨Nat.le_refl _⟩, ⟨sqR O0⟩, ⟨sqB HB⟩⟩
 case round =>
  clear H'
  obtain ⟨x3_1, x4_1, rfl, HA, HK1, O1, HB⟩ := hrel
  cases gk with
  | zero => exact absurd HA.out (by simp [laws_toFractionS.l0])
  | succ k1 =>
   have H := HA.out
   clear HA
   simp only [laws_toFractionS.l0] at H
   by_cases c6 : x4_1 < (l0.length : Int)
   ·rw [if_pos c6] at H
    have c6b0 : decide (x4_1 < (l0.length : Int)) = true := decide_eq_true c6
    clear c6
    obtain ⟨c7, H⟩ := sqI H
    have c7b0 : decide (0 ≤ x4_1) = true := decide_eq_true c7
    clear c7
    obtain ⟨⟨t0, t1⟩, A8, H⟩ := sqD H
    try dsimp only at H
    obtain ⟨c9, H⟩ := sqI H
    have c9b0 : decide (x4_1 < (x3_1.length : Int)) = true := decide_eq_true c9
    clear c9
    obtain ⟨y1, hy1⟩ : ∃ y_ : List (S31), y_ = (x3_1.set (x4_1 : Int).toNat (⟨t0, t1⟩ : S31)) := ⟨_, rfl⟩
    replace H : (laws_toFractionS.l0 k1 l0 y1 (wrap64 (x4_1 + 1))) = some r := sqW hy1 H
    have Ny1 := sqa hy1
    clear hy1
    have H' := sqa H
    clear H
    have p0 : 0 ≤ (x4_1 : Int) := of_decide_eq_true Z9
    have q0 : x4_1 < (l0.length : Int) := of_decide_eq_true Z9
    obtain ⟨ad0, e0, hx0, hx1⟩ := at_T23 HR0.1 x4_1 p0 q0
    cases e0
    replace hx0 := (HB.1.cell (World.block_lt_of_cell? w _ hx0)).trans hx0
    replace hx1 := (HB.1.cell (World.block_lt_of_cell? w _ hx1)).trans hx1
    replace p0 := eq_true p0
    replace q0 := eq_true q0
    go_wp2_with (first | ((with_reducible refine sqc 58 rfl ?_); refine sqC (some 20) func58 #[.agg #[.int .i64 ((rd_T23 l0 x4_1).f0), .int .i64 ((rd_T23 l0 x4_1).f1)]] ?_; (with_reducible refine (laws_toFraction.calls ((rd_T23 l0 x4_1).f0) ((rd_T23 l0 x4_1).f1) t0 t1 _ A8.1).mono ?_); refine sqV fun w11 hb => ?_; replace O1 := sqU O1 hb; replace HB := sqS (sqB HB) hb; (try clear hb); have p10 : 0 ≤ (x4_1 : Int) := of_decide_eq_true Z9; have q10 : (x4_1 : Int) < ((x3_1.length : Int) : Int) := of_decide_eq_true Z9; obtain ⟨go10, co10, eo10, g0, gl10, cl10, HG10⟩ := Kd.R_form O1.1 (by omega); (first | cases eo10 | (injection eo10 with ea_ en_ ec_; (first | subst ea_ | (injection ea_ with ea_; subst ea_)); subst ec_; clear en_)); have GB10 := sqa g0; have GG10 := sqa HG10; clear g0 gl10 HG10; obtain ⟨ce10, hcl10, hM10, hcc10, hfr10⟩ := Kd.R_elem O1.1 z31 (x4_1 : Int) p10 q10; obtain rfl := k31_openM hM10; have hx10_0 : w11.cell? ⟨go10, (x4_1 : Int).toNat * 2, none⟩ = some (.int .i64 ((rd_T31 x3_1 x4_1).f0)) := hcc10 0 _ rfl; have hx10_1 : w11.cell? ⟨go10, (x4_1 : Int).toNat * 2 + 1, none⟩ = some (.int .i64 ((rd_T31 x3_1 x4_1).f1)) := hcc10 1 _ rfl; have hf10_0 : w11.frozen? ⟨go10, (x4_1 : Int).toNat * 2, none⟩ = false := hfr10 0; have hf10_1 : w11.frozen? ⟨go10, (x4_1 : Int).toNat * 2 + 1, none⟩ = false := hfr10 1; clear hcl10 hcc10 hfr10 hM10; replace p10 := eq_true p10; replace q10 := eq_true q10; have HX12 := sqa (show Kd.R k31 31 w11 w.heap.size (fun _ => True) (.slice (some ⟨go10, 0, none⟩) x3_1.length co10) x3_1 from (sqR O1)); obtain ⟨ce12, hcl12, hM12, hcc12, hfr12⟩ := Kd.R_elem HX12.out z31 (x4_1 : Int) (of_decide_eq_true Z9) (by have h_ : (x4_1 : Int) < ((x3_1.length : Int) : Int) := of_decide_eq_true Z9; first | exact h_ | (have e_ := (Kd.R_reads' O1.1).1; omega) | simpa using h_); obtain rfl := k31_openM hM12; have HP12 := Kd.R_seg HX12.out (x4_1 : Int) (of_decide_eq_true Z9) (by have h_ : (x4_1 : Int) < ((x3_1.length : Int) : Int) := of_decide_eq_true Z9; first | exact h_ | (have e_ := (Kd.R_reads' O1.1).1; omega) | simpa using h_) (seg := [.int .i64 t0, .int .i64 t1]) (j := 0) hcl12 hcc12 (show 2 ≤ 2 from by decide) (x' := (⟨t0, t1⟩ : S31)) (k31_mkM _ _ _ (⟨t0, t1⟩ : S31) ) (fun _ hk => hk); have hx12_0 := hcc12 0 _ rfl; (try simp only [show (k31).sz = 2 from rfl, Nat.mul_one, Nat.add_zero] at hx12_0); have hf12_0 := hfr12 0; (try simp only [show (k31).sz = 2 from rfl, Nat.mul_one, Nat.add_zero] at hf12_0); have hx12_1 := hcc12 1 _ rfl; (try simp only [show (k31).sz = 2 from rfl, Nat.mul_one, Nat.add_zero] at hx12_1); have hf12_1 := hfr12 1; (try simp only [show (k31).sz = 2 from rfl, Nat.mul_one, Nat.add_zero] at hf12_1); clear hcl12 hcc12 hfr12 hM12) | ((with_reducible refine gate_store (t := 31) (p := 21) rfl ?_); refine store_event (t := 31) (p := 21) (v := ?vo_w13) (w1 := ((w11.setCell ⟨go10, (x4_1 : Int).toNat * 2, none⟩ (.int .i64 t0)).setCell ⟨go10, (x4_1 : Int).toNat * 2 + 1, none⟩ (.int .i64 t1))) ?hg ?ho ?hn ?hr ?_; (case ho => rfl); (case hg => rfl); (case hn => rfl); (case hr => exact Z10); intro w13 hw; have hg : w11.grownBy w13 (some go10) := (by rw [hw]; exact HP12.2); have hp_ : Kd.R k31 31 w13 w.heap.size (fun _ => True) (.slice (some ⟨go10, 0, none⟩) x3_1.length co10) y1 := (by rw [hw, Ny1.out]; exact HP12.1); clear HP12; replace O1 := sqa (hp_); replace HB := sqa ((by rw [hw]; exact below_set (below_set (HB.1) GB10.out) GB10.out : Below w.heap.size w w13)); clear hg hw hp_))
    go_roundg k1
    case measure => have := HK1.out; omega
    case rel => exact ⟨(y1), (wrap64 (x4_1 + 1)), Z4, H', ⟨Z17 HK1⟩, ⟨sqR O1⟩, ⟨sqB HB⟩⟩
   rw [if_neg c6] at H
   have c6b0 : decide (x4_1 < (l0.length : Int)) = false := decide_eq_false c6
   clear c6
   obtain rfl := sqo H
   go_wp2
   go_ret
   exact ⟨_, Z16, Z50 O1, sqB HB⟩

/-! ### laws_toDesk: function 15 -/
def laws_toDesk.f (k : Nat) (a0_0 : Int) (a0_1 : Int) (l0_2 : List (S23)) : Option (Int × Int × (List (S31))) := (laws_toFraction.f a0_0 a0_1).bind fun bt0 => ((laws_toFractionS.f k l0_2).bind fun t0 => (some (bt0.1, bt0.2, t0)))
theorem laws_toDesk.mono : ∀ a0 a1 a2 k, LeO (laws_toDesk.f k a0 a1 a2) (laws_toDesk.f (k + 1) a0 a1 a2) := by
 intro a0 a1 a2 k
 unfold laws_toDesk.f
 repeat' (with_reducible first | exact laws_toFractionS.mono _ _ | exact LeO.refl _ | exact LeO.none _ | refine LeO.ite ?_ ?_ | refine LeO.bind ?_ fun _ => ?_)
theorem laws_toDesk.calls (k : Nat) (a0_0 : Int) (a0_1 : Int) (A0_2 : Option Addr) (c0_2 : Nat) (l0_2 : List (S23)) (r1 : Int) (r2 : Int) (r3 : List (S31)) (w : World) (hr0_2 : Kd.C k23 w A0_2 l0_2.length l0_2) (hc0_2 : l0_2.length ≤ c0_2) (H : laws_toDesk.f k a0_0 a0_1 l0_2 = some (r1, r2, r3)) :
  Calls prog 15 #[.agg #[.int .i64 a0_0, .int .i64 a0_1, .slice A0_2 l0_2.length c0_2]] w fun e w' => ∃ v2_ : Value, e = .returned (.agg #[.int .i64 r1, .int .i64 r2, v2_]) ∧ Kd.R k31 31 w' w.heap.size (fun _ => True) v2_ r3 ∧ Below w.heap.size w w' := by
 have hu26 := underlying26
 have hu34 := underlying34
 have hu23 := underlying23
 have hu31 := underlying31
 have HR0_2 := sqa hr0_2
 have HC0_2 := sqa hc0_2
 clear hr0_2 hc0_2
 have HB := sqh w
 unfold laws_toDesk.f at H
 obtain ⟨⟨t0, t1⟩, A2, H⟩ := sqD H
 try dsimp only at H
 obtain ⟨t2, A3, H⟩ := sqD H
 obtain ⟨rfl, rfl, rfl⟩ := sqO3 H
 go_enter func15, ntmps15
 go_wp2_with (first | ((with_reducible refine sqd 1 rfl ?_); refine sqBx w (sqB HB) (cs := #[.int .i64 a0_0, .int .i64 a0_1, .slice A0_2 l0_2.length c0_2]) (t := 26) ?_; intro g0 hg w4 B0 E0 HB hb; clear hb hg) | ((with_reducible refine sqd 2 rfl ?_); refine sqBx w (sqB1 HB E0) (cs := #[.int .i64 0, .int .i64 0, .slice none 0 0]) (t := 34) ?_; intro g1 hg w5 B2 E1 HB hb; obtain ⟨N0, N1⟩ := sqM hg B0; replace B0 := sqT B0 hb; clear hb hg) | ((with_reducible refine sqd 3 rfl ?_); refine sqBx w (sqB2 HB E0 E1) (cs := #[.int .i64 0, .int .i64 0, .slice none 0 0]) (t := 34) ?_; intro g2 hg w6 B9 E2 HB hb; obtain ⟨N2, N3⟩ := sqM hg B0; replace B0 := sqT B0 hb; obtain ⟨N4, N5⟩ := sqM hg B2; replace B2 := sqT B2 hb; clear hb hg; have := N0.1; have := N1.1; have := N2.1; have := N3.1; obtain ⟨_, _, _, _, _, _⟩ := sqY3 B0) | ((with_reducible refine sqc 58 rfl ?_); refine sqC (some 6) func58 #[.agg #[.int .i64 a0_0, .int .i64 a0_1]] ?_; (with_reducible refine (laws_toFraction.calls a0_0 a0_1 t0 t1 _ A2.1).mono ?_); refine sqV fun w10 hb => ?_; replace B0 := sqT B0 hb; replace B2 := sqT B2 hb; replace B9 := sqT B9 hb; replace HB := sqS (sqB3 HB E0 E1 E2) hb; (try clear hb); have := N5.1; have := N4.1; obtain ⟨_, _, _, _, _, _⟩ := sqY3 B9; obtain ⟨_, _, _, _, _, _⟩ := sqY3 B0) | ((with_reducible refine sqc 59 rfl ?_); refine sqC (some 10) func59 #[.slice A0_2 l0_2.length c0_2] ?_; (with_reducible refine (laws_toFractionS.calls k _ _ l0_2 t2 _ ?side1 ?side2 A3.1).mono ?_); (case side1 => exact Kd.C_below HR0_2.1 (sqB3 HB E0 E1 E2)); (case side2 => exact Z3); rintro e w14 ⟨v0, rfl, ho0, hb⟩; refine ⟨_, rfl, ?_⟩; have O0 := sqL ho0 (sqB3 HB E0 E1 E2); replace B0 := sqH N2 B0 hb; replace B2 := sqH N4 B2 hb; replace B9 := sqa (blk_below (g := g2) (o := .cells #[.int .i64 t0, .int .i64 t1, .slice none 0 0] 34 (0, 0)) (by refine sqPut (cs := #[.int .i64 t0, .int .i64 0, .slice none 0 0]) ?_ 1; refine sqPut (cs := #[.int .i64 0, .int .i64 0, .slice none 0 0]) ?_ 0; exact sqK B9) hb); replace HB := sqS (sqB3 HB E0 E1 E2) hb; (try clear hb); (try clear ho0); obtain ⟨Ao15, co15, eo15⟩ := Kd.R_slice O0.1; subst eo15; obtain ⟨_, _, _, _, _, _⟩ := sqY3 B9; obtain ⟨_, _, _, _, _, _⟩ := sqY3 B2))
 refine bodyPost_ret (results_cell_row rfl _ _ g1 34 #[.int .i64 t0, .int .i64 t1, .slice Ao15 t2.length co15] (0, 0) _ rfl (by refine sqPut (cs := #[.int .i64 t0, .int .i64 t1, .slice none 0 0]) ?_ 2; refine sqPut (cs := #[.int .i64 t0, .int .i64 0, .slice none 0 0]) ?_ 1; refine sqPut (cs := #[.int .i64 0, .int .i64 0, .slice none 0 0]) ?_ 0; refine sqFar ?_ N4; exact sqK B2) underlying34 rfl (by kernel_rfl)) rfl ?_
 exact ⟨_, Z16, by (with_reducible repeat (first | apply Kd.R_alloc | apply Kd.R_drewN | apply Kd.R_drew)); exact Kd.R_mono (Kd.R_far (p := ⟨g1, 2, none⟩) (Kd.R_far (p := ⟨g1, 1, none⟩) (Kd.R_far (p := ⟨g1, 0, none⟩) (Kd.R_far (p := ⟨g2, 2, none⟩) (Kd.R_types (Kd.R_types O0.1 B9.1 (by decide)) B2.1 (by decide)) (fun _ hk => hk.1.2) (.slice Ao15 t2.length co15)) (fun _ hk => hk.2) (.int .i64 t0)) (fun _ hk => hk.2) (.int .i64 t1)) (fun _ hk => hk.2) (.slice Ao15 t2.length co15)) (fun _ hk => trivial), sqB3 HB E0 E1 E2⟩

/-! ### laws_eqFraction: function 62 -/
def laws_eqFraction.f (a0_0 : Int) (a0_1 : Int) (a1_0 : Int) (a1_1 : Int) : Option (Bool) := if a0_0 = a1_0 then (if a0_1 = a1_1 then (some true) else (some false)) else (some false)
theorem laws_eqFraction.calls (a0_0 : Int) (a0_1 : Int) (a1_0 : Int) (a1_1 : Int) (r : Bool) (w : World) (H : laws_eqFraction.f a0_0 a0_1 a1_0 a1_1 = some r) :
  Calls prog 62 #[.agg #[.int .i64 a0_0, .int .i64 a0_1], .agg #[.int .i64 a1_0, .int .i64 a1_1]] w fun e w' => e = .returned (.bool r) ∧ Below w.heap.size w w' := by
 have hu31 := underlying31
 have HB := sqh w
 unfold laws_eqFraction.f at H
 by_cases c3 : a0_0 = a1_0
 ·rw [if_pos c3] at H
  have c3b0 : (a0_0 == a1_0) = true := sqe1 c3
  have c3b1 : (a0_0 != a1_0) = false := sqn0 c3
  clear c3
  by_cases c4 : a0_1 = a1_1
  ·rw [if_pos c4] at H
   have c4b0 : (a0_1 == a1_1) = true := sqe1 c4
   have c4b1 : (a0_1 != a1_1) = false := sqn0 c4
   clear c4
   obtain rfl := sqo H
   go_enter func62, ntmps62
   go_wp2_with (first | ((with_reducible refine sqd 2 rfl ?_); refine sqBx w (sqB HB) (cs := #[.int .i64 a0_0, .int .i64 a0_1]) (t := 31) ?_; intro g0 hg w5 B0 E0 HB hb; clear hb hg) | ((with_reducible refine sqd 3 rfl ?_); refine sqBx w (sqB1 HB E0) (cs := #[.int .i64 a1_0, .int .i64 a1_1]) (t := 31) ?_; intro g1 hg w6 B2 E1 HB hb; obtain ⟨N0, N1⟩ := sqM hg B0; replace B0 := sqT B0 hb; clear hb hg; have := N0.1; have := N1.1; obtain ⟨_, _, _, _⟩ := sqY2 B0; obtain ⟨_, _, _, _⟩ := sqY2 B2))
   go_ret
   exact ⟨Z16, sqB2 HB E0 E1⟩
  rw [if_neg c4] at H
  have c4b0 : (a0_1 == a1_1) = false := sqe0 c4
  have c4b1 : (a0_1 != a1_1) = true := sqn1 c4
  obtain rfl := sqo H
  go_enter func62, ntmps62
  go_wp2_with (first | ((with_reducible refine sqd 2 rfl ?_); refine sqBx w (sqB HB) (cs := #[.int .i64 a0_0, .int .i64 a0_1]) (t := 31) ?_; intro g0 hg w10 B0 E0 HB hb; clear hb hg) | ((with_reducible refine sqd 3 rfl ?_); refine sqBx w (sqB1 HB E0) (cs := #[.int .i64 a1_0, .int .i64 a1_1]) (t := 31) ?_; intro g1 hg w11 B2 E1 HB hb; obtain ⟨N0, N1⟩ := sqM hg B0; replace B0 := sqT B0 hb; clear hb hg; have := N0.1; have := N1.1; obtain ⟨_, _, _, _⟩ := sqY2 B0; obtain ⟨_, _, _, _⟩ := sqY2 B2))
  go_ret
  exact ⟨Z16, sqB2 HB E0 E1⟩
 rw [if_neg c3] at H
 have c3b0 : (a0_0 == a1_0) = false := sqe0 c3
 have c3b1 : (a0_0 != a1_0) = true := sqn1 c3
 obtain rfl := sqo H
 go_enter func62, ntmps62
 go_wp2_with (first | ((with_reducible refine sqd 2 rfl ?_); refine sqBx w (sqB HB) (cs := #[.int .i64 a0_0, .int .i64 a0_1]) (t := 31) ?_; intro g0 hg w15 B0 E0 HB hb; clear hb hg) | ((with_reducible refine sqd 3 rfl ?_); refine sqBx w (sqB1 HB E0) (cs := #[.int .i64 a1_0, .int .i64 a1_1]) (t := 31) ?_; intro g1 hg w16 B2 E1 HB hb; obtain ⟨N0, N1⟩ := sqM hg B0; replace B0 := sqT B0 hb; clear hb hg; have := N0.1; have := N1.1; obtain ⟨_, _, _, _⟩ := sqY2 B0; obtain ⟨_, _, _, _⟩ := sqY2 B2))
 go_ret
 exact ⟨Z16, sqB2 HB E0 E1⟩

/-! ### laws_eqFractionS: function 63 -/
def laws_eqFractionS.l0 : Nat → List (S31) → List (S31) → Int → Option (Bool)
 | 0, _, _, _ => none
 | k + 1, x0, x1, x5 => if x5 < (x0.length : Int) then (if 0 ≤ x5 then (if x5 < (x1.length : Int) then ((laws_eqFraction.f ((rd_T31 x0 x5).f0) ((rd_T31 x0 x5).f1) ((rd_T31 x1 x5).f0) ((rd_T31 x1 x5).f1)).bind fun t0 => (if t0 = true then (laws_eqFractionS.l0 k x0 x1 (wrap64 (x5 + 1))) else (some false))) else (none)) else (none)) else (some true)
def laws_eqFractionS.f (k : Nat) (l0 : List (S31)) (l1 : List (S31)) : Option (Bool) := if (l0.length : Int) = (l1.length : Int) then (laws_eqFractionS.l0 k l0 l1 0) else (some false)
abbrev laws_eqFractionS.M (k : Nat) : Prop := (∀ y0 y1 y2, LeO (laws_eqFractionS.l0 k y0 y1 y2) (laws_eqFractionS.l0 (k + 1) y0 y1 y2))
theorem laws_eqFractionS.mono_t : ∀ k, laws_eqFractionS.M k → laws_eqFractionS.M (k + 1) ∧ ∀ a0 a1, LeO (laws_eqFractionS.f k a0 a1) (laws_eqFractionS.f (k + 1) a0 a1) := by
  rintro k ih0
  refine ⟨?_, ?_⟩ <;> (try unfold laws_eqFractionS.M) <;> intros <;> (first | unfold laws_eqFractionS.l0 | unfold laws_eqFractionS.f) <;> repeat' (with_reducible first | exact ih0 _ _ _ | exact LeO.refl _ | exact LeO.none _ | refine LeO.ite ?_ ?_ | refine LeO.bind ?_ fun _ => ?_)
theorem laws_eqFractionS.mono_l : ∀ k, laws_eqFractionS.M k
 | 0 => fun _ _ _ r h => by simp [laws_eqFractionS.l0] at h
 | k + 1 => (laws_eqFractionS.mono_t k (laws_eqFractionS.mono_l k)).1
theorem laws_eqFractionS.mono a0 a1 k : LeO (laws_eqFractionS.f k a0 a1) (laws_eqFractionS.f (k + 1) a0 a1) := (laws_eqFractionS.mono_t k (laws_eqFractionS.mono_l k)).2 a0 a1
def laws_eqFractionS.T6 : Bool × List (List Nat × List Nat) := (true, [([], []), ([], []), ([0, 1], [0, 1]), ([2], [2]), ([], []), ([], []), ([4, 5], [4, 5]), ([6], [6]), ([3, 7], [3, 7]), ([8], [8])])
def laws_eqFractionS.B6 : List Nat := [0, 0, 3, 7, 0, 0, 48, 112, 255, 511]
theorem laws_eqFractionS.tab6 : rtab .any (opsOf f63 6) = laws_eqFractionS.T6 := by kernel_rfl
theorem laws_eqFractionS.bits6 : waitsOk laws_eqFractionS.T6.2 laws_eqFractionS.B6 = true := by kernel_rfl
theorem laws_eqFractionS.calls (k : Nat) (A0 : Option Addr) (c0 : Nat) (l0 : List (S31)) (A1 : Option Addr) (c1 : Nat) (l1 : List (S31)) (r : Bool) (w : World) (hr0 : Kd.C k31 w A0 l0.length l0) (hc0 : l0.length ≤ c0) (hr1 : Kd.C k31 w A1 l1.length l1) (hc1 : l1.length ≤ c1) (H : laws_eqFractionS.f k l0 l1 = some r) :
  Calls prog 63 #[.slice A0 l0.length c0, .slice A1 l1.length c1] w fun e w' => e = .returned (.bool r) ∧ Below w.heap.size w w' := by
 have hu31 := underlying31
 have HR0 := sqa hr0
 have HC0 := sqa hc0
 clear hr0 hc0
 have HR1 := sqa hr1
 have HC1 := sqa hc1
 clear hr1 hc1
 have HB := sqh w
 unfold laws_eqFractionS.f at H
 by_cases c3 : (l0.length : Int) = (l1.length : Int)
 ·rw [if_pos c3] at H
  have c3b0 : ((l0.length : Int) == (l1.length : Int)) = true := sqe1 c3
  have c3b1 : ((l0.length : Int) != (l1.length : Int)) = false := sqn0 c3
  have c3b2 : (l0.length == l1.length) = true := by first | simpa using c3 | (simp at c3 ⊢; omega)
  clear c3
  have H' := sqa H
  clear H
  go_enter func63, ntmps63
  go_wp2
  go_loopg [5] k (fun kq v5 w' => ∃ (x5_1 : Int), v5 = .int .i64 x5_1 ∧ Aside0 (laws_eqFractionS.l0 kq l0 l1 x5_1 = some r) ∧ Aside0 (kq ≤ k) ∧ Aside0 (Below w.heap.size w w'))
  case atStart => exact ⟨(0), Z4, H', ⟨Nat.le_refl _⟩, ⟨sqB HB⟩⟩
  case round =>
   clear H'
   obtain ⟨x5_1, rfl, HA, HK1, HB⟩ := hrel
   cases gk with
   | zero => exact absurd HA.out (by simp [laws_eqFractionS.l0])
   | succ k1 =>
    have H := HA.out
    clear HA
    simp only [laws_eqFractionS.l0] at H
    by_cases c4 : x5_1 < (l0.length : Int)
    ·rw [if_pos c4] at H
     have c4b0 : decide (x5_1 < (l0.length : Int)) = true := decide_eq_true c4
     clear c4
     obtain ⟨c5, H⟩ := sqI H
     have c5b0 : decide (0 ≤ x5_1) = true := decide_eq_true c5
     clear c5
     obtain ⟨c6, H⟩ := sqI H
     have c6b0 : decide (x5_1 < (l1.length : Int)) = true := decide_eq_true c6
     clear c6
     obtain ⟨t0, A7, H⟩ := sqD H
     by_cases c8 : t0 = true
     ·subst c8
      rw [if_pos rfl] at H
      have H' := sqa H
      clear H
      try go_wp2
      replace HB := sqa (below_drew1 HB.1)
      have p0 : 0 ≤ (x5_1 : Int) := of_decide_eq_true Z9
      have q0 : x5_1 < (l0.length : Int) := of_decide_eq_true Z9
      obtain ⟨ad0, e0, hx0, hx1⟩ := at_T31 HR0.1 x5_1 p0 q0
      have hw0 := hx1
      have hw1 := hx0
      cases e0
      replace hx0 := (HB.1.cell (World.block_lt_of_cell? w _ hx0)).trans hx0
      replace hx1 := (HB.1.cell (World.block_lt_of_cell? w _ hx1)).trans hx1
      replace p0 := eq_true p0
      replace q0 := eq_true q0
      have p1 : 0 ≤ (x5_1 : Int) := of_decide_eq_true Z9
      have q1 : x5_1 < (l1.length : Int) := of_decide_eq_true Z9
      obtain ⟨ad1, e1, hx2, hx3⟩ := at_T31 HR1.1 x5_1 p1 q1
      have hw2 := hx3
      have hw3 := hx2
      cases e1
      replace hx2 := (HB.1.cell (World.block_lt_of_cell? w _ hx2)).trans hx2
      replace hx3 := (HB.1.cell (World.block_lt_of_cell? w _ hx3)).trans hx3
      replace p1 := eq_true p1
      replace q1 := eq_true q1
      refine start_ (n := 10) (S := fun w' => w'.cell? (ad0.add ((x5_1).toNat * 2)) = some (.int .i64 ((rd_T31 l0 x5_1).f0)) ∧ w'.cell? ⟨(ad0.add ((x5_1).toNat * 2)).block, (ad0.add ((x5_1).toNat * 2)).off + 1, none⟩ = some (.int .i64 ((rd_T31 l0 x5_1).f1)) ∧ w'.cell? (ad1.add ((x5_1).toNat * 2)) = some (.int .i64 ((rd_T31 l1 x5_1).f0)) ∧ w'.cell? ⟨(ad1.add ((x5_1).toNat * 2)).block, (ad1.add ((x5_1).toNat * 2)).off + 1, none⟩ = some (.int .i64 ((rd_T31 l1 x5_1).f1))) (ds := []) #[false, false, false, false, false, false, false, false, false, false] (by kernel_rfl) rfl rfl ⟨((HB.1.cell (World.block_lt_of_cell? w _ hw1)).trans hw1), ((HB.1.cell (World.block_lt_of_cell? w _ hw0)).trans hw0), ((HB.1.cell (World.block_lt_of_cell? w _ hw3)).trans hw3), ((HB.1.cell (World.block_lt_of_cell? w _ hw2)).trans hw2)⟩ (fun hHeld => ?_); refine with_tabW laws_eqFractionS.tab6 laws_eqFractionS.bits6 (fun HT_ HW_ => ?_)
      generalize wr.drew = w9 at HB hx0 hx1 hx2 hx3 hHeld ⊢
      refine sqP 0 (some 17) (h := ?_)
      refine sqP 1 (some 18) (h := ?_)
      refine sqP 2 (some 19) (h := ?_)
      refine sqP 4 (some 21) (h := ?_)
      refine sqP 5 (some 22) (h := ?_)
      refine sqP 6 (some 23) (h := ?_)
      refine sqQ 3 (some 20) hHeld (h := ?_)
      refine sqQ 7 (some 24) hHeld (h := ?_)
      refine one_ (i := 8) (N := some 25) #[true, true, true, true, true, true, true, true, true, false] rfl rfl (one_of HT_.out (by kernel_rfl)) (by decide) (fun K hK => ?_)
      refine goes_ func62 (by kernel_rfl) rfl #[.agg #[.int .i64 ((rd_T31 l0 x5_1).f0), .int .i64 ((rd_T31 l0 x5_1).f1)], .agg #[.int .i64 ((rd_T31 l1 x5_1).f0), .int .i64 ((rd_T31 l1 x5_1).f1)]] (by rfl) rfl rfl sqA ?_
      with_reducible refine (laws_eqFraction.calls ((rd_T31 l0 x5_1).f0) ((rd_T31 l0 x5_1).f1) ((rd_T31 l1 x5_1).f0) ((rd_T31 l1 x5_1).f1) true _ A7.1).mono ?_
      rintro e w10 ⟨rfl, hb⟩
      refine ⟨_, rfl, ?_⟩
      replace HB := sqS (sqB HB) hb
      (try clear hb)
      (try clear hb2)
      (try clear hk)
      (try clear hi)
      refine hK.out _ _ ⟨((HB.1.cell (World.block_lt_of_cell? w _ hw1)).trans hw1), ((HB.1.cell (World.block_lt_of_cell? w _ hw0)).trans hw0), ((HB.1.cell (World.block_lt_of_cell? w _ hw3)).trans hw3), ((HB.1.cell (World.block_lt_of_cell? w _ hw2)).trans hw2)⟩ (fun hHeld => ?_)
      clear hK K
      refine sqN (some 25) ?_
      refine sqP 9 (some 26) (h := ?_)
      refine done_ (done_of HT_.out (by kernel_rfl)) ?_
      try go_wp2
      go_roundg k1
      case measure => have := HK1.out; omega
      case rel => exact ⟨(wrap64 (x5_1 + 1)), Z4, H', ⟨Z17 HK1⟩, ⟨sqB HB⟩⟩
     obtain rfl := sqb c8
     rw [if_neg sqF] at H
     obtain rfl := sqo H
     try go_wp2
     replace HB := sqa (below_drew1 HB.1)
     have p0 : 0 ≤ (x5_1 : Int) := of_decide_eq_true Z9
     have q0 : x5_1 < (l0.length : Int) := of_decide_eq_true Z9
     obtain ⟨ad0, e0, hx0, hx1⟩ := at_T31 HR0.1 x5_1 p0 q0
     have hw0 := hx1
     have hw1 := hx0
     cases e0
     replace hx0 := (HB.1.cell (World.block_lt_of_cell? w _ hx0)).trans hx0
     replace hx1 := (HB.1.cell (World.block_lt_of_cell? w _ hx1)).trans hx1
     replace p0 := eq_true p0
     replace q0 := eq_true q0
     have p1 : 0 ≤ (x5_1 : Int) := of_decide_eq_true Z9
     have q1 : x5_1 < (l1.length : Int) := of_decide_eq_true Z9
     obtain ⟨ad1, e1, hx2, hx3⟩ := at_T31 HR1.1 x5_1 p1 q1
     have hw2 := hx3
     have hw3 := hx2
     cases e1
     replace hx2 := (HB.1.cell (World.block_lt_of_cell? w _ hx2)).trans hx2
     replace hx3 := (HB.1.cell (World.block_lt_of_cell? w _ hx3)).trans hx3
     replace p1 := eq_true p1
     replace q1 := eq_true q1
     refine start_ (n := 10) (S := fun w' => w'.cell? (ad0.add ((x5_1).toNat * 2)) = some (.int .i64 ((rd_T31 l0 x5_1).f0)) ∧ w'.cell? ⟨(ad0.add ((x5_1).toNat * 2)).block, (ad0.add ((x5_1).toNat * 2)).off + 1, none⟩ = some (.int .i64 ((rd_T31 l0 x5_1).f1)) ∧ w'.cell? (ad1.add ((x5_1).toNat * 2)) = some (.int .i64 ((rd_T31 l1 x5_1).f0)) ∧ w'.cell? ⟨(ad1.add ((x5_1).toNat * 2)).block, (ad1.add ((x5_1).toNat * 2)).off + 1, none⟩ = some (.int .i64 ((rd_T31 l1 x5_1).f1))) (ds := []) #[false, false, false, false, false, false, false, false, false, false] (by kernel_rfl) rfl rfl ⟨((HB.1.cell (World.block_lt_of_cell? w _ hw1)).trans hw1), ((HB.1.cell (World.block_lt_of_cell? w _ hw0)).trans hw0), ((HB.1.cell (World.block_lt_of_cell? w _ hw3)).trans hw3), ((HB.1.cell (World.block_lt_of_cell? w _ hw2)).trans hw2)⟩ (fun hHeld => ?_); refine with_tabW laws_eqFractionS.tab6 laws_eqFractionS.bits6 (fun HT_ HW_ => ?_)
     generalize wr.drew = w11 at HB hx0 hx1 hx2 hx3 hHeld ⊢
     refine sqP 0 (some 17) (h := ?_)
     refine sqP 1 (some 18) (h := ?_)
     refine sqP 2 (some 19) (h := ?_)
     refine sqP 4 (some 21) (h := ?_)
     refine sqP 5 (some 22) (h := ?_)
     refine sqP 6 (some 23) (h := ?_)
     refine sqQ 3 (some 20) hHeld (h := ?_)
     refine sqQ 7 (some 24) hHeld (h := ?_)
     refine one_ (i := 8) (N := some 25) #[true, true, true, true, true, true, true, true, true, false] rfl rfl (one_of HT_.out (by kernel_rfl)) (by decide) (fun K hK => ?_)
     refine goes_ func62 (by kernel_rfl) rfl #[.agg #[.int .i64 ((rd_T31 l0 x5_1).f0), .int .i64 ((rd_T31 l0 x5_1).f1)], .agg #[.int .i64 ((rd_T31 l1 x5_1).f0), .int .i64 ((rd_T31 l1 x5_1).f1)]] (by rfl) rfl rfl sqA ?_
     with_reducible refine (laws_eqFraction.calls ((rd_T31 l0 x5_1).f0) ((rd_T31 l0 x5_1).f1) ((rd_T31 l1 x5_1).f0) ((rd_T31 l1 x5_1).f1) false _ A7.1).mono ?_
     rintro e w12 ⟨rfl, hb⟩
     refine ⟨_, rfl, ?_⟩
     replace HB := sqS (sqB HB) hb
     (try clear hb)
     (try clear hb2)
     (try clear hk)
     (try clear hi)
     refine hK.out _ _ ⟨((HB.1.cell (World.block_lt_of_cell? w _ hw1)).trans hw1), ((HB.1.cell (World.block_lt_of_cell? w _ hw0)).trans hw0), ((HB.1.cell (World.block_lt_of_cell? w _ hw3)).trans hw3), ((HB.1.cell (World.block_lt_of_cell? w _ hw2)).trans hw2)⟩ (fun hHeld => ?_)
     clear hK K
     refine sqN (some 25) ?_
     refine sqP 9 (some 26) (h := ?_)
     refine done_ (done_of HT_.out (by kernel_rfl)) ?_
     try go_wp2
     go_ret
     exact ⟨Z16, sqB HB⟩
    rw [if_neg c4] at H
    have c4b0 : decide (x5_1 < (l0.length : Int)) = false := decide_eq_false c4
    clear c4
    obtain rfl := sqo H
    go_wp2
    go_ret
    exact ⟨Z16, sqB HB⟩
 rw [if_neg c3] at H
 have c3b0 : ((l0.length : Int) == (l1.length : Int)) = false := sqe0 c3
 have c3b1 : ((l0.length : Int) != (l1.length : Int)) = true := sqn1 c3
 have c3b2 : (l0.length == l1.length) = false := by first | simpa using c3 | (simp at c3 ⊢; omega)
 obtain rfl := sqo H
 go_enter func63, ntmps63
 go_wp2
 go_ret
 exact ⟨Z16, sqB HB⟩

/-! ### laws_eqDesk: function 18 -/
def laws_eqDesk.f (k : Nat) (a0_0 : Int) (a0_1 : Int) (l0_2 : List (S31)) (a1_0 : Int) (a1_1 : Int) (l1_2 : List (S31)) : Option (Bool) := (laws_eqFraction.f a0_0 a0_1 a1_0 a1_1).bind fun t0 => (if t0 = true then ((laws_eqFractionS.f k l0_2 l1_2).bind fun t1 => (if t1 = true then (some true) else (some false))) else (some false))
theorem laws_eqDesk.mono : ∀ a0 a1 a2 a3 a4 a5 k, LeO (laws_eqDesk.f k a0 a1 a2 a3 a4 a5) (laws_eqDesk.f (k + 1) a0 a1 a2 a3 a4 a5) := by
 intro a0 a1 a2 a3 a4 a5 k
 unfold laws_eqDesk.f
 repeat' (with_reducible first | exact laws_eqFractionS.mono _ _ _ | exact LeO.refl _ | exact LeO.none _ | refine LeO.ite ?_ ?_ | refine LeO.bind ?_ fun _ => ?_)
theorem laws_eqDesk.calls (k : Nat) (a0_0 : Int) (a0_1 : Int) (A0_2 : Option Addr) (c0_2 : Nat) (l0_2 : List (S31)) (a1_0 : Int) (a1_1 : Int) (A1_2 : Option Addr) (c1_2 : Nat) (l1_2 : List (S31)) (r : Bool) (w : World) (hr0_2 : Kd.C k31 w A0_2 l0_2.length l0_2) (hc0_2 : l0_2.length ≤ c0_2) (hr1_2 : Kd.C k31 w A1_2 l1_2.length l1_2) (hc1_2 : l1_2.length ≤ c1_2) (H : laws_eqDesk.f k a0_0 a0_1 l0_2 a1_0 a1_1 l1_2 = some r) :
  Calls prog 18 #[.agg #[.int .i64 a0_0, .int .i64 a0_1, .slice A0_2 l0_2.length c0_2], .agg #[.int .i64 a1_0, .int .i64 a1_1, .slice A1_2 l1_2.length c1_2]] w fun e w' => e = .returned (.bool r) ∧ Below w.heap.size w w' := by
 have hu34 := underlying34
 have hu31 := underlying31
 have HR0_2 := sqa hr0_2
 have HC0_2 := sqa hc0_2
 clear hr0_2 hc0_2
 have HR1_2 := sqa hr1_2
 have HC1_2 := sqa hc1_2
 clear hr1_2 hc1_2
 have HB := sqh w
 unfold laws_eqDesk.f at H
 obtain ⟨t0, A3, H⟩ := sqD H
 by_cases c4 : t0 = true
 ·subst c4
  rw [if_pos rfl] at H
  obtain ⟨t1, A5, H⟩ := sqD H
  by_cases c6 : t1 = true
  ·subst c6
   rw [if_pos rfl] at H
   obtain rfl := sqo H
   go_enter func18, ntmps18
   go_wp2_with (first | ((with_reducible refine sqd 2 rfl ?_); refine sqBx w (sqB HB) (cs := #[.int .i64 a0_0, .int .i64 a0_1, .slice A0_2 l0_2.length c0_2]) (t := 34) ?_; intro g0 hg w7 B0 E0 HB hb; clear hb hg) | ((with_reducible refine sqd 3 rfl ?_); refine sqBx w (sqB1 HB E0) (cs := #[.int .i64 a1_0, .int .i64 a1_1, .slice A1_2 l1_2.length c1_2]) (t := 34) ?_; intro g1 hg w8 B2 E1 HB hb; obtain ⟨N0, N1⟩ := sqM hg B0; replace B0 := sqT B0 hb; clear hb hg; have := N0.1; have := N1.1; obtain ⟨_, _, _, _, _, _⟩ := sqY3 B0; obtain ⟨_, _, _, _, _, _⟩ := sqY3 B2) | ((with_reducible refine sqc 62 rfl ?_); refine sqC (some 9) func62 #[.agg #[.int .i64 a0_0, .int .i64 a0_1], .agg #[.int .i64 a1_0, .int .i64 a1_1]] ?_; (with_reducible refine (laws_eqFraction.calls a0_0 a0_1 a1_0 a1_1 true _ A3.1).mono ?_); refine sqV fun w12 hb => ?_; replace B0 := sqT B0 hb; replace B2 := sqT B2 hb; replace HB := sqS (sqB2 HB E0 E1) hb; (try clear hb); obtain ⟨_, _, _, _, _, _⟩ := sqY3 B0; obtain ⟨_, _, _, _, _, _⟩ := sqY3 B2) | ((with_reducible refine sqc 63 rfl ?_); refine sqC (some 15) func63 #[.slice A0_2 l0_2.length c0_2, .slice A1_2 l1_2.length c1_2] ?_; (with_reducible refine (laws_eqFractionS.calls k _ _ l0_2 _ _ l1_2 true _ ?side1 ?side2 ?side3 ?side4 A5.1).mono ?_); (case side1 => exact Z2); (case side2 => exact Z3); (case side3 => exact Z66); (case side4 => exact HC1_2.1); refine sqV fun w15 hb => ?_; replace B0 := sqT B0 hb; replace B2 := sqT B2 hb; replace HB := sqS (sqB2 HB E0 E1) hb; (try clear hb)))
   go_ret
   exact ⟨Z16, sqB2 HB E0 E1⟩
  obtain rfl := sqb c6
  rw [if_neg sqF] at H
  obtain rfl := sqo H
  go_enter func18, ntmps18
  go_wp2_with (first | ((with_reducible refine sqd 2 rfl ?_); refine sqBx w (sqB HB) (cs := #[.int .i64 a0_0, .int .i64 a0_1, .slice A0_2 l0_2.length c0_2]) (t := 34) ?_; intro g0 hg w16 B0 E0 HB hb; clear hb hg) | ((with_reducible refine sqd 3 rfl ?_); refine sqBx w (sqB1 HB E0) (cs := #[.int .i64 a1_0, .int .i64 a1_1, .slice A1_2 l1_2.length c1_2]) (t := 34) ?_; intro g1 hg w17 B2 E1 HB hb; obtain ⟨N0, N1⟩ := sqM hg B0; replace B0 := sqT B0 hb; clear hb hg; have := N0.1; have := N1.1; obtain ⟨_, _, _, _, _, _⟩ := sqY3 B0; obtain ⟨_, _, _, _, _, _⟩ := sqY3 B2) | ((with_reducible refine sqc 62 rfl ?_); refine sqC (some 9) func62 #[.agg #[.int .i64 a0_0, .int .i64 a0_1], .agg #[.int .i64 a1_0, .int .i64 a1_1]] ?_; (with_reducible refine (laws_eqFraction.calls a0_0 a0_1 a1_0 a1_1 true _ A3.1).mono ?_); refine sqV fun w21 hb => ?_; replace B0 := sqT B0 hb; replace B2 := sqT B2 hb; replace HB := sqS (sqB2 HB E0 E1) hb; (try clear hb); obtain ⟨_, _, _, _, _, _⟩ := sqY3 B0; obtain ⟨_, _, _, _, _, _⟩ := sqY3 B2) | ((with_reducible refine sqc 63 rfl ?_); refine sqC (some 15) func63 #[.slice A0_2 l0_2.length c0_2, .slice A1_2 l1_2.length c1_2] ?_; (with_reducible refine (laws_eqFractionS.calls k _ _ l0_2 _ _ l1_2 false _ ?side1 ?side2 ?side3 ?side4 A5.1).mono ?_); (case side1 => exact Z2); (case side2 => exact Z3); (case side3 => exact Z66); (case side4 => exact HC1_2.1); refine sqV fun w24 hb => ?_; replace B0 := sqT B0 hb; replace B2 := sqT B2 hb; replace HB := sqS (sqB2 HB E0 E1) hb; (try clear hb)))
  go_ret
  exact ⟨Z16, sqB2 HB E0 E1⟩
 obtain rfl := sqb c4
 rw [if_neg sqF] at H
 obtain rfl := sqo H
 go_enter func18, ntmps18
 go_wp2_with (first | ((with_reducible refine sqd 2 rfl ?_); refine sqBx w (sqB HB) (cs := #[.int .i64 a0_0, .int .i64 a0_1, .slice A0_2 l0_2.length c0_2]) (t := 34) ?_; intro g0 hg w25 B0 E0 HB hb; clear hb hg) | ((with_reducible refine sqd 3 rfl ?_); refine sqBx w (sqB1 HB E0) (cs := #[.int .i64 a1_0, .int .i64 a1_1, .slice A1_2 l1_2.length c1_2]) (t := 34) ?_; intro g1 hg w26 B2 E1 HB hb; obtain ⟨N0, N1⟩ := sqM hg B0; replace B0 := sqT B0 hb; clear hb hg; have := N0.1; have := N1.1; obtain ⟨_, _, _, _, _, _⟩ := sqY3 B0; obtain ⟨_, _, _, _, _, _⟩ := sqY3 B2) | ((with_reducible refine sqc 62 rfl ?_); refine sqC (some 9) func62 #[.agg #[.int .i64 a0_0, .int .i64 a0_1], .agg #[.int .i64 a1_0, .int .i64 a1_1]] ?_; (with_reducible refine (laws_eqFraction.calls a0_0 a0_1 a1_0 a1_1 false _ A3.1).mono ?_); refine sqV fun w30 hb => ?_; replace B0 := sqT B0 hb; replace B2 := sqT B2 hb; replace HB := sqS (sqB2 HB E0 E1) hb; (try clear hb)))
 go_ret
 exact ⟨Z16, sqB2 HB E0 E1⟩

/-! ### laws_markFractionS: function 64 -/
def laws_markFractionS.l0 : Nat → List (S31) → Int → Int → Option (Int × (List (S31)))
 | 0, _, _, _ => none
 | k + 1, x0, x1, x5 => if x5 < (x0.length : Int) then (if 0 ≤ x5 then ((some (x0.set (x5 : Int).toNat (⟨x1, (rd_T31 x0 x5).f1⟩ : S31) : List (S31))).bind fun y0 => (laws_markFractionS.l0 k (y0.set (x5 : Int).toNat (⟨(rd_T31 y0 x5).f0, wrap64 (x1 + 1)⟩ : S31)) (wrap64 ((wrap64 (x1 + 1)) + 1)) (wrap64 (x5 + 1)))) else (none)) else (some (x1, x0))
def laws_markFractionS.f (k : Nat) (l0 : List (S31)) (a1 : Int) : Option (Int × (List (S31))) := laws_markFractionS.l0 k l0 a1 0
abbrev laws_markFractionS.M (k : Nat) : Prop := (∀ y0 y1 y2, LeO (laws_markFractionS.l0 k y0 y1 y2) (laws_markFractionS.l0 (k + 1) y0 y1 y2))
theorem laws_markFractionS.mono_t : ∀ k, laws_markFractionS.M k → laws_markFractionS.M (k + 1) ∧ ∀ a0 a1, LeO (laws_markFractionS.f k a0 a1) (laws_markFractionS.f (k + 1) a0 a1) := by
  rintro k ih0
  refine ⟨?_, ?_⟩ <;> (try unfold laws_markFractionS.M) <;> intros <;> (first | unfold laws_markFractionS.l0 | unfold laws_markFractionS.f) <;> repeat' (with_reducible first | exact ih0 _ _ _ | exact LeO.refl _ | exact LeO.none _ | refine LeO.ite ?_ ?_ | refine LeO.bind ?_ fun _ => ?_)
theorem laws_markFractionS.mono_l : ∀ k, laws_markFractionS.M k
 | 0 => fun _ _ _ r h => by simp [laws_markFractionS.l0] at h
 | k + 1 => (laws_markFractionS.mono_t k (laws_markFractionS.mono_l k)).1
theorem laws_markFractionS.mono a0 a1 k : LeO (laws_markFractionS.f k a0 a1) (laws_markFractionS.f (k + 1) a0 a1) := (laws_markFractionS.mono_t k (laws_markFractionS.mono_l k)).2 a0 a1
theorem laws_markFractionS.calls (k : Nat) (P0_ : Nat → Prop) (u9000_ : Value) (l0 : List (S31)) (a1 : Int) (r1 : Int) (r2 : List (S31)) (w0 w : World) (hB : Below w0.heap.size w0 w) (ho0 : Kd.R k31 31 w w0.heap.size P0_ u9000_ l0) (H : laws_markFractionS.f k l0 a1 = some (r1, r2)) :
  Calls prog 64 #[u9000_, .int .i64 a1] w fun e w' => e = .returned (.int .i64 r1) ∧ Kd.R k31 31 w' w0.heap.size (fun k_ => (P0_ k_ ∨ w.heap.size ≤ k_)) u9000_ r2 ∧ Below w0.heap.size w0 w' ∧ Kept w w' (fun k_ => P0_ k_) := by
 have O0 := sqa (show Kd.R k31 31 w w0.heap.size (fun k_ => (P0_ k_ ∨ w.heap.size ≤ k_)) u9000_ l0 from Kd.R_mono ho0 (fun k_ hk => (.inl hk)))
 have HK := sqa (Kept.refl w (fun k_ => P0_ k_))
 have HW0 := sqa hB.size
 have HB := sqa hB
 clear hB
 unfold laws_markFractionS.f at H
 have H' := sqa H
 clear H
 go_enter func64, ntmps64
 go_wp2
 go_loopg [1, 5] k (fun kq v1 v5 w' => ∃ (x0_1 : List (S31)) (x1_1 : Int) (x5_1 : Int), v1 = .int .i64 x1_1 ∧ v5 = .int .i64 x5_1 ∧ Aside0 (laws_markFractionS.l0 kq x0_1 x1_1 x5_1 = some (r1, r2)) ∧ Aside0 (kq ≤ k) ∧ Aside0 (Kd.R k31 31 w' w0.heap.size (fun k_ => (P0_ k_ ∨ w.heap.size ≤ k_)) u9000_ x0_1) ∧ Aside0 (Kept w w' (fun k_ => P0_ k_)) ∧ Aside0 (Below w0.heap.size w0 w'))
 case atStart => exact ⟨(l0), (a1), (0), Z4, Z4, H', ⟨Nat.le_refl _⟩, ⟨sqR O0⟩, ⟨Z67⟩, ⟨sqB HB⟩⟩
 case round =>
  clear H'
  obtain ⟨x0_1, x1_1, x5_1, rfl, rfl, HA, HK1, O1, HK, HB⟩ := hrel
  cases gk with
  | zero => exact absurd HA.out (by simp [laws_markFractionS.l0])
  | succ k1 =>
   have H := HA.out
   clear HA
   simp only [laws_markFractionS.l0] at H
   by_cases c3 : x5_1 < (x0_1.length : Int)
   ·rw [if_pos c3] at H
    have c3b0 : decide (x5_1 < (x0_1.length : Int)) = true := decide_eq_true c3
    clear c3
    obtain ⟨c4, H⟩ := sqI H
    have c4b0 : decide (0 ≤ x5_1) = true := decide_eq_true c4
    clear c4
    obtain ⟨y0, hy0⟩ : ∃ y_ : List (S31), y_ = (x0_1.set (x5_1 : Int).toNat (⟨x1_1, (rd_T31 x0_1 x5_1).f1⟩ : S31)) := ⟨_, rfl⟩
    replace H : (laws_markFractionS.l0 k1 (y0.set (x5_1 : Int).toNat (⟨(rd_T31 y0 x5_1).f0, wrap64 (x1_1 + 1)⟩ : S31)) (wrap64 ((wrap64 (x1_1 + 1)) + 1)) (wrap64 (x5_1 + 1))) = some (r1, r2) := sqW hy0 H
    have Ny0 := sqa hy0
    clear hy0
    obtain ⟨y1, hy1⟩ : ∃ y_ : List (S31), y_ = (y0.set (x5_1 : Int).toNat (⟨(rd_T31 y0 x5_1).f0, wrap64 (x1_1 + 1)⟩ : S31)) := ⟨_, rfl⟩
    replace H : (laws_markFractionS.l0 k1 y1 (wrap64 ((wrap64 (x1_1 + 1)) + 1)) (wrap64 (x5_1 + 1))) = some (r1, r2) := sqW hy1 H
    have Ny1 := sqa hy1
    clear hy1
    have H' := sqa H
    clear H
    obtain ⟨Ao7, co7, eo7⟩ := Kd.R_slice O1.1
    subst eo7
    have p5 : 0 ≤ (x5_1 : Int) := of_decide_eq_true Z9
    have q5 : (x5_1 : Int) < ((x0_1.length : Int) : Int) := of_decide_eq_true Z9
    obtain ⟨go5, co5, eo5, g0, gl5, cl5, HG5⟩ := Kd.R_form O1.1 (by omega)
    (first | cases eo5 | (injection eo5 with ea_ en_ ec_; (first | subst ea_ | (injection ea_ with ea_; subst ea_)); subst ec_; clear en_))
    have GB5 := sqa g0
    have GG5 := sqa HG5
    clear g0 gl5 HG5
    have HMgo5 := sqa (show (P0_ go5 ∨ w.heap.size ≤ go5) from (O1.1.1 _ rfl))
    obtain ⟨ce5, hcl5, hM5, hcc5, hfr5⟩ := Kd.R_elem O1.1 z31 (x5_1 : Int) p5 q5
    obtain rfl := k31_openM hM5
    have hx5_0 : wr.cell? ⟨go5, (x5_1 : Int).toNat * 2, none⟩ = some (.int .i64 ((rd_T31 x0_1 x5_1).f0)) := hcc5 0 _ rfl
    have hx5_1 : wr.cell? ⟨go5, (x5_1 : Int).toNat * 2 + 1, none⟩ = some (.int .i64 ((rd_T31 x0_1 x5_1).f1)) := hcc5 1 _ rfl
    have hf5_0 : wr.frozen? ⟨go5, (x5_1 : Int).toNat * 2, none⟩ = false := hfr5 0
    have hf5_1 : wr.frozen? ⟨go5, (x5_1 : Int).toNat * 2 + 1, none⟩ = false := hfr5 1
    clear hcl5 hcc5 hfr5 hM5
    replace p5 := eq_true p5
    replace q5 := eq_true q5
    have HX8 := sqa (show Kd.R k31 31 wr w0.heap.size (fun k_ => (P0_ k_ ∨ w.heap.size ≤ k_)) (.slice (some ⟨go5, 0, none⟩) x0_1.length co7) x0_1 from (sqR O1))
    obtain ⟨ce8, hcl8, hM8, hcc8, hfr8⟩ := Kd.R_elem HX8.out z31 (x5_1 : Int) (of_decide_eq_true Z9) (by have h_ : (x5_1 : Int) < ((x0_1.length : Int) : Int) := of_decide_eq_true Z9; first | exact h_ | (have e_ := (Kd.R_reads' O1.1).1; omega) | simpa using h_)
    obtain rfl := k31_openM hM8
    have HP8 := Kd.R_seg HX8.out (x5_1 : Int) (of_decide_eq_true Z9) (by have h_ : (x5_1 : Int) < ((x0_1.length : Int) : Int) := of_decide_eq_true Z9; first | exact h_ | (have e_ := (Kd.R_reads' O1.1).1; omega) | simpa using h_) (seg := [.int .i64 x1_1]) (j := 0) hcl8 hcc8 (show 1 ≤ 2 from by decide) (x' := (⟨x1_1, (rd_T31 x0_1 x5_1).f1⟩ : S31)) (k31_mkM _ _ _ (⟨x1_1, (rd_T31 x0_1 x5_1).f1⟩ : S31) ) (fun _ hk => hk)
    have hx8_0 := hcc8 0 _ rfl
    (try simp only [show (k31).sz = 2 from rfl, Nat.mul_one, Nat.add_zero] at hx8_0)
    have hf8_0 := hfr8 0
    (try simp only [show (k31).sz = 2 from rfl, Nat.mul_one, Nat.add_zero] at hf8_0)
    clear hcl8 hcc8 hfr8 hM8
    go_wp2_with (first | ((with_reducible refine gate_store (t := 3) (p := 16) rfl ?_); refine store_event (t := 3) (p := 16) (v := ?vo_w9) (w1 := (wr.setCell ⟨go5, (x5_1 : Int).toNat * 2, none⟩ (.int .i64 x1_1))) ?hg ?ho ?hn ?hr ?_; (case ho => rfl); (case hg => rfl); (case hn => rfl); (case hr => exact Z10); intro w9 hw; have hg : wr.grownBy w9 (some go5) := (by rw [hw]; exact HP8.2); have hp_ : Kd.R k31 31 w9 w0.heap.size (fun k_ => (P0_ k_ ∨ w.heap.size ≤ k_)) (.slice (some ⟨go5, 0, none⟩) x0_1.length co7) y0 := (by rw [hw, Ny0.out]; exact HP8.1); clear HP8; replace HB := sqa ((by rw [hw]; exact below_set (HB.1) GB5.out : Below w0.heap.size w0 w9)); replace HK := sqa (Kept.of_grown (S := (fun k_ => P0_ k_)) hg Z67 (fun k_ e_ => (O1.1.1 k_ e_))); replace O1 := sqa (hp_); clear hg hw hp_; have p6 : 0 ≤ (x5_1 : Int) := of_decide_eq_true Z9; have q6 : (x5_1 : Int) < ((x0_1.length : Int) : Int) := of_decide_eq_true Z9; obtain ⟨ce6, hcl6, hM6, hcc6, hfr6⟩ := Kd.R_elem O1.1 z31 (x5_1 : Int) p6 q6; obtain rfl := k31_openM hM6; have hx6_0 : w9.cell? ⟨go5, (x5_1 : Int).toNat * 2, none⟩ = some (.int .i64 ((rd_T31 y0 x5_1).f0)) := hcc6 0 _ rfl; have hx6_1 : w9.cell? ⟨go5, (x5_1 : Int).toNat * 2 + 1, none⟩ = some (.int .i64 ((rd_T31 y0 x5_1).f1)) := hcc6 1 _ rfl; have hf6_0 : w9.frozen? ⟨go5, (x5_1 : Int).toNat * 2, none⟩ = false := hfr6 0; have hf6_1 : w9.frozen? ⟨go5, (x5_1 : Int).toNat * 2 + 1, none⟩ = false := hfr6 1; clear hcl6 hcc6 hfr6 hM6; replace p6 := eq_true p6; replace q6 := eq_true q6; have HX10 := sqa (show Kd.R k31 31 w9 w0.heap.size (fun k_ => (P0_ k_ ∨ w.heap.size ≤ k_)) (.slice (some ⟨go5, 0, none⟩) x0_1.length co7) y0 from (sqR O1)); obtain ⟨ce10, hcl10, hM10, hcc10, hfr10⟩ := Kd.R_elem HX10.out z31 (x5_1 : Int) (of_decide_eq_true Z9) (by have h_ : (x5_1 : Int) < ((x0_1.length : Int) : Int) := of_decide_eq_true Z9; first | exact h_ | (have e_ := (Kd.R_reads' O1.1).1; omega) | simpa using h_); obtain rfl := k31_openM hM10; have HP10 := Kd.R_seg HX10.out (x5_1 : Int) (of_decide_eq_true Z9) (by have h_ : (x5_1 : Int) < ((x0_1.length : Int) : Int) := of_decide_eq_true Z9; first | exact h_ | (have e_ := (Kd.R_reads' O1.1).1; omega) | simpa using h_) (seg := [.int .i64 (wrap64 (x1_1 + 1))]) (j := 1) hcl10 hcc10 (show 2 ≤ 2 from by decide) (x' := (⟨(rd_T31 y0 x5_1).f0, wrap64 (x1_1 + 1)⟩ : S31)) (k31_mkM _ _ _ (⟨(rd_T31 y0 x5_1).f0, wrap64 (x1_1 + 1)⟩ : S31) ) (fun _ hk => hk); have hx10_1 := hcc10 1 _ rfl; (try simp only [show (k31).sz = 2 from rfl, Nat.mul_one, Nat.add_zero] at hx10_1); have hf10_1 := hfr10 1; (try simp only [show (k31).sz = 2 from rfl, Nat.mul_one, Nat.add_zero] at hf10_1); clear hcl10 hcc10 hfr10 hM10) | ((with_reducible refine gate_store (t := 3) (p := 23) rfl ?_); refine store_event (t := 3) (p := 23) (v := ?vo_w11) (w1 := (w9.setCell ⟨go5, (x5_1 : Int).toNat * 2 + 1, none⟩ (.int .i64 (wrap64 (x1_1 + 1))))) ?hg ?ho ?hn ?hr ?_; (case ho => rfl); (case hg => rfl); (case hn => rfl); (case hr => exact Z10); intro w11 hw; have hg : w9.grownBy w11 (some go5) := (by rw [hw]; exact HP10.2); have hp_ : Kd.R k31 31 w11 w0.heap.size (fun k_ => (P0_ k_ ∨ w.heap.size ≤ k_)) (.slice (some ⟨go5, 0, none⟩) x0_1.length co7) y1 := (by rw [hw, Ny1.out]; exact HP10.1); clear HP10; replace HB := sqa ((by rw [hw]; exact below_set (HB.1) GB5.out : Below w0.heap.size w0 w11)); replace HK := sqa (Kept.of_grown (S := (fun k_ => P0_ k_)) hg Z67 (fun k_ e_ => (O1.1.1 k_ e_))); replace O1 := sqa (hp_); clear hg hw hp_))
    go_roundg k1
    case measure => have := HK1.out; omega
    case rel => exact ⟨(y1), (wrap64 ((wrap64 (x1_1 + 1)) + 1)), (wrap64 (x5_1 + 1)), Z4, Z4, H', ⟨Z17 HK1⟩, ⟨sqR O1⟩, ⟨Z67⟩, ⟨sqB HB⟩⟩
   rw [if_neg c3] at H
   have c3b0 : decide (x5_1 < (x0_1.length : Int)) = false := decide_eq_false c3
   clear c3
   obtain ⟨rfl, rfl⟩ := sqO2 H
   obtain ⟨Ao12, co12, eo12⟩ := Kd.R_slice O1.1
   subst eo12
   go_wp2
   go_ret
   exact ⟨Z16, Z50 O1, sqB HB, Z67⟩

end Go.Proofs.YtofmlbgfcohhoaaGreatDoor.PFnExactDeskSay
