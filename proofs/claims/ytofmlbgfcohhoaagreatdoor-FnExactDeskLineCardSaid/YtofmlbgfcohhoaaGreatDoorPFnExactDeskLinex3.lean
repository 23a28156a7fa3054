/- Lean functions of the Go functions that the law FnExactDeskLine reaches, each with its contract: made by a program of this session. -/
import Derived.Test.YtofmlbgfcohhoaaGreatDoorPFnExactDeskLinex0
namespace Go.Proofs.YtofmlbgfcohhoaaGreatDoor.PFnExactDeskLine
open Go.RowKit Go.Proofs.YtofmlbgfcohhoaaGreatDoorW.PrintWords Go.Proofs.YtofmlbgfcohhoaaGreatDoorW.PrintLast Go.Proofs.YtofmlbgfcohhoaaGreatDoorW.PrintMore Go.Proofs.YtofmlbgfcohhoaaGreatDoor.Lib
attribute [local go_sem] max2_int min2_int max_two min_two max_three min_three max_four min_four   -- for this text's walks alone
set_option linter.unusedVariables false
set_option linter.unusedSimpArgs false

/-! ### laws_szFractionS: function 55 -/
def laws_szFractionS.f (l0 : List (S23)) (a1 : Int) : Option (Int) := if (wrap64 (a1 - (l0.length : Int))) < 0 then (some (-1)) else (some (wrap64 (a1 - (l0.length : Int))))
set_option maxHeartbeats 8000000 in
set_option maxRecDepth 100000 in
theorem laws_szFractionS.calls (A0 : Option Addr) (c0 : Nat) (l0 : List (S23)) (a1 : Int) (r : Int) (w : World) (hr0 : Kd.C k23 w A0 l0.length l0) (hc0 : l0.length ≤ c0) (h : laws_szFractionS.f l0 a1 = some r) :
  Calls Tryz.prog 55 #[.slice A0 l0.length c0, .int .i64 a1] w fun e w' => e = .returned (.int .i64 r) ∧ Drawn0 w w' := by
 have HR0 := Aside0.mk hr0
 have HC0 := Aside0.mk hc0
 clear hr0 hc0
 unfold laws_szFractionS.f at h
 have H := h
 clear h
 by_cases c3 : (wrap64 (a1 - (l0.length : Int))) < 0
 ·rw [if_pos c3] at H
  have c3b0 : decide ((wrap64 (a1 - (l0.length : Int))) < 0) = true := decide_eq_true c3
  clear c3
  obtain rfl := Option.some.inj H
  go_enter Tryz.func55, Tryz.ntmps55
  go_wp2
  go_ret
  exact ⟨Z2, Z19⟩
 rw [if_neg c3] at H
 have c3b0 : decide ((wrap64 (a1 - (l0.length : Int))) < 0) = false := decide_eq_false c3
 clear c3
 obtain rfl := Option.some.inj H
 go_enter Tryz.func55, Tryz.ntmps55
 go_wp2
 go_ret
 exact ⟨Z2, Z19⟩

/-! ### laws_szDesk: function 12 -/
def laws_szDesk.f (a0_0 : Int) (a0_1 : Int) (l0_2 : List (S23)) (a1 : Int) : Option (Int) := (laws_szFractionS.f l0_2 a1).bind fun t102 => (if t102 < 0 then (some (-1)) else (some t102))
set_option maxHeartbeats 8000000 in
set_option maxRecDepth 100000 in
theorem laws_szDesk.calls (a0_0 : Int) (a0_1 : Int) (A0_2 : Option Addr) (c0_2 : Nat) (l0_2 : List (S23)) (a1 : Int) (r : Int) (w : World) (hr0_2 : Kd.C k23 w A0_2 l0_2.length l0_2) (hc0_2 : l0_2.length ≤ c0_2) (h : laws_szDesk.f a0_0 a0_1 l0_2 a1 = some r) :
  Calls Tryz.prog 12 #[.agg #[.int .i64 a0_0, .int .i64 a0_1, .slice A0_2 l0_2.length c0_2], .int .i64 a1] w fun e w' => e = .returned (.int .i64 r) ∧ Below w.heap.size w w' := by
 have hu26 := Tryz.underlying26
 have HR0_2 := Aside0.mk hr0_2
 have HC0_2 := Aside0.mk hc0_2
 clear hr0_2 hc0_2
 have HB := Aside0.mk (Below.refl w.heap.size w)
 unfold laws_szDesk.f at h
 have H := h
 clear h
 obtain ⟨t102, A3, H⟩ := sqD H
 by_cases c4 : t102 < 0
 ·rw [if_pos c4] at H
  have c4b0 : decide (t102 < 0) = true := decide_eq_true c4
  clear c4
  obtain rfl := Option.some.inj H
  go_enter Tryz.func12, Tryz.ntmps12
  go_wp2_with (first | ((with_reducible refine gate_dst (N := 2) rfl ?_); refine sqBx w (sqB HB) (N := 2) (cs := #[.int .i64 a0_0, .int .i64 a0_1, .slice A0_2 l0_2.length c0_2]) (t := 26) ?_; intro gb101 hg w5 BK101 GE101 HB hb; clear hb hg; obtain ⟨hcz6_0, hcz6_1, hcz6_2, hfz6_0, hfz6_1, hfz6_2⟩ := sqY3 BK101) | ((with_reducible refine gate_callee (f := 55) rfl ?_); refine sqC (some 8) Tryz.func55 #[.slice A0_2 l0_2.length c0_2, .int .i64 a1] ?_; (with_reducible refine (laws_szFractionS.calls _ _ l0_2 a1 t102 _ ?side1 ?side2 A3.out).mono ?_); (case side1 => exact Z16); (case side2 => exact Z13); rintro e w' ⟨rfl, ⟨nd, rfl⟩⟩; refine ⟨_, rfl, ?_⟩))
  go_ret
  exact ⟨Z6, sqB1 HB GE101⟩
 rw [if_neg c4] at H
 have c4b0 : decide (t102 < 0) = false := decide_eq_false c4
 clear c4
 obtain rfl := Option.some.inj H
 go_enter Tryz.func12, Tryz.ntmps12
 go_wp2_with (first | ((with_reducible refine gate_dst (N := 2) rfl ?_); refine sqBx w (sqB HB) (N := 2) (cs := #[.int .i64 a0_0, .int .i64 a0_1, .slice A0_2 l0_2.length c0_2]) (t := 26) ?_; intro gb101 hg w7 BK101 GE101 HB hb; clear hb hg; obtain ⟨hcz8_0, hcz8_1, hcz8_2, hfz8_0, hfz8_1, hfz8_2⟩ := sqY3 BK101) | ((with_reducible refine gate_callee (f := 55) rfl ?_); refine sqC (some 8) Tryz.func55 #[.slice A0_2 l0_2.length c0_2, .int .i64 a1] ?_; (with_reducible refine (laws_szFractionS.calls _ _ l0_2 a1 t102 _ ?side1 ?side2 A3.out).mono ?_); (case side1 => exact Z16); (case side2 => exact Z13); rintro e w' ⟨rfl, ⟨nd, rfl⟩⟩; refine ⟨_, rfl, ?_⟩))
 go_ret
 exact ⟨Z6, sqB1 HB GE101⟩

/-! ### laws_toFraction: function 58 -/
def laws_toFraction.f (a0_0 : Int) (a0_1 : Int) : Option (Int × Int) := some (a0_0, a0_1)
set_option maxHeartbeats 8000000 in
set_option maxRecDepth 100000 in
theorem laws_toFraction.calls (a0_0 : Int) (a0_1 : Int) (r1 : Int) (r2 : Int) (w : World) (h : laws_toFraction.f a0_0 a0_1 = some (r1, r2)) :
  Calls Tryz.prog 58 #[.agg #[.int .i64 a0_0, .int .i64 a0_1]] w fun e w' => e = .returned (.agg #[.int .i64 r1, .int .i64 r2]) ∧ Below w.heap.size w w' := by
 have hu23 := Tryz.underlying23
 have hu31 := Tryz.underlying31
 have HB := Aside0.mk (Below.refl w.heap.size w)
 unfold laws_toFraction.f at h
 have H := h
 clear h
 obtain ⟨rfl, rfl⟩ := sqO2 H
 go_enter Tryz.func58, Tryz.ntmps58
 go_wp2_with (first | ((with_reducible refine gate_dst (N := 1) rfl ?_); refine sqBx w (sqB HB) (N := 1) (cs := #[.int .i64 a0_0, .int .i64 a0_1]) (t := 23) ?_; intro gb103 hg w2 BK103 GE103 HB hb; clear hb hg) | ((with_reducible refine gate_dst (N := 2) rfl ?_); refine sqBx w (sqB1 HB GE103) (N := 2) (cs := #[.int .i64 0, .int .i64 0]) (t := 31) ?_; intro gb104 hg w3 BK104 GE104 HB hb; obtain ⟨NB103_104, NB104_103⟩ := sqM hg BK103; replace BK103 := sqT BK103 hb; clear hb hg) | ((with_reducible refine gate_dst (N := 3) rfl ?_); refine sqBx w (sqB2 HB GE103 GE104) (N := 3) (cs := #[.int .i64 0, .int .i64 0]) (t := 31) ?_; intro gb105 hg w4 BK105 GE105 HB hb; obtain ⟨NB103_105, NB105_103⟩ := sqM hg BK103; replace BK103 := sqT BK103 hb; obtain ⟨NB104_105, NB105_104⟩ := sqM hg BK104; replace BK104 := sqT BK104 hb; clear hb hg; have hnb5 := NB103_104.out; have hnc5 := NB104_103.out; have hnb6 := NB103_105.out; have hnc6 := NB105_103.out; obtain ⟨hcz7_0, hcz7_1, hfz7_0, hfz7_1⟩ := sqY2 BK103; have hnb8 := NB105_104.out; have hnc8 := NB104_105.out; obtain ⟨hcz9_0, hcz9_1, hfz9_0, hfz9_1⟩ := sqY2 BK105; obtain ⟨hcz10_0, hcz10_1, hfz10_0, hfz10_1⟩ := sqY2 BK104))
 refine bodyPost_ret (results_cell_row rfl _ _ gb104 31 #[.int .i64 a0_0, .int .i64 a0_1] (0, 0) _ rfl (by refine sqPut (cs := #[.int .i64 a0_0, .int .i64 0]) ?_ 1; refine sqPut (cs := #[.int .i64 0, .int .i64 0]) ?_ 0; refine sqFar ?_ NB104_105; refine sqFar ?_ NB104_105; exact sqK BK104) Tryz.underlying31 rfl (by kernel_rfl)) rfl ?_
 exact ⟨Z6, sqB3 HB GE103 GE104 GE105⟩

/-! ### laws_toFractionS: function 59 -/
def laws_toFractionS.l0 : Nat → List (S23) → List (S31) → Int → Option ((List (S31)))
 | 0, _, _, _ => none
 | k + 1, x0, x3, x4 => if x4 < (x0.length : Int) then (if 0 ≤ x4 then ((laws_toFraction.f ((rd_T23 x0 x4).f0) ((rd_T23 x0 x4).f1)).bind fun bt110 => (if x4 < (x3.length : Int) then (laws_toFractionS.l0 k x0 (x3.set (x4 : Int).toNat (⟨bt110.1, bt110.2⟩ : S31)) (wrap64 (x4 + 1))) else (none))) else (none)) else (some x3)
def laws_toFractionS.f (k : Nat) (l0 : List (S23)) : Option ((List (S31))) := if 0 ≤ (l0.length : Int) then (if ((l0.length : Int) : Int).toNat ≤ 17592186044416 then (laws_toFractionS.l0 k l0 (List.replicate ((l0.length : Int) : Int).toNat z31) 0) else (none)) else (none)
abbrev laws_toFractionS.M (k : Nat) : Prop := (∀ y0 y1 y2, LeO (laws_toFractionS.l0 k y0 y1 y2) (laws_toFractionS.l0 (k + 1) y0 y1 y2))
theorem laws_toFractionS.mono_t : ∀ k, laws_toFractionS.M k → laws_toFractionS.M (k + 1) ∧ ∀ a0, LeO (laws_toFractionS.f k a0) (laws_toFractionS.f (k + 1) a0) := by
  rintro k ih0
  refine ⟨?_, ?_⟩ <;> (try unfold laws_toFractionS.M) <;> intros <;> (first | unfold laws_toFractionS.l0 | unfold laws_toFractionS.f) <;> repeat' (with_reducible first | exact ih0 _ _ _ | exact LeO.refl _ | exact LeO.none _ | refine LeO.ite ?_ ?_ | refine LeO.bind ?_ fun _ => ?_)
theorem laws_toFractionS.mono_l : ∀ k, laws_toFractionS.M k
 | 0 => fun _ _ _ r h => by simp [laws_toFractionS.l0] at h
 | k + 1 => (laws_toFractionS.mono_t k (laws_toFractionS.mono_l k)).1
theorem laws_toFractionS.mono a0 k : LeO (laws_toFractionS.f k a0) (laws_toFractionS.f (k + 1) a0) := (laws_toFractionS.mono_t k (laws_toFractionS.mono_l k)).2 a0
set_option maxHeartbeats 8000000 in
set_option maxRecDepth 100000 in
theorem laws_toFractionS.calls (k : Nat) (A0 : Option Addr) (c0 : Nat) (l0 : List (S23)) (r : List (S31)) (w : World) (hr0 : Kd.C k23 w A0 l0.length l0) (hc0 : l0.length ≤ c0) (h : laws_toFractionS.f k l0 = some r) :
  Calls Tryz.prog 59 #[.slice A0 l0.length c0] w fun e w' => ∃ v0_ : Value, e = .returned (v0_) ∧ Kd.R k31 31 w' w.heap.size (fun _ => True) v0_ r ∧ Below w.heap.size w w' := by
 have hu23 := Tryz.underlying23
 have hu31 := Tryz.underlying31
 have HR0 := Aside0.mk hr0
 have HC0 := Aside0.mk hc0
 clear hr0 hc0
 have HB := Aside0.mk (Below.refl w.heap.size w)
 unfold laws_toFractionS.f at h
 have H := h
 clear h
 obtain ⟨c2, H⟩ := sqI H
 have c2b0 := eq_true c2
 have c2b1 : decide (0 ≤ (l0.length : Int)) = true := decide_eq_true c2
 clear c2
 obtain ⟨c3, H⟩ := sqI H
 have c3b0 := eq_true c3
 have c3b1 : decide (((l0.length : Int) : Int).toNat ≤ 17592186044416) = true := decide_eq_true c3
 clear c3
 obtain ⟨y106, hy106⟩ : ∃ y_ : List (S31), y_ = (List.replicate ((l0.length : Int) : Int).toNat z31) := ⟨_, rfl⟩
 replace H : (laws_toFractionS.l0 k l0 y106 0) = some r := sqW hy106 H
 have Ny106 := Aside0.mk hy106
 clear hy106
 have H' := Aside0.mk H
 clear H
 go_enter Tryz.func59, Tryz.ntmps59
 go_wp2_with (first | ((with_reducible refine gate_dst (N := 7) rfl ?_); refine Kd.R_make k31 _ 31 rfl (N := 7) rfl 32 _ _ rfl (l0.length : Int) rfl rfl Tryz.underlying32 (.agg #[(.int .i64 0), (.int .i64 0)]) 16 info31 rfl (by decide) (by omega) z31 (ok := fun _ => True) (okp := fun _ => True) (k31_mkM _ _ _ z31 ) (fun _ hk => hk) trivial (of_decide_eq_true Z20) (Nat.le_trans (Nat.mul_le_mul_right _ (of_decide_eq_true Z20 : (l0.length : Int).toNat ≤ 17592186044416)) (by omega)) (Below.refl _ _) (Nat.le_refl _) ?_; intro v107 w4 ho5 hb hg_ hnew_; clear hg_ hnew_; (first | rw [← Ny106.out] at ho5 | (simp only [Int.reduceToNat] at ho5; rw [← Ny106.out] at ho5)); have HO108 := sqL ho5 (sqB HB); replace HB := sqS (sqB HB) hb; clear hb ho5))
 go_loopg [4] k (fun kq v4 w' => ∃ (x3_1 : List (S31)) (x4_1 : Int), v4 = .int .i64 x4_1 ∧ Aside0 (laws_toFractionS.l0 kq l0 x3_1 x4_1 = some r) ∧ Aside0 (kq ≤ k) ∧ Aside0 (Kd.R k31 31 w' w.heap.size (fun _ => True) v107 x3_1) ∧ Aside0 (Below w.heap.size w w'))
 case atStart => exact ⟨(y106), (0), Z2, H', ⟨Nat.le_refl _⟩, ⟨sqR HO108⟩, ⟨sqB HB⟩⟩
 case round =>
  clear H'
  try clear c2; try clear c2b0; try clear c2b1; try clear c3; try clear c3b0; try clear c3b1
  obtain ⟨x3_1, x4_1, rfl, HA, HK1, HO_3, HB⟩ := hrel
  cases gk with
  | zero => exact absurd HA.out (by simp [laws_toFractionS.l0])
  | succ k1 =>
   have H := HA.out
   clear HA
   simp only [laws_toFractionS.l0] at H
   by_cases c6 : x4_1 < (l0.length : Int)
   ·rw [if_pos c6] at H
    have c6b0 : decide (x4_1 < (l0.length : Int)) = true := decide_eq_true c6
    clear c6
    obtain ⟨c7, H⟩ := sqI H
    have c7b0 : decide (0 ≤ x4_1) = true := decide_eq_true c7
    clear c7
    obtain ⟨⟨t110, t111⟩, A8, H⟩ := sqD H
    try dsimp only at H
    obtain ⟨c9, H⟩ := sqI H
    have c9b0 : decide (x4_1 < (x3_1.length : Int)) = true := decide_eq_true c9
    clear c9
    obtain ⟨y112, hy112⟩ : ∃ y_ : List (S31), y_ = (x3_1.set (x4_1 : Int).toNat (⟨t110, t111⟩ : S31)) := ⟨_, rfl⟩
    replace H : (laws_toFractionS.l0 k1 l0 y112 (wrap64 (x4_1 + 1))) = some r := sqW hy112 H
    have Ny112 := Aside0.mk hy112
    clear hy112
    have H' := Aside0.mk H
    clear H
    have p109 : 0 ≤ (x4_1 : Int) := of_decide_eq_true Z20
    have q109 : x4_1 < (l0.length : Int) := of_decide_eq_true Z20
    obtain ⟨ad109, e109, hx109_0, hx109_1⟩ := at_T23 HR0.out x4_1 p109 q109
    cases e109
    replace hx109_0 := (HB.out.cell (World.block_lt_of_cell? w _ hx109_0)).trans hx109_0
    replace hx109_1 := (HB.out.cell (World.block_lt_of_cell? w _ hx109_1)).trans hx109_1
    replace p109 := eq_true p109
    replace q109 := eq_true q109
    go_wp2_with (first | ((with_reducible refine gate_callee (f := 58) rfl ?_); refine sqC (some 20) Tryz.func58 #[.agg #[.int .i64 ((rd_T23 l0 x4_1).f0), .int .i64 ((rd_T23 l0 x4_1).f1)]] ?_; (with_reducible refine (laws_toFraction.calls ((rd_T23 l0 x4_1).f0) ((rd_T23 l0 x4_1).f1) t110 t111 _ A8.out).mono ?_); rintro e w11 ⟨rfl, hb⟩; refine ⟨_, rfl, ?_⟩; replace HO_3 := sqU HO_3 hb; replace HB := sqS (sqB HB) hb; (try clear hb); have p10 : 0 ≤ (x4_1 : Int) := of_decide_eq_true Z20; have q10 : (x4_1 : Int) < ((x3_1.length : Int) : Int) := of_decide_eq_true Z20; obtain ⟨go10, co10, eo10, gb10, gl10, cl10, HG10⟩ := Kd.R_form HO_3.out (by omega); (first | cases eo10 | (injection eo10 with ea_ en_ ec_; (first | subst ea_ | (injection ea_ with ea_; subst ea_)); subst ec_; clear en_)); have GB10 := Aside0.mk gb10; have GG10 := Aside0.mk HG10; clear gb10 gl10 HG10; obtain ⟨ce10, hcl10, hM10, hcc10, hfr10⟩ := Kd.R_elem HO_3.out z31 (x4_1 : Int) p10 q10; obtain rfl := k31_openM hM10; have hx10_0 : w11.cell? ⟨go10, (x4_1 : Int).toNat * 2, none⟩ = some (.int .i64 ((rd_T31 x3_1 x4_1).f0)) := hcc10 0 _ rfl; have hx10_1 : w11.cell? ⟨go10, (x4_1 : Int).toNat * 2 + 1, none⟩ = some (.int .i64 ((rd_T31 x3_1 x4_1).f1)) := hcc10 1 _ rfl; have hf10_0 : w11.frozen? ⟨go10, (x4_1 : Int).toNat * 2, none⟩ = false := hfr10 0; have hf10_1 : w11.frozen? ⟨go10, (x4_1 : Int).toNat * 2 + 1, none⟩ = false := hfr10 1; clear hcl10 hcc10 hfr10 hM10; replace p10 := eq_true p10; replace q10 := eq_true q10; have HX12 := Aside0.mk (show Kd.R k31 31 w11 w.heap.size (fun _ => True) (.slice (some ⟨go10, 0, none⟩) x3_1.length co10) x3_1 from (sqR HO_3)); obtain ⟨ce12, hcl12, hM12, hcc12, hfr12⟩ := Kd.R_elem HX12.out z31 (x4_1 : Int) (of_decide_eq_true Z20) (by have h_ : (x4_1 : Int) < ((x3_1.length : Int) : Int) := of_decide_eq_true Z20; first | exact h_ | (have e_ := (Kd.R_reads' HO_3.out).1; omega) | simpa using h_); obtain rfl := k31_openM hM12; have HP12 := Kd.R_seg HX12.out (x4_1 : Int) (of_decide_eq_true Z20) (by have h_ : (x4_1 : Int) < ((x3_1.length : Int) : Int) := of_decide_eq_true Z20; first | exact h_ | (have e_ := (Kd.R_reads' HO_3.out).1; omega) | simpa using h_) (seg := [.int .i64 t110, .int .i64 t111]) (j := 0) hcl12 hcc12 (show 2 ≤ 2 from by decide) (x' := (⟨t110, t111⟩ : S31)) (k31_mkM _ _ _ (⟨t110, t111⟩ : S31) ) (fun _ hk => hk); have hx12_0 := hcc12 0 _ rfl; (try simp only [show (k31).sz = 2 from rfl, Nat.mul_one, Nat.add_zero] at hx12_0); have hf12_0 := hfr12 0; (try simp only [show (k31).sz = 2 from rfl, Nat.mul_one, Nat.add_zero] at hf12_0); have hx12_1 := hcc12 1 _ rfl; (try simp only [show (k31).sz = 2 from rfl, Nat.mul_one, Nat.add_zero] at hx12_1); have hf12_1 := hfr12 1; (try simp only [show (k31).sz = 2 from rfl, Nat.mul_one, Nat.add_zero] at hf12_1); clear hcl12 hcc12 hfr12 hM12) | ((with_reducible refine gate_store (t := 31) (p := 21) rfl ?_); refine store_event (t := 31) (p := 21) (v := ?vo_w13) (w1 := ((w11.setCell ⟨go10, (x4_1 : Int).toNat * 2, none⟩ (.int .i64 t110)).setCell ⟨go10, (x4_1 : Int).toNat * 2 + 1, none⟩ (.int .i64 t111))) ?hg ?ho ?hn ?hr ?_; (case ho => rfl); (case hg => rfl); (case hn => rfl); (case hr => exact Z21); intro w13 hw; have hg : w11.grownBy w13 (some go10) := (by rw [hw]; exact HP12.2); have hp_ : Kd.R k31 31 w13 w.heap.size (fun _ => True) (.slice (some ⟨go10, 0, none⟩) x3_1.length co10) y112 := (by rw [hw, Ny112.out]; exact HP12.1); clear HP12; replace HO_3 := Aside0.mk (hp_); replace HB := Aside0.mk ((by rw [hw]; exact below_set (below_set (HB.out) GB10.out) GB10.out : Below w.heap.size w w13)); clear hg hw hp_))
    go_roundg k1
    case measure => have := HK1.out; omega
    case rel => exact ⟨(y112), (wrap64 (x4_1 + 1)), Z2, H', ⟨Z3 HK1⟩, ⟨sqR HO_3⟩, ⟨sqB HB⟩⟩
   rw [if_neg c6] at H
   have c6b0 : decide (x4_1 < (l0.length : Int)) = false := decide_eq_false c6
   clear c6
   obtain rfl := Option.some.inj H
   go_wp2
   go_ret
   exact ⟨_, Z6, Z35 HO_3, sqB HB⟩

/-! ### laws_toDesk: function 15 -/
def laws_toDesk.f (k : Nat) (a0_0 : Int) (a0_1 : Int) (l0_2 : List (S23)) : Option (Int × Int × (List (S31))) := (laws_toFraction.f a0_0 a0_1).bind fun bt116 => ((laws_toFractionS.f k l0_2).bind fun t118 => (some (bt116.1, bt116.2, t118)))
theorem laws_toDesk.mono : ∀ a0 a1 a2 k, LeO (laws_toDesk.f k a0 a1 a2) (laws_toDesk.f (k + 1) a0 a1 a2) := by
 intro a0 a1 a2 k
 unfold laws_toDesk.f
 repeat' (with_reducible first | exact laws_toFractionS.mono _ _ | exact LeO.refl _ | exact LeO.none _ | refine LeO.ite ?_ ?_ | refine LeO.bind ?_ fun _ => ?_)
set_option maxHeartbeats 8000000 in
set_option maxRecDepth 100000 in
theorem laws_toDesk.calls (k : Nat) (a0_0 : Int) (a0_1 : Int) (A0_2 : Option Addr) (c0_2 : Nat) (l0_2 : List (S23)) (r1 : Int) (r2 : Int) (r3 : List (S31)) (w : World) (hr0_2 : Kd.C k23 w A0_2 l0_2.length l0_2) (hc0_2 : l0_2.length ≤ c0_2) (h : laws_toDesk.f k a0_0 a0_1 l0_2 = some (r1, r2, r3)) :
  Calls Tryz.prog 15 #[.agg #[.int .i64 a0_0, .int .i64 a0_1, .slice A0_2 l0_2.length c0_2]] w fun e w' => ∃ v2_ : Value, e = .returned (.agg #[.int .i64 r1, .int .i64 r2, v2_]) ∧ Kd.R k31 31 w' w.heap.size (fun _ => True) v2_ r3 ∧ Below w.heap.size w w' := by
 have hu26 := Tryz.underlying26
 have hu34 := Tryz.underlying34
 have hu23 := Tryz.underlying23
 have hu31 := Tryz.underlying31
 have HR0_2 := Aside0.mk hr0_2
 have HC0_2 := Aside0.mk hc0_2
 clear hr0_2 hc0_2
 have HB := Aside0.mk (Below.refl w.heap.size w)
 unfold laws_toDesk.f at h
 have H := h
 clear h
 obtain ⟨⟨t116, t117⟩, A2, H⟩ := sqD H
 try dsimp only at H
 obtain ⟨t118, A3, H⟩ := sqD H
 obtain ⟨rfl, rfl, rfl⟩ := sqO3 H
 go_enter Tryz.func15, Tryz.ntmps15
 go_wp2_with (first | ((with_reducible refine gate_dst (N := 1) rfl ?_); refine sqBx w (sqB HB) (N := 1) (cs := #[.int .i64 a0_0, .int .i64 a0_1, .slice A0_2 l0_2.length c0_2]) (t := 26) ?_; intro gb113 hg w4 BK113 GE113 HB hb; clear hb hg) | ((with_reducible refine gate_dst (N := 2) rfl ?_); refine sqBx w (sqB1 HB GE113) (N := 2) (cs := #[.int .i64 0, .int .i64 0, .slice none 0 0]) (t := 34) ?_; intro gb114 hg w5 BK114 GE114 HB hb; obtain ⟨NB113_114, NB114_113⟩ := sqM hg BK113; replace BK113 := sqT BK113 hb; clear hb hg) | ((with_reducible refine gate_dst (N := 3) rfl ?_); refine sqBx w (sqB2 HB GE113 GE114) (N := 3) (cs := #[.int .i64 0, .int .i64 0, .slice none 0 0]) (t := 34) ?_; intro gb115 hg w6 BK115 GE115 HB hb; obtain ⟨NB113_115, NB115_113⟩ := sqM hg BK113; replace BK113 := sqT BK113 hb; obtain ⟨NB114_115, NB115_114⟩ := sqM hg BK114; replace BK114 := sqT BK114 hb; clear hb hg; have hnb7 := NB113_114.out; have hnc7 := NB114_113.out; have hnb8 := NB113_115.out; have hnc8 := NB115_113.out; obtain ⟨hcz9_0, hcz9_1, hcz9_2, hfz9_0, hfz9_1, hfz9_2⟩ := sqY3 BK113) | ((with_reducible refine gate_callee (f := 58) rfl ?_); refine sqC (some 6) Tryz.func58 #[.agg #[.int .i64 a0_0, .int .i64 a0_1]] ?_; (with_reducible refine (laws_toFraction.calls a0_0 a0_1 t116 t117 _ A2.out).mono ?_); rintro e w10 ⟨rfl, hb⟩; refine ⟨_, rfl, ?_⟩; replace BK113 := sqT BK113 hb; replace BK114 := sqT BK114 hb; replace BK115 := sqT BK115 hb; replace HB := sqS (sqB3 HB GE113 GE114 GE115) hb; (try clear hb); have hnb11 := NB115_114.out; have hnc11 := NB114_115.out; obtain ⟨hcz12_0, hcz12_1, hcz12_2, hfz12_0, hfz12_1, hfz12_2⟩ := sqY3 BK115; obtain ⟨hcz13_0, hcz13_1, hcz13_2, hfz13_0, hfz13_1, hfz13_2⟩ := sqY3 BK113) | ((with_reducible refine gate_callee (f := 59) rfl ?_); refine sqC (some 10) Tryz.func59 #[.slice A0_2 l0_2.length c0_2] ?_; (with_reducible refine (laws_toFractionS.calls k _ _ l0_2 t118 _ ?side1 ?side2 A3.out).mono ?_); (case side1 => exact Kd.C_below HR0_2.out (sqB3 HB GE113 GE114 GE115)); (case side2 => exact Z13); rintro e w14 ⟨v119, rfl, ho0, hb⟩; refine ⟨_, rfl, ?_⟩; have HO120 := sqL ho0 (sqB3 HB GE113 GE114 GE115); replace BK113 := sqH NB113_115 BK113 hb; replace BK114 := sqH NB114_115 BK114 hb; replace BK115 := Aside0.mk (blk_below (g := gb115) (o := .cells #[.int .i64 t116, .int .i64 t117, .slice none 0 0] 34 (0, 0)) (by refine sqPut (cs := #[.int .i64 t116, .int .i64 0, .slice none 0 0]) ?_ 1; refine sqPut (cs := #[.int .i64 0, .int .i64 0, .slice none 0 0]) ?_ 0; exact sqK BK115) hb); replace HB := sqS (sqB3 HB GE113 GE114 GE115) hb; (try clear hb); (try clear ho0); obtain ⟨Ao15, co15, eo15⟩ := Kd.R_slice HO120.out; subst eo15; obtain ⟨hcz16_0, hcz16_1, hcz16_2, hfz16_0, hfz16_1, hfz16_2⟩ := sqY3 BK115; obtain ⟨hcz17_0, hcz17_1, hcz17_2, hfz17_0, hfz17_1, hfz17_2⟩ := sqY3 BK114))
 refine bodyPost_ret (results_cell_row rfl _ _ gb114 34 #[.int .i64 t116, .int .i64 t117, .slice Ao15 t118.length co15] (0, 0) _ rfl (by refine sqPut (cs := #[.int .i64 t116, .int .i64 t117, .slice none 0 0]) ?_ 2; refine sqPut (cs := #[.int .i64 t116, .int .i64 0, .slice none 0 0]) ?_ 1; refine sqPut (cs := #[.int .i64 0, .int .i64 0, .slice none 0 0]) ?_ 0; refine sqFar ?_ NB114_115; exact sqK BK114) Tryz.underlying34 rfl (by kernel_rfl)) rfl ?_
 exact ⟨_, Z6, by (with_reducible repeat (first | apply Kd.R_alloc | apply Kd.R_drewN | apply Kd.R_drew)); exact Kd.R_mono (Kd.R_far (p := ⟨gb114, 2, none⟩) (Kd.R_far (p := ⟨gb114, 1, none⟩) (Kd.R_far (p := ⟨gb114, 0, none⟩) (Kd.R_far (p := ⟨gb115, 2, none⟩) (Kd.R_types (Kd.R_types HO120.out BK115.out (by decide)) BK114.out (by decide)) (fun _ hk => hk.1.2) (.slice Ao15 t118.length co15)) (fun _ hk => hk.2) (.int .i64 t116)) (fun _ hk => hk.2) (.int .i64 t117)) (fun _ hk => hk.2) (.slice Ao15 t118.length co15)) (fun _ hk => trivial), sqB3 HB GE113 GE114 GE115⟩

/-! ### laws_eqFraction: function 62 -/
def laws_eqFraction.f (a0_0 : Int) (a0_1 : Int) (a1_0 : Int) (a1_1 : Int) : Option (Bool) := if a0_0 = a1_0 then (if a0_1 = a1_1 then (some true) else (some false)) else (some false)
set_option maxHeartbeats 8000000 in
set_option maxRecDepth 100000 in
theorem laws_eqFraction.calls (a0_0 : Int) (a0_1 : Int) (a1_0 : Int) (a1_1 : Int) (r : Bool) (w : World) (h : laws_eqFraction.f a0_0 a0_1 a1_0 a1_1 = some r) :
  Calls Tryz.prog 62 #[.agg #[.int .i64 a0_0, .int .i64 a0_1], .agg #[.int .i64 a1_0, .int .i64 a1_1]] w fun e w' => e = .returned (.bool r) ∧ Below w.heap.size w w' := by
 have hu31 := Tryz.underlying31
 have HB := Aside0.mk (Below.refl w.heap.size w)
 unfold laws_eqFraction.f at h
 have H := h
 clear h
 by_cases c3 : a0_0 = a1_0
 ·rw [if_pos c3] at H
  have c3b0 : (a0_0 == a1_0) = true := beq_iff_eq.mpr c3
  have c3b1 : (a0_0 != a1_0) = false := bne_eq_false_iff_eq.mpr c3
  clear c3
  by_cases c4 : a0_1 = a1_1
  ·rw [if_pos c4] at H
   have c4b0 : (a0_1 == a1_1) = true := beq_iff_eq.mpr c4
   have c4b1 : (a0_1 != a1_1) = false := bne_eq_false_iff_eq.mpr c4
   clear c4
   obtain rfl := Option.some.inj H
   go_enter Tryz.func62, Tryz.ntmps62
   go_wp2_with (first | ((with_reducible refine gate_dst (N := 2) rfl ?_); refine sqBx w (sqB HB) (N := 2) (cs := #[.int .i64 a0_0, .int .i64 a0_1]) (t := 31) ?_; intro gb121 hg w5 BK121 GE121 HB hb; clear hb hg) | ((with_reducible refine gate_dst (N := 3) rfl ?_); refine sqBx w (sqB1 HB GE121) (N := 3) (cs := #[.int .i64 a1_0, .int .i64 a1_1]) (t := 31) ?_; intro gb122 hg w6 BK122 GE122 HB hb; obtain ⟨NB121_122, NB122_121⟩ := sqM hg BK121; replace BK121 := sqT BK121 hb; clear hb hg; have hnb7 := NB121_122.out; have hnc7 := NB122_121.out; obtain ⟨hcz8_0, hcz8_1, hfz8_0, hfz8_1⟩ := sqY2 BK121; obtain ⟨hcz9_0, hcz9_1, hfz9_0, hfz9_1⟩ := sqY2 BK122))
   go_ret
   exact ⟨Z6, sqB2 HB GE121 GE122⟩
  rw [if_neg c4] at H
  have c4b0 : (a0_1 == a1_1) = false := beq_eq_false_iff_ne.mpr c4
  have c4b1 : (a0_1 != a1_1) = true := bne_iff_ne.mpr c4
  obtain rfl := Option.some.inj H
  go_enter Tryz.func62, Tryz.ntmps62
  go_wp2_with (first | ((with_reducible refine gate_dst (N := 2) rfl ?_); refine sqBx w (sqB HB) (N := 2) (cs := #[.int .i64 a0_0, .int .i64 a0_1]) (t := 31) ?_; intro gb121 hg w10 BK121 GE121 HB hb; clear hb hg) | ((with_reducible refine gate_dst (N := 3) rfl ?_); refine sqBx w (sqB1 HB GE121) (N := 3) (cs := #[.int .i64 a1_0, .int .i64 a1_1]) (t := 31) ?_; intro gb122 hg w11 BK122 GE122 HB hb; obtain ⟨NB121_122, NB122_121⟩ := sqM hg BK121; replace BK121 := sqT BK121 hb; clear hb hg; have hnb12 := NB121_122.out; have hnc12 := NB122_121.out; obtain ⟨hcz13_0, hcz13_1, hfz13_0, hfz13_1⟩ := sqY2 BK121; obtain ⟨hcz14_0, hcz14_1, hfz14_0, hfz14_1⟩ := sqY2 BK122))
  go_ret
  exact ⟨Z6, sqB2 HB GE121 GE122⟩
 rw [if_neg c3] at H
 have c3b0 : (a0_0 == a1_0) = false := beq_eq_false_iff_ne.mpr c3
 have c3b1 : (a0_0 != a1_0) = true := bne_iff_ne.mpr c3
 obtain rfl := Option.some.inj H
 go_enter Tryz.func62, Tryz.ntmps62
 go_wp2_with (first | ((with_reducible refine gate_dst (N := 2) rfl ?_); refine sqBx w (sqB HB) (N := 2) (cs := #[.int .i64 a0_0, .int .i64 a0_1]) (t := 31) ?_; intro gb121 hg w15 BK121 GE121 HB hb; clear hb hg) | ((with_reducible refine gate_dst (N := 3) rfl ?_); refine sqBx w (sqB1 HB GE121) (N := 3) (cs := #[.int .i64 a1_0, .int .i64 a1_1]) (t := 31) ?_; intro gb122 hg w16 BK122 GE122 HB hb; obtain ⟨NB121_122, NB122_121⟩ := sqM hg BK121; replace BK121 := sqT BK121 hb; clear hb hg; have hnb17 := NB121_122.out; have hnc17 := NB122_121.out; obtain ⟨hcz18_0, hcz18_1, hfz18_0, hfz18_1⟩ := sqY2 BK121; obtain ⟨hcz19_0, hcz19_1, hfz19_0, hfz19_1⟩ := sqY2 BK122))
 go_ret
 exact ⟨Z6, sqB2 HB GE121 GE122⟩

/-! ### laws_eqFractionS: function 63 -/
def laws_eqFractionS.l0 : Nat → List (S31) → List (S31) → Int → Option (Bool)
 | 0, _, _, _ => none
 | k + 1, x0, x1, x5 => if x5 < (x0.length : Int) then (if 0 ≤ x5 then (if x5 < (x1.length : Int) then ((laws_eqFraction.f ((rd_T31 x0 x5).f0) ((rd_T31 x0 x5).f1) ((rd_T31 x1 x5).f0) ((rd_T31 x1 x5).f1)).bind fun t125 => (if t125 = true then (laws_eqFractionS.l0 k x0 x1 (wrap64 (x5 + 1))) else (some false))) else (none)) else (none)) else (some true)
def laws_eqFractionS.f (k : Nat) (l0 : List (S31)) (l1 : List (S31)) : Option (Bool) := if (l0.length : Int) = (l1.length : Int) then (laws_eqFractionS.l0 k l0 l1 0) else (some false)
abbrev laws_eqFractionS.M (k : Nat) : Prop := (∀ y0 y1 y2, LeO (laws_eqFractionS.l0 k y0 y1 y2) (laws_eqFractionS.l0 (k + 1) y0 y1 y2))
theorem laws_eqFractionS.mono_t : ∀ k, laws_eqFractionS.M k → laws_eqFractionS.M (k + 1) ∧ ∀ a0 a1, LeO (laws_eqFractionS.f k a0 a1) (laws_eqFractionS.f (k + 1) a0 a1) := by
  rintro k ih0
  refine ⟨?_, ?_⟩ <;> (try unfold laws_eqFractionS.M) <;> intros <;> (first | unfold laws_eqFractionS.l0 | unfold laws_eqFractionS.f) <;> repeat' (with_reducible first | exact ih0 _ _ _ | exact LeO.refl _ | exact LeO.none _ | refine LeO.ite ?_ ?_ | refine LeO.bind ?_ fun _ => ?_)
theorem laws_eqFractionS.mono_l : ∀ k, laws_eqFractionS.M k
 | 0 => fun _ _ _ r h => by simp [laws_eqFractionS.l0] at h
 | k + 1 => (laws_eqFractionS.mono_t k (laws_eqFractionS.mono_l k)).1
theorem laws_eqFractionS.mono a0 a1 k : LeO (laws_eqFractionS.f k a0 a1) (laws_eqFractionS.f (k + 1) a0 a1) := (laws_eqFractionS.mono_t k (laws_eqFractionS.mono_l k)).2 a0 a1
def laws_eqFractionS.T6 : Bool × List (List Nat × List Nat) := (true, [([], []), ([], []), ([0, 1], [0, 1]), ([2], [2]), ([], []), ([], []), ([4, 5], [4, 5]), ([6], [6]), ([3, 7], [3, 7]), ([8], [8])])
def laws_eqFractionS.B6 : List Nat := [0, 0, 3, 7, 0, 0, 48, 112, 255, 511]
theorem laws_eqFractionS.tab6 : rtab .any (opsOf Tryz.f63 6) = laws_eqFractionS.T6 := by kernel_rfl
theorem laws_eqFractionS.bits6 : waitsOk laws_eqFractionS.T6.2 laws_eqFractionS.B6 = true := by kernel_rfl
set_option maxHeartbeats 8000000 in
set_option maxRecDepth 100000 in
theorem laws_eqFractionS.calls (k : Nat) (A0 : Option Addr) (c0 : Nat) (l0 : List (S31)) (A1 : Option Addr) (c1 : Nat) (l1 : List (S31)) (r : Bool) (w : World) (hr0 : Kd.C k31 w A0 l0.length l0) (hc0 : l0.length ≤ c0) (hr1 : Kd.C k31 w A1 l1.length l1) (hc1 : l1.length ≤ c1) (h : laws_eqFractionS.f k l0 l1 = some r) :
  Calls Tryz.prog 63 #[.slice A0 l0.length c0, .slice A1 l1.length c1] w fun e w' => e = .returned (.bool r) ∧ Below w.heap.size w w' := by
 have hu31 := Tryz.underlying31
 have HR0 := Aside0.mk hr0
 have HC0 := Aside0.mk hc0
 clear hr0 hc0
 have HR1 := Aside0.mk hr1
 have HC1 := Aside0.mk hc1
 clear hr1 hc1
 have HB := Aside0.mk (Below.refl w.heap.size w)
 unfold laws_eqFractionS.f at h
 have H := h
 clear h
 by_cases c3 : (l0.length : Int) = (l1.length : Int)
 ·rw [if_pos c3] at H
  have c3b0 : ((l0.length : Int) == (l1.length : Int)) = true := beq_iff_eq.mpr c3
  have c3b1 : ((l0.length : Int) != (l1.length : Int)) = false := bne_eq_false_iff_eq.mpr c3
  have c3b2 : (l0.length == l1.length) = true := by first | simpa using c3 | (simp at c3 ⊢; omega)
  clear c3
  have H' := Aside0.mk H
  clear H
  go_enter Tryz.func63, Tryz.ntmps63
  go_wp2
  go_loopg [5] k (fun kq v5 w' => ∃ (x5_1 : Int), v5 = .int .i64 x5_1 ∧ Aside0 (laws_eqFractionS.l0 kq l0 l1 x5_1 = some r) ∧ Aside0 (kq ≤ k) ∧ Aside0 (Below w.heap.size w w'))
  case atStart => exact ⟨(0), Z2, H', ⟨Nat.le_refl _⟩, ⟨sqB HB⟩⟩
  case round =>
   clear H'
   try clear c1; try clear c3; try clear c3b0; try clear c3b1; try clear c3b2
   obtain ⟨x5_1, rfl, HA, HK1, HB⟩ := hrel
   cases gk with
   | zero => exact absurd HA.out (by simp [laws_eqFractionS.l0])
   | succ k1 =>
    have H := HA.out
    clear HA
    simp only [laws_eqFractionS.l0] at H
    by_cases c4 : x5_1 < (l0.length : Int)
    ·rw [if_pos c4] at H
     have c4b0 : decide (x5_1 < (l0.length : Int)) = true := decide_eq_true c4
     clear c4
     obtain ⟨c5, H⟩ := sqI H
     have c5b0 : decide (0 ≤ x5_1) = true := decide_eq_true c5
     clear c5
     obtain ⟨c6, H⟩ := sqI H
     have c6b0 : decide (x5_1 < (l1.length : Int)) = true := decide_eq_true c6
     clear c6
     obtain ⟨t125, A7, H⟩ := sqD H
     by_cases c8 : t125 = true
     ·subst c8
      rw [if_pos rfl] at H
      have H' := Aside0.mk H
      clear H
      try go_wp2
      replace HB := Aside0.mk (below_drew1 HB.out)
      have p123 : 0 ≤ (x5_1 : Int) := of_decide_eq_true Z20
      have q123 : x5_1 < (l0.length : Int) := of_decide_eq_true Z20
      obtain ⟨ad123, e123, hx123_0, hx123_1⟩ := at_T31 HR0.out x5_1 p123 q123
      have hw123_1 := hx123_1
      have hw123_0 := hx123_0
      cases e123
      replace hx123_0 := (HB.out.cell (World.block_lt_of_cell? w _ hx123_0)).trans hx123_0
      replace hx123_1 := (HB.out.cell (World.block_lt_of_cell? w _ hx123_1)).trans hx123_1
      replace p123 := eq_true p123
      replace q123 := eq_true q123
      have p124 : 0 ≤ (x5_1 : Int) := of_decide_eq_true Z20
      have q124 : x5_1 < (l1.length : Int) := of_decide_eq_true Z20
      obtain ⟨ad124, e124, hx124_0, hx124_1⟩ := at_T31 HR1.out x5_1 p124 q124
      have hw124_1 := hx124_1
      have hw124_0 := hx124_0
      cases e124
      replace hx124_0 := (HB.out.cell (World.block_lt_of_cell? w _ hx124_0)).trans hx124_0
      replace hx124_1 := (HB.out.cell (World.block_lt_of_cell? w _ hx124_1)).trans hx124_1
      replace p124 := eq_true p124
      replace q124 := eq_true q124
      refine start_ (n := 10) (S := fun w' => w'.cell? (ad123.add ((x5_1).toNat * 2)) = some (.int .i64 ((rd_T31 l0 x5_1).f0)) ∧ w'.cell? ⟨(ad123.add ((x5_1).toNat * 2)).block, (ad123.add ((x5_1).toNat * 2)).off + 1, none⟩ = some (.int .i64 ((rd_T31 l0 x5_1).f1)) ∧ w'.cell? (ad124.add ((x5_1).toNat * 2)) = some (.int .i64 ((rd_T31 l1 x5_1).f0)) ∧ w'.cell? ⟨(ad124.add ((x5_1).toNat * 2)).block, (ad124.add ((x5_1).toNat * 2)).off + 1, none⟩ = some (.int .i64 ((rd_T31 l1 x5_1).f1))) (ds := []) #[false, false, false, false, false, false, false, false, false, false] (by kernel_rfl) rfl rfl ⟨((HB.out.cell (World.block_lt_of_cell? w _ hw123_0)).trans hw123_0), ((HB.out.cell (World.block_lt_of_cell? w _ hw123_1)).trans hw123_1), ((HB.out.cell (World.block_lt_of_cell? w _ hw124_0)).trans hw124_0), ((HB.out.cell (World.block_lt_of_cell? w _ hw124_1)).trans hw124_1)⟩ (fun hHeld => ?_); refine with_tabW laws_eqFractionS.tab6 laws_eqFractionS.bits6 (fun HT_ HW_ => ?_)
      generalize wr.drew = w9 at HB hx123_0 hx123_1 hx124_0 hx124_1 hHeld ⊢
      refine sqP (i := 0) (N := some 17) (h := ?_)
      refine sqP (i := 1) (N := some 18) (h := ?_)
      refine sqP (i := 2) (N := some 19) (h := ?_)
      refine sqP (i := 4) (N := some 21) (h := ?_)
      refine sqP (i := 5) (N := some 22) (h := ?_)
      refine sqP (i := 6) (N := some 23) (h := ?_)
      refine sqQ (i := 3) (N := some 20) hHeld (h := ?_)
      refine sqQ (i := 7) (N := some 24) hHeld (h := ?_)
      refine one_ (i := 8) (N := some 25) #[true, true, true, true, true, true, true, true, true, false] rfl rfl (one_of HT_.out (by kernel_rfl)) (by decide) (fun K hK => ?_)
      refine goes_ Tryz.func62 (by kernel_rfl) rfl #[.agg #[.int .i64 ((rd_T31 l0 x5_1).f0), .int .i64 ((rd_T31 l0 x5_1).f1)], .agg #[.int .i64 ((rd_T31 l1 x5_1).f0), .int .i64 ((rd_T31 l1 x5_1).f1)]] (by rfl) rfl rfl sqA ?_
      with_reducible refine (laws_eqFraction.calls ((rd_T31 l0 x5_1).f0) ((rd_T31 l0 x5_1).f1) ((rd_T31 l1 x5_1).f0) ((rd_T31 l1 x5_1).f1) true _ A7.out).mono ?_
      rintro e w10 ⟨rfl, hb⟩
      refine ⟨_, rfl, ?_⟩
      replace HB := sqS (sqB HB) hb
      (try clear hb)
      (try clear hb2)
      (try clear hk)
      (try clear hi)
      refine hK.out _ _ ⟨((HB.out.cell (World.block_lt_of_cell? w _ hw123_0)).trans hw123_0), ((HB.out.cell (World.block_lt_of_cell? w _ hw123_1)).trans hw123_1), ((HB.out.cell (World.block_lt_of_cell? w _ hw124_0)).trans hw124_0), ((HB.out.cell (World.block_lt_of_cell? w _ hw124_1)).trans hw124_1)⟩ (fun hHeld => ?_)
      clear hK K
      refine sqN (some 25) ?_
      refine sqP (i := 9) (N := some 26) (h := ?_)
      refine done_ (done_of HT_.out (by kernel_rfl)) ?_
      try go_wp2
      go_roundg k1
      case measure => have := HK1.out; omega
      case rel => exact ⟨(wrap64 (x5_1 + 1)), Z2, H', ⟨Z3 HK1⟩, ⟨sqB HB⟩⟩
     replace c8 := Bool.eq_false_iff.mpr c8
     subst c8
     rw [if_neg sqF] at H
     obtain rfl := Option.some.inj H
     try go_wp2
     replace HB := Aside0.mk (below_drew1 HB.out)
     have p123 : 0 ≤ (x5_1 : Int) := of_decide_eq_true Z20
     have q123 : x5_1 < (l0.length : Int) := of_decide_eq_true Z20
     obtain ⟨ad123, e123, hx123_0, hx123_1⟩ := at_T31 HR0.out x5_1 p123 q123
     have hw123_1 := hx123_1
     have hw123_0 := hx123_0
     cases e123
     replace hx123_0 := (HB.out.cell (World.block_lt_of_cell? w _ hx123_0)).trans hx123_0
     replace hx123_1 := (HB.out.cell (World.block_lt_of_cell? w _ hx123_1)).trans hx123_1
     replace p123 := eq_true p123
     replace q123 := eq_true q123
     have p124 : 0 ≤ (x5_1 : Int) := of_decide_eq_true Z20
     have q124 : x5_1 < (l1.length : Int) := of_decide_eq_true Z20
     obtain ⟨ad124, e124, hx124_0, hx124_1⟩ := at_T31 HR1.out x5_1 p124 q124
     have hw124_1 := hx124_1
     have hw124_0 := hx124_0
     cases e124
     replace hx124_0 := (HB.out.cell (World.block_lt_of_cell? w _ hx124_0)).trans hx124_0
     replace hx124_1 := (HB.out.cell (World.block_lt_of_cell? w _ hx124_1)).trans hx124_1
     replace p124 := eq_true p124
     replace q124 := eq_true q124
     refine start_ (n := 10) (S := fun w' => w'.cell? (ad123.add ((x5_1).toNat * 2)) = some (.int .i64 ((rd_T31 l0 x5_1).f0)) ∧ w'.cell? ⟨(ad123.add ((x5_1).toNat * 2)).block, (ad123.add ((x5_1).toNat * 2)).off + 1, none⟩ = some (.int .i64 ((rd_T31 l0 x5_1).f1)) ∧ w'.cell? (ad124.add ((x5_1).toNat * 2)) = some (.int .i64 ((rd_T31 l1 x5_1).f0)) ∧ w'.cell? ⟨(ad124.add ((x5_1).toNat * 2)).block, (ad124.add ((x5_1).toNat * 2)).off + 1, none⟩ = some (.int .i64 ((rd_T31 l1 x5_1).f1))) (ds := []) #[false, false, false, false, false, false, false, false, false, false] (by kernel_rfl) rfl rfl ⟨((HB.out.cell (World.block_lt_of_cell? w _ hw123_0)).trans hw123_0), ((HB.out.cell (World.block_lt_of_cell? w _ hw123_1)).trans hw123_1), ((HB.out.cell (World.block_lt_of_cell? w _ hw124_0)).trans hw124_0), ((HB.out.cell (World.block_lt_of_cell? w _ hw124_1)).trans hw124_1)⟩ (fun hHeld => ?_); refine with_tabW laws_eqFractionS.tab6 laws_eqFractionS.bits6 (fun HT_ HW_ => ?_)
     generalize wr.drew = w11 at HB hx123_0 hx123_1 hx124_0 hx124_1 hHeld ⊢
     refine sqP (i := 0) (N := some 17) (h := ?_)
     refine sqP (i := 1) (N := some 18) (h := ?_)
     refine sqP (i := 2) (N := some 19) (h := ?_)
     refine sqP (i := 4) (N := some 21) (h := ?_)
     refine sqP (i := 5) (N := some 22) (h := ?_)
     refine sqP (i := 6) (N := some 23) (h := ?_)
     refine sqQ (i := 3) (N := some 20) hHeld (h := ?_)
     refine sqQ (i := 7) (N := some 24) hHeld (h := ?_)
     refine one_ (i := 8) (N := some 25) #[true, true, true, true, true, true, true, true, true, false] rfl rfl (one_of HT_.out (by kernel_rfl)) (by decide) (fun K hK => ?_)
     refine goes_ Tryz.func62 (by kernel_rfl) rfl #[.agg #[.int .i64 ((rd_T31 l0 x5_1).f0), .int .i64 ((rd_T31 l0 x5_1).f1)], .agg #[.int .i64 ((rd_T31 l1 x5_1).f0), .int .i64 ((rd_T31 l1 x5_1).f1)]] (by rfl) rfl rfl sqA ?_
     with_reducible refine (laws_eqFraction.calls ((rd_T31 l0 x5_1).f0) ((rd_T31 l0 x5_1).f1) ((rd_T31 l1 x5_1).f0) ((rd_T31 l1 x5_1).f1) false _ A7.out).mono ?_
     rintro e w12 ⟨rfl, hb⟩
     refine ⟨_, rfl, ?_⟩
     replace HB := sqS (sqB HB) hb
     (try clear hb)
     (try clear hb2)
     (try clear hk)
     (try clear hi)
     refine hK.out _ _ ⟨((HB.out.cell (World.block_lt_of_cell? w _ hw123_0)).trans hw123_0), ((HB.out.cell (World.block_lt_of_cell? w _ hw123_1)).trans hw123_1), ((HB.out.cell (World.block_lt_of_cell? w _ hw124_0)).trans hw124_0), ((HB.out.cell (World.block_lt_of_cell? w _ hw124_1)).trans hw124_1)⟩ (fun hHeld => ?_)
     clear hK K
     refine sqN (some 25) ?_
     refine sqP (i := 9) (N := some 26) (h := ?_)
     refine done_ (done_of HT_.out (by kernel_rfl)) ?_
     try go_wp2
     go_ret
     exact ⟨Z6, sqB HB⟩
    rw [if_neg c4] at H
    have c4b0 : decide (x5_1 < (l0.length : Int)) = false := decide_eq_false c4
    clear c4
    obtain rfl := Option.some.inj H
    go_wp2
    go_ret
    exact ⟨Z6, sqB HB⟩
 rw [if_neg c3] at H
 have c3b0 : ((l0.length : Int) == (l1.length : Int)) = false := beq_eq_false_iff_ne.mpr c3
 have c3b1 : ((l0.length : Int) != (l1.length : Int)) = true := bne_iff_ne.mpr c3
 have c3b2 : (l0.length == l1.length) = false := by first | simpa using c3 | (simp at c3 ⊢; omega)
 obtain rfl := Option.some.inj H
 go_enter Tryz.func63, Tryz.ntmps63
 go_wp2
 go_ret
 exact ⟨Z6, sqB HB⟩

/-! ### laws_eqDesk: function 18 -/
def laws_eqDesk.f (k : Nat) (a0_0 : Int) (a0_1 : Int) (l0_2 : List (S31)) (a1_0 : Int) (a1_1 : Int) (l1_2 : List (S31)) : Option (Bool) := (laws_eqFraction.f a0_0 a0_1 a1_0 a1_1).bind fun t128 => (if t128 = true then ((laws_eqFractionS.f k l0_2 l1_2).bind fun t129 => (if t129 = true then (some true) else (some false))) else (some false))
theorem laws_eqDesk.mono : ∀ a0 a1 a2 a3 a4 a5 k, LeO (laws_eqDesk.f k a0 a1 a2 a3 a4 a5) (laws_eqDesk.f (k + 1) a0 a1 a2 a3 a4 a5) := by
 intro a0 a1 a2 a3 a4 a5 k
 unfold laws_eqDesk.f
 repeat' (with_reducible first | exact laws_eqFractionS.mono _ _ _ | exact LeO.refl _ | exact LeO.none _ | refine LeO.ite ?_ ?_ | refine LeO.bind ?_ fun _ => ?_)
set_option maxHeartbeats 8000000 in
set_option maxRecDepth 100000 in
theorem laws_eqDesk.calls (k : Nat) (a0_0 : Int) (a0_1 : Int) (A0_2 : Option Addr) (c0_2 : Nat) (l0_2 : List (S31)) (a1_0 : Int) (a1_1 : Int) (A1_2 : Option Addr) (c1_2 : Nat) (l1_2 : List (S31)) (r : Bool) (w : World) (hr0_2 : Kd.C k31 w A0_2 l0_2.length l0_2) (hc0_2 : l0_2.length ≤ c0_2) (hr1_2 : Kd.C k31 w A1_2 l1_2.length l1_2) (hc1_2 : l1_2.length ≤ c1_2) (h : laws_eqDesk.f k a0_0 a0_1 l0_2 a1_0 a1_1 l1_2 = some r) :
  Calls Tryz.prog 18 #[.agg #[.int .i64 a0_0, .int .i64 a0_1, .slice A0_2 l0_2.length c0_2], .agg #[.int .i64 a1_0, .int .i64 a1_1, .slice A1_2 l1_2.length c1_2]] w fun e w' => e = .returned (.bool r) ∧ Below w.heap.size w w' := by
 have hu34 := Tryz.underlying34
 have hu31 := Tryz.underlying31
 have HR0_2 := Aside0.mk hr0_2
 have HC0_2 := Aside0.mk hc0_2
 clear hr0_2 hc0_2
 have HR1_2 := Aside0.mk hr1_2
 have HC1_2 := Aside0.mk hc1_2
 clear hr1_2 hc1_2
 have HB := Aside0.mk (Below.refl w.heap.size w)
 unfold laws_eqDesk.f at h
 have H := h
 clear h
 obtain ⟨t128, A3, H⟩ := sqD H
 by_cases c4 : t128 = true
 ·subst c4
  rw [if_pos rfl] at H
  obtain ⟨t129, A5, H⟩ := sqD H
  by_cases c6 : t129 = true
  ·subst c6
   rw [if_pos rfl] at H
   obtain rfl := Option.some.inj H
   go_enter Tryz.func18, Tryz.ntmps18
   go_wp2_with (first | ((with_reducible refine gate_dst (N := 2) rfl ?_); refine sqBx w (sqB HB) (N := 2) (cs := #[.int .i64 a0_0, .int .i64 a0_1, .slice A0_2 l0_2.length c0_2]) (t := 34) ?_; intro gb126 hg w7 BK126 GE126 HB hb; clear hb hg) | ((with_reducible refine gate_dst (N := 3) rfl ?_); refine sqBx w (sqB1 HB GE126) (N := 3) (cs := #[.int .i64 a1_0, .int .i64 a1_1, .slice A1_2 l1_2.length c1_2]) (t := 34) ?_; intro gb127 hg w8 BK127 GE127 HB hb; obtain ⟨NB126_127, NB127_126⟩ := sqM hg BK126; replace BK126 := sqT BK126 hb; clear hb hg; have hnb9 := NB126_127.out; have hnc9 := NB127_126.out; obtain ⟨hcz10_0, hcz10_1, hcz10_2, hfz10_0, hfz10_1, hfz10_2⟩ := sqY3 BK126; obtain ⟨hcz11_0, hcz11_1, hcz11_2, hfz11_0, hfz11_1, hfz11_2⟩ := sqY3 BK127) | ((with_reducible refine gate_callee (f := 62) rfl ?_); refine sqC (some 9) Tryz.func62 #[.agg #[.int .i64 a0_0, .int .i64 a0_1], .agg #[.int .i64 a1_0, .int .i64 a1_1]] ?_; (with_reducible refine (laws_eqFraction.calls a0_0 a0_1 a1_0 a1_1 true _ A3.out).mono ?_); rintro e w12 ⟨rfl, hb⟩; refine ⟨_, rfl, ?_⟩; replace BK126 := sqT BK126 hb; replace BK127 := sqT BK127 hb; replace HB := sqS (sqB2 HB GE126 GE127) hb; (try clear hb); obtain ⟨hcz13_0, hcz13_1, hcz13_2, hfz13_0, hfz13_1, hfz13_2⟩ := sqY3 BK126; obtain ⟨hcz14_0, hcz14_1, hcz14_2, hfz14_0, hfz14_1, hfz14_2⟩ := sqY3 BK127) | ((with_reducible refine gate_callee (f := 63) rfl ?_); refine sqC (some 15) Tryz.func63 #[.slice A0_2 l0_2.length c0_2, .slice A1_2 l1_2.length c1_2] ?_; (with_reducible refine (laws_eqFractionS.calls k _ _ l0_2 _ _ l1_2 true _ ?side1 ?side2 ?side3 ?side4 A5.out).mono ?_); (case side1 => exact Z16); (case side2 => exact Z13); (case side3 => exact Z71); (case side4 => exact HC1_2.out); rintro e w15 ⟨rfl, hb⟩; refine ⟨_, rfl, ?_⟩; replace BK126 := sqT BK126 hb; replace BK127 := sqT BK127 hb; replace HB := sqS (sqB2 HB GE126 GE127) hb; (try clear hb)))
   go_ret
   exact ⟨Z6, sqB2 HB GE126 GE127⟩
  replace c6 := Bool.eq_false_iff.mpr c6
  subst c6
  rw [if_neg sqF] at H
  obtain rfl := Option.some.inj H
  go_enter Tryz.func18, Tryz.ntmps18
  go_wp2_with (first | ((with_reducible refine gate_dst (N := 2) rfl ?_); refine sqBx w (sqB HB) (N := 2) (cs := #[.int .i64 a0_0, .int .i64 a0_1, .slice A0_2 l0_2.length c0_2]) (t := 34) ?_; intro gb126 hg w16 BK126 GE126 HB hb; clear hb hg) | ((with_reducible refine gate_dst (N := 3) rfl ?_); refine sqBx w (sqB1 HB GE126) (N := 3) (cs := #[.int .i64 a1_0, .int .i64 a1_1, .slice A1_2 l1_2.length c1_2]) (t := 34) ?_; intro gb127 hg w17 BK127 GE127 HB hb; obtain ⟨NB126_127, NB127_126⟩ := sqM hg BK126; replace BK126 := sqT BK126 hb; clear hb hg; have hnb18 := NB126_127.out; have hnc18 := NB127_126.out; obtain ⟨hcz19_0, hcz19_1, hcz19_2, hfz19_0, hfz19_1, hfz19_2⟩ := sqY3 BK126; obtain ⟨hcz20_0, hcz20_1, hcz20_2, hfz20_0, hfz20_1, hfz20_2⟩ := sqY3 BK127) | ((with_reducible refine gate_callee (f := 62) rfl ?_); refine sqC (some 9) Tryz.func62 #[.agg #[.int .i64 a0_0, .int .i64 a0_1], .agg #[.int .i64 a1_0, .int .i64 a1_1]] ?_; (with_reducible refine (laws_eqFraction.calls a0_0 a0_1 a1_0 a1_1 true _ A3.out).mono ?_); rintro e w21 ⟨rfl, hb⟩; refine ⟨_, rfl, ?_⟩; replace BK126 := sqT BK126 hb; replace BK127 := sqT BK127 hb; replace HB := sqS (sqB2 HB GE126 GE127) hb; (try clear hb); obtain ⟨hcz22_0, hcz22_1, hcz22_2, hfz22_0, hfz22_1, hfz22_2⟩ := sqY3 BK126; obtain ⟨hcz23_0, hcz23_1, hcz23_2, hfz23_0, hfz23_1, hfz23_2⟩ := sqY3 BK127) | ((with_reducible refine gate_callee (f := 63) rfl ?_); refine sqC (some 15) Tryz.func63 #[.slice A0_2 l0_2.length c0_2, .slice A1_2 l1_2.length c1_2] ?_; (with_reducible refine (laws_eqFractionS.calls k _ _ l0_2 _ _ l1_2 false _ ?side1 ?side2 ?side3 ?side4 A5.out).mono ?_); (case side1 => exact Z16); (case side2 => exact Z13); (case side3 => exact Z71); (case side4 => exact HC1_2.out); rintro e w24 ⟨rfl, hb⟩; refine ⟨_, rfl, ?_⟩; replace BK126 := sqT BK126 hb; replace BK127 := sqT BK127 hb; replace HB := sqS (sqB2 HB GE126 GE127) hb; (try clear hb)))
  go_ret
  exact ⟨Z6, sqB2 HB GE126 GE127⟩
 replace c4 := Bool.eq_false_iff.mpr c4
 subst c4
 rw [if_neg sqF] at H
 obtain rfl := Option.some.inj H
 go_enter Tryz.func18, Tryz.ntmps18
 go_wp2_with (first | ((with_reducible refine gate_dst (N := 2) rfl ?_); refine sqBx w (sqB HB) (N := 2) (cs := #[.int .i64 a0_0, .int .i64 a0_1, .slice A0_2 l0_2.length c0_2]) (t := 34) ?_; intro gb126 hg w25 BK126 GE126 HB hb; clear hb hg) | ((with_reducible refine gate_dst (N := 3) rfl ?_); refine sqBx w (sqB1 HB GE126) (N := 3) (cs := #[.int .i64 a1_0, .int .i64 a1_1, .slice A1_2 l1_2.length c1_2]) (t := 34) ?_; intro gb127 hg w26 BK127 GE127 HB hb; obtain ⟨NB126_127, NB127_126⟩ := sqM hg BK126; replace BK126 := sqT BK126 hb; clear hb hg; have hnb27 := NB126_127.out; have hnc27 := NB127_126.out; obtain ⟨hcz28_0, hcz28_1, hcz28_2, hfz28_0, hfz28_1, hfz28_2⟩ := sqY3 BK126; obtain ⟨hcz29_0, hcz29_1, hcz29_2, hfz29_0, hfz29_1, hfz29_2⟩ := sqY3 BK127) | ((with_reducible refine gate_callee (f := 62) rfl ?_); refine sqC (some 9) Tryz.func62 #[.agg #[.int .i64 a0_0, .int .i64 a0_1], .agg #[.int .i64 a1_0, .int .i64 a1_1]] ?_; (with_reducible refine (laws_eqFraction.calls a0_0 a0_1 a1_0 a1_1 false _ A3.out).mono ?_); rintro e w30 ⟨rfl, hb⟩; refine ⟨_, rfl, ?_⟩; replace BK126 := sqT BK126 hb; replace BK127 := sqT BK127 hb; replace HB := sqS (sqB2 HB GE126 GE127) hb; (try clear hb)))
 go_ret
 exact ⟨Z6, sqB2 HB GE126 GE127⟩

/-! ### laws_markFractionS: function 64 -/
def laws_markFractionS.l0 : Nat → List (S31) → Int → Int → Option (Int × (List (S31)))
 | 0, _, _, _ => none
 | k + 1, x0, x1, x5 => if x5 < (x0.length : Int) then (if 0 ≤ x5 then ((some (x0.set (x5 : Int).toNat (⟨x1, (rd_T31 x0 x5).f1⟩ : S31) : List (S31))).bind fun y130 => (laws_markFractionS.l0 k (y130.set (x5 : Int).toNat (⟨(rd_T31 y130 x5).f0, wrap64 (x1 + 1)⟩ : S31)) (wrap64 ((wrap64 (x1 + 1)) + 1)) (wrap64 (x5 + 1)))) else (none)) else (some (x1, x0))
def laws_markFractionS.f (k : Nat) (l0 : List (S31)) (a1 : Int) : Option (Int × (List (S31))) := laws_markFractionS.l0 k l0 a1 0
abbrev laws_markFractionS.M (k : Nat) : Prop := (∀ y0 y1 y2, LeO (laws_markFractionS.l0 k y0 y1 y2) (laws_markFractionS.l0 (k + 1) y0 y1 y2))
theorem laws_markFractionS.mono_t : ∀ k, laws_markFractionS.M k → laws_markFractionS.M (k + 1) ∧ ∀ a0 a1, LeO (laws_markFractionS.f k a0 a1) (laws_markFractionS.f (k + 1) a0 a1) := by
  rintro k ih0
  refine ⟨?_, ?_⟩ <;> (try unfold laws_markFractionS.M) <;> intros <;> (first | unfold laws_markFractionS.l0 | unfold laws_markFractionS.f) <;> repeat' (with_reducible first | exact ih0 _ _ _ | exact LeO.refl _ | exact LeO.none _ | refine LeO.ite ?_ ?_ | refine LeO.bind ?_ fun _ => ?_)
theorem laws_markFractionS.mono_l : ∀ k, laws_markFractionS.M k
 | 0 => fun _ _ _ r h => by simp [laws_markFractionS.l0] at h
 | k + 1 => (laws_markFractionS.mono_t k (laws_markFractionS.mono_l k)).1
theorem laws_markFractionS.mono a0 a1 k : LeO (laws_markFractionS.f k a0 a1) (laws_markFractionS.f (k + 1) a0 a1) := (laws_markFractionS.mono_t k (laws_markFractionS.mono_l k)).2 a0 a1
set_option maxHeartbeats 8000000 in
set_option maxRecDepth 100000 in
theorem laws_markFractionS.calls (k : Nat) (P0_ : Nat → Prop) (u9000_ : Value) (l0 : List (S31)) (a1 : Int) (r1 : Int) (r2 : List (S31)) (w0 w : World) (hB : Below w0.heap.size w0 w) (ho0 : Kd.R k31 31 w w0.heap.size P0_ u9000_ l0) (h : laws_markFractionS.f k l0 a1 = some (r1, r2)) :
  Calls Tryz.prog 64 #[u9000_, .int .i64 a1] w fun e w' => e = .returned (.int .i64 r1) ∧ Kd.R k31 31 w' w0.heap.size (fun k_ => (P0_ k_ ∨ w.heap.size ≤ k_)) u9000_ r2 ∧ Below w0.heap.size w0 w' ∧ Kept w w' (fun k_ => P0_ k_) := by
 have HO0 := Aside0.mk (show Kd.R k31 31 w w0.heap.size (fun k_ => (P0_ k_ ∨ w.heap.size ≤ k_)) u9000_ l0 from Kd.R_mono ho0 (fun k_ hk => (.inl hk)))
 have HK := Aside0.mk (Kept.refl w (fun k_ => P0_ k_))
 have HW0 := Aside0.mk hB.size
 have HB := Aside0.mk hB
 clear hB
 unfold laws_markFractionS.f at h
 have H := h
 clear h
 have H' := Aside0.mk H
 clear H
 go_enter Tryz.func64, Tryz.ntmps64
 go_wp2
 go_loopg [1, 5] k (fun kq v1 v5 w' => ∃ (x0_1 : List (S31)) (x1_1 : Int) (x5_1 : Int), v1 = .int .i64 x1_1 ∧ v5 = .int .i64 x5_1 ∧ Aside0 (laws_markFractionS.l0 kq x0_1 x1_1 x5_1 = some (r1, r2)) ∧ Aside0 (kq ≤ k) ∧ Aside0 (Kd.R k31 31 w' w0.heap.size (fun k_ => (P0_ k_ ∨ w.heap.size ≤ k_)) u9000_ x0_1) ∧ Aside0 (Kept w w' (fun k_ => P0_ k_)) ∧ Aside0 (Below w0.heap.size w0 w'))
 case atStart => exact ⟨(l0), (a1), (0), Z2, Z2, H', ⟨Nat.le_refl _⟩, ⟨sqR HO0⟩, ⟨Z72⟩, ⟨sqB HB⟩⟩
 case round =>
  clear H'
  obtain ⟨x0_1, x1_1, x5_1, rfl, rfl, HA, HK1, HO_0, HK, HB⟩ := hrel
  cases gk with
  | zero => exact absurd HA.out (by simp [laws_markFractionS.l0])
  | succ k1 =>
   have H := HA.out
   clear HA
   simp only [laws_markFractionS.l0] at H
   by_cases c3 : x5_1 < (x0_1.length : Int)
   ·rw [if_pos c3] at H
    have c3b0 : decide (x5_1 < (x0_1.length : Int)) = true := decide_eq_true c3
    clear c3
    obtain ⟨c4, H⟩ := sqI H
    have c4b0 : decide (0 ≤ x5_1) = true := decide_eq_true c4
    clear c4
    obtain ⟨y130, hy130⟩ : ∃ y_ : List (S31), y_ = (x0_1.set (x5_1 : Int).toNat (⟨x1_1, (rd_T31 x0_1 x5_1).f1⟩ : S31)) := ⟨_, rfl⟩
    replace H : (laws_markFractionS.l0 k1 (y130.set (x5_1 : Int).toNat (⟨(rd_T31 y130 x5_1).f0, wrap64 (x1_1 + 1)⟩ : S31)) (wrap64 ((wrap64 (x1_1 + 1)) + 1)) (wrap64 (x5_1 + 1))) = some (r1, r2) := sqW hy130 H
    have Ny130 := Aside0.mk hy130
    clear hy130
    obtain ⟨y131, hy131⟩ : ∃ y_ : List (S31), y_ = (y130.set (x5_1 : Int).toNat (⟨(rd_T31 y130 x5_1).f0, wrap64 (x1_1 + 1)⟩ : S31)) := ⟨_, rfl⟩
    replace H : (laws_markFractionS.l0 k1 y131 (wrap64 ((wrap64 (x1_1 + 1)) + 1)) (wrap64 (x5_1 + 1))) = some (r1, r2) := sqW hy131 H
    have Ny131 := Aside0.mk hy131
    clear hy131
    have H' := Aside0.mk H
    clear H
    obtain ⟨Ao7, co7, eo7⟩ := Kd.R_slice HO_0.out
    subst eo7
    have p5 : 0 ≤ (x5_1 : Int) := of_decide_eq_true Z20
    have q5 : (x5_1 : Int) < ((x0_1.length : Int) : Int) := of_decide_eq_true Z20
    obtain ⟨go5, co5, eo5, gb5, gl5, cl5, HG5⟩ := Kd.R_form HO_0.out (by omega)
    (first | cases eo5 | (injection eo5 with ea_ en_ ec_; (first | subst ea_ | (injection ea_ with ea_; subst ea_)); subst ec_; clear en_))
    have GB5 := Aside0.mk gb5
    have GG5 := Aside0.mk HG5
    clear gb5 gl5 HG5
    have HMgo5 := Aside0.mk (show (P0_ go5 ∨ w.heap.size ≤ go5) from (HO_0.out.1 _ rfl))
    obtain ⟨ce5, hcl5, hM5, hcc5, hfr5⟩ := Kd.R_elem HO_0.out z31 (x5_1 : Int) p5 q5
    obtain rfl := k31_openM hM5
    have hx5_0 : wr.cell? ⟨go5, (x5_1 : Int).toNat * 2, none⟩ = some (.int .i64 ((rd_T31 x0_1 x5_1).f0)) := hcc5 0 _ rfl
    have hx5_1 : wr.cell? ⟨go5, (x5_1 : Int).toNat * 2 + 1, none⟩ = some (.int .i64 ((rd_T31 x0_1 x5_1).f1)) := hcc5 1 _ rfl
    have hf5_0 : wr.frozen? ⟨go5, (x5_1 : Int).toNat * 2, none⟩ = false := hfr5 0
    have hf5_1 : wr.frozen? ⟨go5, (x5_1 : Int).toNat * 2 + 1, none⟩ = false := hfr5 1
    clear hcl5 hcc5 hfr5 hM5
    replace p5 := eq_true p5
    replace q5 := eq_true q5
    have HX8 := Aside0.mk (show Kd.R k31 31 wr w0.heap.size (fun k_ => (P0_ k_ ∨ w.heap.size ≤ k_)) (.slice (some ⟨go5, 0, none⟩) x0_1.length co7) x0_1 from (sqR HO_0))
    obtain ⟨ce8, hcl8, hM8, hcc8, hfr8⟩ := Kd.R_elem HX8.out z31 (x5_1 : Int) (of_decide_eq_true Z20) (by have h_ : (x5_1 : Int) < ((x0_1.length : Int) : Int) := of_decide_eq_true Z20; first | exact h_ | (have e_ := (Kd.R_reads' HO_0.out).1; omega) | simpa using h_)
    obtain rfl := k31_openM hM8
    have HP8 := Kd.R_seg HX8.out (x5_1 : Int) (of_decide_eq_true Z20) (by have h_ : (x5_1 : Int) < ((x0_1.length : Int) : Int) := of_decide_eq_true Z20; first | exact h_ | (have e_ := (Kd.R_reads' HO_0.out).1; omega) | simpa using h_) (seg := [.int .i64 x1_1]) (j := 0) hcl8 hcc8 (show 1 ≤ 2 from by decide) (x' := (⟨x1_1, (rd_T31 x0_1 x5_1).f1⟩ : S31)) (k31_mkM _ _ _ (⟨x1_1, (rd_T31 x0_1 x5_1).f1⟩ : S31) ) (fun _ hk => hk)
    have hx8_0 := hcc8 0 _ rfl
    (try simp only [show (k31).sz = 2 from rfl, Nat.mul_one, Nat.add_zero] at hx8_0)
    have hf8_0 := hfr8 0
    (try simp only [show (k31).sz = 2 from rfl, Nat.mul_one, Nat.add_zero] at hf8_0)
    clear hcl8 hcc8 hfr8 hM8
    go_wp2_with (first | ((with_reducible refine gate_store (t := 3) (p := 16) rfl ?_); refine store_event (t := 3) (p := 16) (v := ?vo_w9) (w1 := (wr.setCell ⟨go5, (x5_1 : Int).toNat * 2, none⟩ (.int .i64 x1_1))) ?hg ?ho ?hn ?hr ?_; (case ho => rfl); (case hg => rfl); (case hn => rfl); (case hr => exact Z21); intro w9 hw; have hg : wr.grownBy w9 (some go5) := (by rw [hw]; exact HP8.2); have hp_ : Kd.R k31 31 w9 w0.heap.size (fun k_ => (P0_ k_ ∨ w.heap.size ≤ k_)) (.slice (some ⟨go5, 0, none⟩) x0_1.length co7) y130 := (by rw [hw, Ny130.out]; exact HP8.1); clear HP8; replace HB := Aside0.mk ((by rw [hw]; exact below_set (HB.out) GB5.out : Below w0.heap.size w0 w9)); replace HK := Aside0.mk (Kept.of_grown (S := (fun k_ => P0_ k_)) hg Z72 (fun k_ e_ => (HO_0.out.1 k_ e_))); replace HO_0 := Aside0.mk (hp_); clear hg hw hp_; have p6 : 0 ≤ (x5_1 : Int) := of_decide_eq_true Z20; have q6 : (x5_1 : Int) < ((x0_1.length : Int) : Int) := of_decide_eq_true Z20; obtain ⟨ce6, hcl6, hM6, hcc6, hfr6⟩ := Kd.R_elem HO_0.out z31 (x5_1 : Int) p6 q6; obtain rfl := k31_openM hM6; have hx6_0 : w9.cell? ⟨go5, (x5_1 : Int).toNat * 2, none⟩ = some (.int .i64 ((rd_T31 y130 x5_1).f0)) := hcc6 0 _ rfl; have hx6_1 : w9.cell? ⟨go5, (x5_1 : Int).toNat * 2 + 1, none⟩ = some (.int .i64 ((rd_T31 y130 x5_1).f1)) := hcc6 1 _ rfl; have hf6_0 : w9.frozen? ⟨go5, (x5_1 : Int).toNat * 2, none⟩ = false := hfr6 0; have hf6_1 : w9.frozen? ⟨go5, (x5_1 : Int).toNat * 2 + 1, none⟩ = false := hfr6 1; clear hcl6 hcc6 hfr6 hM6; replace p6 := eq_true p6; replace q6 := eq_true q6; have HX10 := Aside0.mk (show Kd.R k31 31 w9 w0.heap.size (fun k_ => (P0_ k_ ∨ w.heap.size ≤ k_)) (.slice (some ⟨go5, 0, none⟩) x0_1.length co7) y130 from (sqR HO_0)); obtain ⟨ce10, hcl10, hM10, hcc10, hfr10⟩ := Kd.R_elem HX10.out z31 (x5_1 : Int) (of_decide_eq_true Z20) (by have h_ : (x5_1 : Int) < ((x0_1.length : Int) : Int) := of_decide_eq_true Z20; first | exact h_ | (have e_ := (Kd.R_reads' HO_0.out).1; omega) | simpa using h_); obtain rfl := k31_openM hM10; have HP10 := Kd.R_seg HX10.out (x5_1 : Int) (of_decide_eq_true Z20) (by have h_ : (x5_1 : Int) < ((x0_1.length : Int) : Int) := of_decide_eq_true Z20; first | exact h_ | (have e_ := (Kd.R_reads' HO_0.out).1; omega) | simpa using h_) (seg := [.int .i64 (wrap64 (x1_1 + 1))]) (j := 1) hcl10 hcc10 (show 2 ≤ 2 from by decide) (x' := (⟨(rd_T31 y130 x5_1).f0, wrap64 (x1_1 + 1)⟩ : S31)) (k31_mkM _ _ _ (⟨(rd_T31 y130 x5_1).f0, wrap64 (x1_1 + 1)⟩ : S31) ) (fun _ hk => hk); have hx10_1 := hcc10 1 _ rfl; (try simp only [show (k31).sz = 2 from rfl, Nat.mul_one, Nat.add_zero] at hx10_1); have hf10_1 := hfr10 1; (try simp only [show (k31).sz = 2 from rfl, Nat.mul_one, Nat.add_zero] at hf10_1); clear hcl10 hcc10 hfr10 hM10) | ((with_reducible refine gate_store (t := 3) (p := 23) rfl ?_); refine store_event (t := 3) (p := 23) (v := ?vo_w11) (w1 := (w9.setCell ⟨go5, (x5_1 : Int).toNat * 2 + 1, none⟩ (.int .i64 (wrap64 (x1_1 + 1))))) ?hg ?ho ?hn ?hr ?_; (case ho => rfl); (case hg => rfl); (case hn => rfl); (case hr => exact Z21); intro w11 hw; have hg : w9.grownBy w11 (some go5) := (by rw [hw]; exact HP10.2); have hp_ : Kd.R k31 31 w11 w0.heap.size (fun k_ => (P0_ k_ ∨ w.heap.size ≤ k_)) (.slice (some ⟨go5, 0, none⟩) x0_1.length co7) y131 := (by rw [hw, Ny131.out]; exact HP10.1); clear HP10; replace HB := Aside0.mk ((by rw [hw]; exact below_set (HB.out) GB5.out : Below w0.heap.size w0 w11)); replace HK := Aside0.mk (Kept.of_grown (S := (fun k_ => P0_ k_)) hg Z72 (fun k_ e_ => (HO_0.out.1 k_ e_))); replace HO_0 := Aside0.mk (hp_); clear hg hw hp_))
    go_roundg k1
    case measure => have := HK1.out; omega
    case rel => exact ⟨(y131), (wrap64 ((wrap64 (x1_1 + 1)) + 1)), (wrap64 (x5_1 + 1)), Z2, Z2, H', ⟨Z3 HK1⟩, ⟨sqR HO_0⟩, ⟨Z72⟩, ⟨sqB HB⟩⟩
   rw [if_neg c3] at H
   have c3b0 : decide (x5_1 < (x0_1.length : Int)) = false := decide_eq_false c3
   clear c3
   obtain ⟨rfl, rfl⟩ := sqO2 H
   obtain ⟨Ao12, co12, eo12⟩ := Kd.R_slice HO_0.out
   subst eo12
   go_wp2
   go_ret
   exact ⟨Z6, Z35 HO_0, sqB HB, Z72⟩

end Go.Proofs.YtofmlbgfcohhoaaGreatDoor.PFnExactDeskLine
