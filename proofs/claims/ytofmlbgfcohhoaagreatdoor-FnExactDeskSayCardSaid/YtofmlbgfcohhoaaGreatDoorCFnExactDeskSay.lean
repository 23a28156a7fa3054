/- The walk of the law FnExactDeskSay, for the answer true: turned by a program of this session from the printed walk. -/
import Derived.Test.YtofmlbgfcohhoaaGreatDoorPFnExactDeskSayx15
import Derived.Test.YtofmlbgfcohhoaaGreatDoorPFnExactDeskSayx25
set_option maxHeartbeats 8000000
set_option maxRecDepth 100000
namespace Go.Proofs.YtofmlbgfcohhoaaGreatDoor.PFnExactDeskSay
open Go.RowKit Go.Proofs.YtofmlbgfcohhoaaGreatDoorW.PrintWords Go.Proofs.YtofmlbgfcohhoaaGreatDoorW.PrintLast Go.Proofs.YtofmlbgfcohhoaaGreatDoorW.PrintMore Go.Proofs.YtofmlbgfcohhoaaGreatDoor.Lib Go.Proofs.Tryz
attribute [local go_sem] max2_int min2_int max_two min_two max_three min_three max_four min_four   -- for this text's walks alone
set_option linter.unusedVariables false
set_option linter.unusedSimpArgs false

/-! ### laws_FnExactDeskSay: function 10 -/
mutual
def laws_FnExactDeskSay.j0 : Nat → List ByteArray → List ByteArray → List ByteArray → List ByteArray → Bool → Int → Int → List (S23) → Int → Int → List (S31) → Int → Int → List (S31) → Int → Int → List (S31) → Option (Bool)
 | 0, _, _, _, _, _, _, _, _, _, _, _, _, _, _, _, _, _ => none
 | k + 1, x1, x7, x9, x11, x54, x0, x2, x3, x4, x5, x6, x8, x10, x12, x13, x14, x15 => if x54 = true then (some false) else ((laws_toDesk.f k x0 x2 x3).bind fun bt0 => ((laws_eqDesk.f k x8 x10 x12 bt0.1 bt0.2.1 bt0.2.2).bind fun t0 => (if t0 = true then ((laws_toStringS.f k x1).bind fun t1 => ((laws_eqStringS.f k x9 t1).bind fun t2 => (if t2 = true then ((laws_markDesk.f k x8 x10 x12 1).bind fun bt1 => ((laws_markStringS.f k x9 bt1.1).bind fun bt2 => (if bt2.1 < 0 then (laws_FnExactDeskSay.j1 k x1 x7 x11 true x0 x2 x3 x4 x5 x6 x13 x14 x15) else ((laws_eqDesk.f k x13 x14 x15 x4 x5 x6).bind fun t3 => (if t3 = true then ((laws_eqStringS.f k x11 x7).bind fun t4 => (laws_FnExactDeskSay.j1 k x1 x7 x11 (!t4) x0 x2 x3 x4 x5 x6 x13 x14 x15)) else (laws_FnExactDeskSay.j1 k x1 x7 x11 true x0 x2 x3 x4 x5 x6 x13 x14 x15)))))) else (some false)))) else (some false))))
def laws_FnExactDeskSay.j1 : Nat → List ByteArray → List ByteArray → List ByteArray → Bool → Int → Int → List (S23) → Int → Int → List (S31) → Int → Int → List (S31) → Option (Bool)
 | 0, _, _, _, _, _, _, _, _, _, _, _, _, _ => none
 | k + 1, x1, x7, x11, x84, x0, x2, x3, x4, x5, x6, x8, x9, x10 => if x84 = true then (some false) else ((laws_markDesk.f k x8 x9 x10 1).bind fun bt0 => ((laws_markStringS.f k x11 bt0.1).bind fun bt1 => ((laws_heldDesk.f k x8 x9 bt0.2 1).bind fun t0 => (if t0 < 0 then (some false) else ((laws_heldStringS.f k bt1.2 t0).bind fun t1 => (if t1 < 0 then (some false) else (if t1 = bt1.1 then ((laws_toDesk.f k x0 x2 x3).bind fun bt2 => ((laws_toStringS.f k x1).bind fun t2 => ((impl_DeskSay.f k bt2.1 bt2.2.1 bt2.2.2 t2).bind fun bt3 => ((laws_eqDesk.f k bt3.1 bt3.2.1 bt3.2.2.1 x4 x5 x6).bind fun t3 => (if t3 = true then ((laws_eqStringS.f k bt3.2.2.2 x7).bind fun t4 => (laws_FnExactDeskSay.j2 k bt1.2 bt1.1 (!t4) x8 x9 bt0.2)) else (laws_FnExactDeskSay.j2 k bt1.2 bt1.1 true x8 x9 bt0.2)))))) else (some false))))))))
def laws_FnExactDeskSay.j2 : Nat → List ByteArray → Int → Bool → Int → Int → List (S31) → Option (Bool)
 | 0, _, _, _, _, _, _ => none
 | k + 1, x11, x13, x0, x1, x2, x3 => if x0 = true then (some false) else ((laws_heldDesk.f k x1 x2 x3 1).bind fun t0 => (if t0 < 0 then (some false) else ((laws_heldStringS.f k x11 t0).bind fun t1 => (if t1 < 0 then (some false) else (if t1 = x13 then (some true) else (some false))))))
end
def laws_FnExactDeskSay.f (k : Nat) (a0_0 : Int) (a0_1 : Int) (l0_2 : List (S23)) (l1 : List ByteArray) : Option (Bool) := (laws_szDesk.f a0_0 a0_1 l0_2 1048576).bind fun t0 => (if t0 < 0 then (some true) else ((laws_szStringS.f k l1 t0).bind fun t1 => (if t1 < 0 then (some true) else ((laws_toDesk.f k a0_0 a0_1 l0_2).bind fun bt0 => ((laws_toStringS.f k l1).bind fun t2 => ((spec_DeskSay.f k bt0.1 bt0.2.1 bt0.2.2 t2).bind fun bt1 => ((laws_toDesk.f k a0_0 a0_1 l0_2).bind fun bt2 => ((laws_toStringS.f k l1).bind fun t3 => ((impl_DeskSay.f k bt2.1 bt2.2.1 bt2.2.2 t3).bind fun bt3 => ((laws_eqDesk.f k bt3.1 bt3.2.1 bt3.2.2.1 bt1.1 bt1.2.1 bt1.2.2.1).bind fun t4 => (if t4 = true then ((laws_eqStringS.f k bt3.2.2.2 bt1.2.2.2).bind fun t5 => (laws_FnExactDeskSay.j0 k l1 bt1.2.2.2 t3 bt3.2.2.2 (!t5) a0_0 a0_1 l0_2 bt1.1 bt1.2.1 bt1.2.2.1 bt2.1 bt2.2.1 bt2.2.2 bt3.1 bt3.2.1 bt3.2.2.1)) else (laws_FnExactDeskSay.j0 k l1 bt1.2.2.2 t3 bt3.2.2.2 true a0_0 a0_1 l0_2 bt1.1 bt1.2.1 bt1.2.2.1 bt2.1 bt2.2.1 bt2.2.2 bt3.1 bt3.2.1 bt3.2.2.1))))))))))))
abbrev laws_FnExactDeskSay.M (k : Nat) : Prop := (∀ y0 y1 y2 y3 y4 y5 y6 y7 y8 y9 y10 y11 y12 y13 y14 y15 y16, LeO (laws_FnExactDeskSay.j0 k y0 y1 y2 y3 y4 y5 y6 y7 y8 y9 y10 y11 y12 y13 y14 y15 y16) (laws_FnExactDeskSay.j0 (k + 1) y0 y1 y2 y3 y4 y5 y6 y7 y8 y9 y10 y11 y12 y13 y14 y15 y16)) ∧ (∀ y0 y1 y2 y3 y4 y5 y6 y7 y8 y9 y10 y11 y12, LeO (laws_FnExactDeskSay.j1 k y0 y1 y2 y3 y4 y5 y6 y7 y8 y9 y10 y11 y12) (laws_FnExactDeskSay.j1 (k + 1) y0 y1 y2 y3 y4 y5 y6 y7 y8 y9 y10 y11 y12)) ∧ (∀ y0 y1 y2 y3 y4 y5, LeO (laws_FnExactDeskSay.j2 k y0 y1 y2 y3 y4 y5) (laws_FnExactDeskSay.j2 (k + 1) y0 y1 y2 y3 y4 y5))
theorem laws_FnExactDeskSay.mono_t : ∀ k, laws_FnExactDeskSay.M k → laws_FnExactDeskSay.M (k + 1) ∧ ∀ a0 a1 a2 a3, LeO (laws_FnExactDeskSay.f k a0 a1 a2 a3) (laws_FnExactDeskSay.f (k + 1) a0 a1 a2 a3) := by
  rintro k ⟨ih0, ih1, ih2⟩
  refine ⟨⟨?_, ?_, ?_⟩, ?_⟩ <;> intros <;> (first | unfold laws_FnExactDeskSay.j0 | unfold laws_FnExactDeskSay.j1 | unfold laws_FnExactDeskSay.j2 | unfold laws_FnExactDeskSay.f) <;> repeat' (with_reducible first | exact ih0 _ _ _ _ _ _ _ _ _ _ _ _ _ _ _ _ _ | exact ih1 _ _ _ _ _ _ _ _ _ _ _ _ _ | exact ih2 _ _ _ _ _ _ | exact impl_DeskSay.mono _ _ _ _ _ | exact laws_eqDesk.mono _ _ _ _ _ _ _ | exact laws_eqStringS.mono _ _ _ | exact laws_heldDesk.mono _ _ _ _ _ | exact laws_heldStringS.mono _ _ _ | exact laws_markDesk.mono _ _ _ _ _ | exact laws_markStringS.mono _ _ _ | exact laws_szStringS.mono _ _ _ | exact laws_toDesk.mono _ _ _ _ | exact laws_toStringS.mono _ _ | exact spec_DeskSay.mono _ _ _ _ _ | exact LeO.refl _ | exact LeO.none _ | refine LeO.ite ?_ ?_ | refine LeO.bind ?_ fun _ => ?_)
theorem laws_FnExactDeskSay.mono_l : ∀ k, laws_FnExactDeskSay.M k
 | 0 => ⟨fun _ _ _ _ _ _ _ _ _ _ _ _ _ _ _ _ _ r h => by simp [laws_FnExactDeskSay.j0] at h, fun _ _ _ _ _ _ _ _ _ _ _ _ _ r h => by simp [laws_FnExactDeskSay.j1] at h, fun _ _ _ _ _ _ r h => by simp [laws_FnExactDeskSay.j2] at h⟩
 | k + 1 => (laws_FnExactDeskSay.mono_t k (laws_FnExactDeskSay.mono_l k)).1
theorem laws_FnExactDeskSay.mono a0 a1 a2 a3 k : LeO (laws_FnExactDeskSay.f k a0 a1 a2 a3) (laws_FnExactDeskSay.f (k + 1) a0 a1 a2 a3) := (laws_FnExactDeskSay.mono_t k (laws_FnExactDeskSay.mono_l k)).2 a0 a1 a2 a3
theorem laws_FnExactDeskSay.calls (k : Nat) (a0_0 : Int) (a0_1 : Int) (A0_2 : Option Addr) (c0_2 : Nat) (l0_2 : List (S23)) (A1 : Option Addr) (c1 : Nat) (l1 : List ByteArray) (r : Bool) (w : World) (hG : Glob w) (hr0_2 : Kd.C k23 w A0_2 l0_2.length l0_2) (hc0_2 : l0_2.length ≤ c0_2) (hr1 : Kd.C Kd.string w A1 l1.length l1) (hc1 : l1.length ≤ c1) (hT : Aside0 (r = true)) (H : laws_FnExactDeskSay.f k a0_0 a0_1 l0_2 l1 = some r) :
  Calls prog 10 #[.agg #[.int .i64 a0_0, .int .i64 a0_1, .slice A0_2 l0_2.length c0_2], .slice A1 l1.length c1] w fun e w' => e = .returned (.bool r) ∧ Below w.heap.size w w' := by
 have hu26 := underlying26
 have hu34 := underlying34
 have HR0_2 := sqa hr0_2
 have HC0_2 := sqa hc0_2
 clear hr0_2 hc0_2
 have HR1 := sqa hr1
 have HC1 := sqa hc1
 clear hr1 hc1
 have HB := sqh w
 unfold laws_FnExactDeskSay.f at H
 obtain ⟨t0, A3, H⟩ := sqD H
 by_cases c4 : t0 < 0
 ·rw [if_pos c4] at H
  have c4b0 : decide (t0 < 0) = true := decide_eq_true c4
  clear c4
  obtain rfl := sqo H
  go_enter func10, ntmps10
  go_wp2_with (first | ((with_reducible refine sqd 2 rfl ?_); refine sqBx w (sqB HB) (cs := #[.int .i64 a0_0, .int .i64 a0_1, .slice A0_2 l0_2.length c0_2]) (t := 26) ?_; intro g0 hg w5 B0 E0 HB hb; clear hb hg; obtain ⟨_, _, _, _, _, _⟩ := sqY3 B0) | ((with_reducible refine sqc 12 rfl ?_); refine sqC (some 19) func12 #[.agg #[.int .i64 a0_0, .int .i64 a0_1, .slice A0_2 l0_2.length c0_2], .int .i64 1048576] ?_; (with_reducible refine (laws_szDesk.calls a0_0 a0_1 _ _ l0_2 1048576 t0 _ ?side1 ?side2 A3.1).mono ?_); (case side1 => exact Z2); (case side2 => exact Z3); refine sqV fun w7 hb => ?_; replace B0 := sqT B0 hb; replace HB := sqS (sqB1 HB E0) hb; (try clear hb)))
  go_ret
  exact ⟨Z16, sqB1 HB E0⟩
 rw [if_neg c4] at H
 have c4b0 : decide (t0 < 0) = false := decide_eq_false c4
 clear c4
 obtain ⟨t1, A8, H⟩ := sqD H
 by_cases c9 : t1 < 0
 ·rw [if_pos c9] at H
  have c9b0 : decide (t1 < 0) = true := decide_eq_true c9
  clear c9
  obtain rfl := sqo H
  go_enter func10, ntmps10
  go_wp2_with (first | ((with_reducible refine sqd 2 rfl ?_); refine sqBx w (sqB HB) (cs := #[.int .i64 a0_0, .int .i64 a0_1, .slice A0_2 l0_2.length c0_2]) (t := 26) ?_; intro g0 hg w10 B0 E0 HB hb; clear hb hg; obtain ⟨_, _, _, _, _, _⟩ := sqY3 B0) | ((with_reducible refine sqc 12 rfl ?_); refine sqC (some 19) func12 #[.agg #[.int .i64 a0_0, .int .i64 a0_1, .slice A0_2 l0_2.length c0_2], .int .i64 1048576] ?_; (with_reducible refine (laws_szDesk.calls a0_0 a0_1 _ _ l0_2 1048576 t0 _ ?side1 ?side2 A3.1).mono ?_); (case side1 => exact Z2); (case side2 => exact Z3); refine sqV fun w12 hb => ?_; replace B0 := sqT B0 hb; replace HB := sqS (sqB1 HB E0) hb; (try clear hb)) | ((with_reducible refine sqc 45 rfl ?_); refine sqC (some 24) func45 #[.slice A1 l1.length c1, .int .i64 t0] ?_; (with_reducible refine (laws_szStringS.calls k _ _ l1 t0 t1 _ ?side1 ?side2 A8.1).mono ?_); (case side1 => exact Z71 HR1); (case side2 => exact HC1.1); rintro e w' ⟨rfl, ⟨nd, rfl⟩⟩; refine ⟨_, rfl, ?_⟩))
  go_ret
  exact ⟨Z16, sqB1 HB E0⟩
 rw [if_neg c9] at H
 have c9b0 : decide (t1 < 0) = false := decide_eq_false c9
 clear c9
 obtain ⟨⟨t2, t3, t759⟩, A13, H⟩ := sqD H
 try dsimp only at H
 obtain ⟨t4, A14, H⟩ := sqD H
 obtain ⟨⟨t5, t6, t767, t7⟩, A15, H⟩ := sqD H
 try dsimp only at H
 obtain ⟨⟨t8, t9, t776⟩, A16, H⟩ := sqD H
 try dsimp only at H
 obtain ⟨t10, A17, H⟩ := sqD H
 obtain ⟨⟨t783, t784, t785, t11⟩, A18, H⟩ := sqD H
 try dsimp only at H
 have HC19 := sqa H
 clear H
 go_enter func10, ntmps10
 go_upto_region 12 with (first | ((with_reducible refine sqd 2 rfl ?_); refine sqBx w (sqB HB) (cs := #[.int .i64 a0_0, .int .i64 a0_1, .slice A0_2 l0_2.length c0_2]) (t := 26) ?_; intro g0 hg w20 B0 E0 HB hb; clear hb hg; obtain ⟨_, _, _, _, _, _⟩ := sqY3 B0) | ((with_reducible refine sqc 12 rfl ?_); refine sqC (some 19) func12 #[.agg #[.int .i64 a0_0, .int .i64 a0_1, .slice A0_2 l0_2.length c0_2], .int .i64 1048576] ?_; (with_reducible refine (laws_szDesk.calls a0_0 a0_1 _ _ l0_2 1048576 t0 _ ?side1 ?side2 A3.1).mono ?_); (case side1 => exact Z2); (case side2 => exact Z3); refine sqV fun w22 hb => ?_; replace B0 := sqT B0 hb; replace HB := sqS (sqB1 HB E0) hb; (try clear hb)) | ((with_reducible refine sqc 45 rfl ?_); refine sqC (some 24) func45 #[.slice A1 l1.length c1, .int .i64 t0] ?_; (with_reducible refine (laws_szStringS.calls k _ _ l1 t0 t1 _ ?side1 ?side2 A8.1).mono ?_); (case side1 => exact Z71 HR1); (case side2 => exact HC1.1); rintro e w' ⟨rfl, ⟨nd, rfl⟩⟩; refine ⟨_, rfl, ?_⟩; (try (rw [drewN_self w22]; generalize hq_ : World.drewN w22 _ = w22; have n0_ : Aside0 (w22.heap[g0]? = some (.cells #[.int .i64 a0_0, .int .i64 a0_1, .slice A0_2 l0_2.length c0_2] 26 (0, 0))) := ⟨Z35 B0⟩; have n1_ : Aside0 (Below w.heap.size w w22) := ⟨Z72 E0⟩; clear B0 HB hq_; have B0 := n0_; have HB := n1_; clear n0_ n1_)); obtain ⟨_, _, _, _, _, _⟩ := sqY3 B0) | ((with_reducible refine sqc 15 rfl ?_); refine sqC (some 29) func15 #[.agg #[.int .i64 a0_0, .int .i64 a0_1, .slice A0_2 l0_2.length c0_2]] ?_; (with_reducible refine (laws_toDesk.calls k a0_0 a0_1 _ _ l0_2 t2 t3 t759 _ ?side1 ?side2 A13.1).mono ?_); (case side1 => exact Z2); (case side2 => exact Z3); rintro e w24 ⟨v0, rfl, ho0, hb⟩; refine ⟨_, rfl, ?_⟩; have O0 := sqL ho0 (sqB1 HB E0); replace B0 := sqT B0 hb; replace HB := sqS (sqB1 HB E0) hb; (try clear hb); (try clear ho0)) | ((with_reducible refine sqc 47 rfl ?_); refine sqC (some 31) func47 #[.slice A1 l1.length c1] ?_; (with_reducible refine (laws_toStringS.calls k _ _ l1 t4 _ ?side1 ?side2 A14.1).mono ?_); (case side1 => exact Z71 HR1); (case side2 => exact HC1.1); rintro e w25 ⟨v1, rfl, ho0, hb⟩; refine ⟨_, rfl, ?_⟩; replace O0 := sqU O0 hb; have O1 := sqL ho0 (sqB1 HB E0); replace B0 := sqT B0 hb; replace HB := sqS (sqB1 HB E0) hb; (try clear hb); (try clear ho0); obtain ⟨Ao26, co26, eo26⟩ := Kd.R_slice O0.1; subst eo26; obtain ⟨Ao27, co27, eo27⟩ := Kd.R_slice O1.1; subst eo27) | ((with_reducible refine sqc 46 rfl ?_); refine sqC (some 32) func46 #[.agg #[.int .i64 t2, .int .i64 t3, .slice Ao26 t759.length co26], .slice Ao27 t4.length co27] ?_; (with_reducible refine (spec_DeskSay.calls k t2 t3 _ _ t759 _ _ t4 t5 t6 t767 t7 _ ?side1 ?side2 ?side3 ?side4 A15.1).mono ?_); (case side1 => exact Z29 O0); (case side2 => exact Z30 O0); (case side3 => exact Z29 O1); (case side4 => exact Z30 O1); rintro e w28 ⟨v2, v3, rfl, ho0, ho1, hb⟩; refine ⟨_, rfl, ?_⟩; have O2 := sqa (Kd.Q_lower (Kd.Q_new' ho0 (Kd.R_lt (sqR O0))) (below_size (sqB1 HB E0))); replace O0 := sqa (Kd.R_elder' (sqR O0) (Kd.Q_base ho0) hb); have O3 := sqa (Kd.R_lower (Kd.R_new' ho1 (Kd.R_lt (sqR O1))) (below_size (sqB1 HB E0))); replace O1 := sqa (Kd.R_elder' (sqR O1) (Kd.R_base ho1) hb); replace B0 := sqT B0 hb; replace HB := sqS (sqB1 HB E0) hb; (try clear hb); (try clear ho0); (try clear ho1)) | ((with_reducible refine sqd 6 rfl ?_); refine sqBx w (sqB1 HB E0) (cs := #[.int .i64 0, .int .i64 0, .slice none 0 0]) (t := 34) ?_; intro g1 hg w29 B2 E1 HB hb; replace O0 := sqU O0 hb; replace O1 := sqU O1 hb; replace O2 := sqa (Kd.Q_below (Z12 O2) hb); replace O3 := sqU O3 hb; obtain ⟨N0, N1⟩ := sqM hg B0; replace B0 := sqT B0 hb; clear hb hg; have := N1.1; have := N0.1; obtain ⟨_, _, _, _, _, _⟩ := sqY3 B2; obtain ⟨Ao32, co32, eo32, _⟩ := Kd.Q_slice O2.1; subst eo32; obtain ⟨_, _, _, _, _, _⟩ := sqY3 B0) | ((with_reducible refine sqc 15 rfl ?_); refine sqC (some 36) func15 #[.agg #[.int .i64 a0_0, .int .i64 a0_1, .slice A0_2 l0_2.length c0_2]] ?_; (with_reducible refine (laws_toDesk.calls k a0_0 a0_1 _ _ l0_2 t8 t9 t776 _ ?side1 ?side2 A16.1).mono ?_); (case side1 => exact Kd.C_below HR0_2.1 (sqB2 HB E0 E1)); (case side2 => exact Z3); rintro e w34 ⟨v4, rfl, ho0, hb⟩; refine ⟨_, rfl, ?_⟩; replace O1 := sqa (Kd.R_below (Z73 O1 B2) hb); replace O3 := sqa (Kd.R_below (Z73 O3 B2) hb); have O4 := sqa (Kd.R_lower (Kd.R_new' (Kd.R_new' ho0 (Kd.R_lt (Z73 O0 B2))) (Kd.Q_lt (Z74 O2 B2))) (below_size (sqB2 HB E0 E1))); replace O0 := sqa (Kd.R_elder' (Z73 O0 B2) (Kd.R_base ho0) hb); replace O2 := sqa (Kd.Q_elder' (Z74 O2 B2) (Kd.R_base ho0) hb); replace B0 := sqH N0 B0 hb; replace B2 := sqa (blk_below (g := g1) (o := .cells #[.int .i64 t5, .int .i64 t6, .slice Ao32 t767.length co32] 34 (0, 0)) (by refine sqPut (cs := #[.int .i64 t5, .int .i64 t6, .slice none 0 0]) ?_ 2; refine sqPut (cs := #[.int .i64 t5, .int .i64 0, .slice none 0 0]) ?_ 1; refine sqPut (cs := #[.int .i64 0, .int .i64 0, .slice none 0 0]) ?_ 0; exact sqK B2) hb); replace HB := sqS (sqB2 HB E0 E1) hb; (try clear hb); (try clear ho0)) | ((with_reducible refine sqd 8 rfl ?_); refine sqBx w (sqB2 HB E0 E1) (cs := #[.int .i64 0, .int .i64 0, .slice none 0 0]) (t := 34) ?_; intro g2 hg w35 B9 E2 HB hb; replace O0 := sqU O0 hb; replace O1 := sqU O1 hb; replace O2 := sqa (Kd.Q_below (Z12 O2) hb); replace O3 := sqU O3 hb; replace O4 := sqU O4 hb; obtain ⟨N2, N3⟩ := sqM hg B0; replace B0 := sqT B0 hb; obtain ⟨N4, N5⟩ := sqM hg B2; replace B2 := sqT B2 hb; clear hb hg; have := N3.1; have := N2.1; have := N5.1; have := N4.1; obtain ⟨_, _, _, _, _, _⟩ := sqY3 B9; obtain ⟨Ao39, co39, eo39⟩ := Kd.R_slice O4.1; subst eo39) | ((with_reducible refine sqc 47 rfl ?_); refine sqC (some 38) func47 #[.slice A1 l1.length c1] ?_; (with_reducible refine (laws_toStringS.calls k _ _ l1 t10 _ ?side1 ?side2 A17.1).mono ?_); (case side1 => exact Kd.C_below HR1.1 (sqB3 HB E0 E1 E2)); (case side2 => exact HC1.1); rintro e w40 ⟨v5, rfl, ho0, hb⟩; refine ⟨_, rfl, ?_⟩; replace O0 := sqa (Kd.R_below (Z75 O0 B9) hb); replace O2 := sqa (Kd.Q_below (by (with_reducible repeat (first | apply Kd.Q_alloc | apply Kd.Q_drewN | apply Kd.Q_drew)); exact (Kd.Q_mono (sqq3 O2.1 B9.1) (fun _ h_ => h_.1))) hb); replace O4 := sqa (Kd.R_below (Z75 O4 B9) hb); have O5 := sqa (Kd.R_lower (Kd.R_new' (Kd.R_new' ho0 (Kd.R_lt (Z75 O1 B9))) (Kd.R_lt (Z75 O3 B9))) (below_size (sqB3 HB E0 E1 E2))); replace O1 := sqa (Kd.R_elder' (Z75 O1 B9) (Kd.R_base ho0) hb); replace O3 := sqa (Kd.R_elder' (Z75 O3 B9) (Kd.R_base ho0) hb); replace B0 := sqH N2 B0 hb; replace B2 := sqH N4 B2 hb; replace B9 := sqa (blk_below (g := g2) (o := .cells #[.int .i64 t8, .int .i64 t9, .slice Ao39 t776.length co39] 34 (0, 0)) (by refine sqPut (cs := #[.int .i64 t8, .int .i64 t9, .slice none 0 0]) ?_ 2; refine sqPut (cs := #[.int .i64 t8, .int .i64 0, .slice none 0 0]) ?_ 1; refine sqPut (cs := #[.int .i64 0, .int .i64 0, .slice none 0 0]) ?_ 0; exact sqK B9) hb); replace HB := sqS (sqB3 HB E0 E1 E2) hb; (try clear hb); (try clear ho0); obtain ⟨_, _, _, _, _, _⟩ := sqY3 B9; obtain ⟨Ao42, co42, eo42⟩ := Kd.R_slice O5.1; subst eo42) | ((with_reducible refine sqc 48 rfl ?_); refine sqC (some 42) func48 #[.agg #[.int .i64 t8, .int .i64 t9, .slice Ao39 t776.length co39], .slice Ao42 t10.length co42] ?_; (with_reducible refine (impl_DeskSay.calls k t8 t9 _ _ t776 _ _ t10 t783 t784 t785 t11 _ ?sideG ?side1 ?side2 ?side3 ?side4 A18.1).mono ?_); (case sideG => exact Glob.below hG (sqB3 HB E0 E1 E2)); (case side1 => exact Z29 O4); (case side2 => exact Z30 O4); (case side3 => exact Z29 O5); (case side4 => exact Z30 O5); rintro e w43 ⟨v6, v7, rfl, ho0, ho1, hb⟩; refine ⟨_, rfl, ?_⟩; have O6 := sqa (Kd.R_lower (Kd.R_new' (Kd.R_new' (Kd.R_new' ho0 (Kd.R_lt (sqR O0))) (Kd.Q_lt (Z12 O2))) (Kd.R_lt (sqR O4))) (below_size (sqB3 HB E0 E1 E2))); replace O0 := sqa (Kd.R_elder' (sqR O0) (Kd.R_base ho0) hb); replace O2 := sqa (Kd.Q_elder' (Z12 O2) (Kd.R_base ho0) hb); replace O4 := sqa (Kd.R_elder' (sqR O4) (Kd.R_base ho0) hb); have O7 := sqa (Kd.R_lower (Kd.R_new' (Kd.R_new' (Kd.R_new' ho1 (Kd.R_lt (sqR O1))) (Kd.R_lt (sqR O3))) (Kd.R_lt (sqR O5))) (below_size (sqB3 HB E0 E1 E2))); replace O1 := sqa (Kd.R_elder' (sqR O1) (Kd.R_base ho1) hb); replace O3 := sqa (Kd.R_elder' (sqR O3) (Kd.R_base ho1) hb); replace O5 := sqa (Kd.R_elder' (sqR O5) (Kd.R_base ho1) hb); replace B0 := sqT B0 hb; replace B2 := sqT B2 hb; replace B9 := sqT B9 hb; replace HB := sqS (sqB3 HB E0 E1 E2) hb; (try clear hb); (try clear ho0); (try clear ho1)) | ((with_reducible refine sqd 10 rfl ?_); refine sqBx w (sqB3 HB E0 E1 E2) (cs := #[.int .i64 0, .int .i64 0, .slice none 0 0]) (t := 34) ?_; intro g3 hg w44 B10 E3 HB hb; replace O0 := sqU O0 hb; replace O1 := sqU O1 hb; replace O2 := sqa (Kd.Q_below (Z12 O2) hb); replace O3 := sqU O3 hb; replace O4 := sqU O4 hb; replace O5 := sqU O5 hb; replace O6 := sqU O6 hb; replace O7 := sqU O7 hb; obtain ⟨N6, N7⟩ := sqM hg B0; replace B0 := sqT B0 hb; obtain ⟨N8, N9⟩ := sqM hg B2; replace B2 := sqT B2 hb; obtain ⟨N10, N11⟩ := sqM hg B9; replace B9 := sqT B9 hb; clear hb hg; have := N7.1; have := N6.1; have := N9.1; have := N8.1; have := N11.1; have := N10.1; obtain ⟨_, _, _, _, _, _⟩ := sqY3 B10; obtain ⟨Ao49, co49, eo49⟩ := Kd.R_slice O6.1; subst eo49))
 (try simp only [Act.put, List.setIfInBounds_toArray, List.set_cons_zero, List.set_cons_succ])
 go_cut [54] (fun v54 wc => ∃ (kq : Nat) (x54_18 : Bool), v54 = .bool x54_18 ∧ Aside0 (laws_FnExactDeskSay.j0 kq l1 t7 t10 t11 x54_18 a0_0 a0_1 l0_2 t5 t6 t767 t8 t9 t776 t783 t784 t785 = some r) ∧ Aside0 (kq ≤ k) ∧ Aside0 (Kd.R Kd.string 9 wc w.heap.size (fun k_ => some k_ ≠ ((.slice Ao42 t10.length co42) : Value).ownBlock ∧ some k_ ≠ (v7 : Value).ownBlock) v3 t7) ∧ Aside0 (Kd.R Kd.string 9 wc w.heap.size (fun k_ => some k_ ≠ (v3 : Value).ownBlock ∧ some k_ ≠ (v7 : Value).ownBlock) (.slice Ao42 t10.length co42) t10) ∧ Aside0 (Kd.R Kd.string 9 wc w.heap.size (fun k_ => some k_ ≠ (v3 : Value).ownBlock ∧ some k_ ≠ ((.slice Ao42 t10.length co42) : Value).ownBlock) v7 t11) ∧ Aside0 (Kd.Q k31 31 wc w.heap.size (fun k_ => some k_ ≠ ((.slice Ao39 t776.length co39) : Value).ownBlock ∧ some k_ ≠ ((.slice Ao49 t785.length co49) : Value).ownBlock) (.slice Ao32 t767.length co32) t767) ∧ Aside0 (Kd.R k31 31 wc w.heap.size (fun k_ => some k_ ≠ ((.slice Ao32 t767.length co32) : Value).ownBlock ∧ some k_ ≠ ((.slice Ao49 t785.length co49) : Value).ownBlock) (.slice Ao39 t776.length co39) t776) ∧ Aside0 (Kd.R k31 31 wc w.heap.size (fun k_ => some k_ ≠ ((.slice Ao32 t767.length co32) : Value).ownBlock ∧ some k_ ≠ ((.slice Ao39 t776.length co39) : Value).ownBlock) (.slice Ao49 t785.length co49) t785) ∧ Aside0 (wc.heap[g0]? = some (.cells #[.int .i64 a0_0, .int .i64 a0_1, (.slice A0_2 l0_2.length c0_2)] 26 (0, 0))) ∧ Aside0 (wc.heap[g1]? = some (.cells #[.int .i64 t5, .int .i64 t6, (.slice Ao32 t767.length co32)] 34 (0, 0))) ∧ Aside0 (wc.heap[g2]? = some (.cells #[.int .i64 t8, .int .i64 t9, (.slice Ao39 t776.length co39)] 34 (0, 0))) ∧ Aside0 (wc.heap[g3]? = some (.cells #[.int .i64 t783, .int .i64 t784, (.slice Ao49 t785.length co49)] 34 (0, 0))) ∧ Aside0 (Below w.heap.size w wc))
 case first =>
  have H := HC19.1
  clear HC19
  obtain ⟨t12, A50, H⟩ := sqD H
  by_cases c51 : t12 = true
  ·subst c51
   rw [if_pos rfl] at H
   obtain ⟨t13, A52, H⟩ := sqD H
   have H' := sqa H
   clear H
   have := N7.1
   have := N6.1
   have := N9.1
   have := N8.1
   have := N11.1
   have := N10.1
   obtain ⟨_, _, _, _, _, _⟩ := sqY3 B10
   have := N1.1
   have := N0.1
   have := N4.1
   have := N5.1
   obtain ⟨_, _, _, _, _, _⟩ := sqY3 B2
   go_wp2_with (first | ((with_reducible refine sqc 18 rfl ?_); refine sqC (some 47) func18 #[.agg #[.int .i64 t783, .int .i64 t784, .slice Ao49 t785.length co49], .agg #[.int .i64 t5, .int .i64 t6, .slice Ao32 t767.length co32]] ?_; (with_reducible refine (laws_eqDesk.calls k t783 t784 _ _ t785 t5 t6 _ _ t767 true _ ?side1 ?side2 ?side3 ?side4 A50.1).mono ?_); (case side1 => exact Z132 O6 B10); (case side2 => exact Z30 O6); (case side3 => exact Z133 O2 B10); (case side4 => exact Z39 O2); refine sqV fun w60 hb => ?_; replace O0 := sqa (Kd.R_below (Z76 O0 B10) hb); replace O1 := sqa (Kd.R_below (Z76 O1 B10) hb); replace O2 := sqa (Kd.Q_below (Z77 O2 B10) hb); replace O3 := sqa (Kd.R_below (Z76 O3 B10) hb); replace O4 := sqa (Kd.R_below (Z76 O4 B10) hb); replace O5 := sqa (Kd.R_below (Z76 O5 B10) hb); replace O6 := sqa (Kd.R_below (Z76 O6 B10) hb); replace O7 := sqa (Kd.R_below (Z76 O7 B10) hb); replace B0 := sqH N6 B0 hb; replace B2 := sqH N8 B2 hb; replace B9 := sqH N10 B9 hb; replace B10 := sqa (blk_below (g := g3) (o := .cells #[.int .i64 t783, .int .i64 t784, .slice Ao49 t785.length co49] 34 (0, 0)) (Z78 B10) hb); replace HB := sqS (sqB4 HB E0 E1 E2 E3) hb; (try clear hb); obtain ⟨Ao61, co61, eo61⟩ := Kd.R_slice O7.1; subst eo61; obtain ⟨Ao62, co62, eo62⟩ := Kd.R_slice O3.1; subst eo62) | (go_at_call 49; (with_reducible refine (laws_eqStringS.calls k _ _ t11 _ _ t7 t13 _ ?side1 ?side2 ?side3 ?side4 A52.1).mono ?_); (case side1 => exact Z29 O7); (case side2 => exact Z30 O7); (case side3 => exact Z29 O3); (case side4 => exact Z30 O3); rintro e w' ⟨rfl, ⟨nd, rfl⟩⟩))
   go_meet
   case rel => exact ⟨_, (!t13), Z4, H', ⟨Z5⟩, ⟨Z79 O3⟩, ⟨Z79 O5⟩, ⟨Z79 O7⟩, ⟨Z80 O2⟩, ⟨Z79 O4⟩, ⟨Z79 O6⟩, ⟨sqK B0⟩, ⟨sqK B2⟩, ⟨sqK B9⟩, ⟨sqK B10⟩, ⟨sqB4 HB E0 E1 E2 E3⟩⟩
  obtain rfl := sqb c51
  rw [if_neg sqF] at H
  have H' := sqa H
  clear H
  have := N7.1
  have := N6.1
  have := N9.1
  have := N8.1
  have := N11.1
  have := N10.1
  obtain ⟨_, _, _, _, _, _⟩ := sqY3 B10
  have := N1.1
  have := N0.1
  have := N4.1
  have := N5.1
  obtain ⟨_, _, _, _, _, _⟩ := sqY3 B2
  go_wp2_with (first | ((with_reducible refine sqc 18 rfl ?_); refine sqC (some 47) func18 #[.agg #[.int .i64 t783, .int .i64 t784, .slice Ao49 t785.length co49], .agg #[.int .i64 t5, .int .i64 t6, .slice Ao32 t767.length co32]] ?_; (with_reducible refine (laws_eqDesk.calls k t783 t784 _ _ t785 t5 t6 _ _ t767 false _ ?side1 ?side2 ?side3 ?side4 A50.1).mono ?_); (case side1 => exact Z132 O6 B10); (case side2 => exact Z30 O6); (case side3 => exact Z133 O2 B10); (case side4 => exact Z39 O2); refine sqV fun w70 hb => ?_; replace O0 := sqa (Kd.R_below (Z76 O0 B10) hb); replace O1 := sqa (Kd.R_below (Z76 O1 B10) hb); replace O2 := sqa (Kd.Q_below (Z77 O2 B10) hb); replace O3 := sqa (Kd.R_below (Z76 O3 B10) hb); replace O4 := sqa (Kd.R_below (Z76 O4 B10) hb); replace O5 := sqa (Kd.R_below (Z76 O5 B10) hb); replace O6 := sqa (Kd.R_below (Z76 O6 B10) hb); replace O7 := sqa (Kd.R_below (Z76 O7 B10) hb); replace B0 := sqH N6 B0 hb; replace B2 := sqH N8 B2 hb; replace B9 := sqH N10 B9 hb; replace B10 := sqa (blk_below (g := g3) (o := .cells #[.int .i64 t783, .int .i64 t784, .slice Ao49 t785.length co49] 34 (0, 0)) (Z78 B10) hb); replace HB := sqS (sqB4 HB E0 E1 E2 E3) hb; (try clear hb)))
  go_meet
  case rel => exact ⟨_, (true), Z4, H', ⟨Z5⟩, ⟨Z79 O3⟩, ⟨Z79 O5⟩, ⟨Z79 O7⟩, ⟨Z80 O2⟩, ⟨Z79 O4⟩, ⟨Z79 O6⟩, ⟨sqK B0⟩, ⟨sqK B2⟩, ⟨sqK B9⟩, ⟨sqK B10⟩, ⟨sqB4 HB E0 E1 E2 E3⟩⟩
 case rest =>
  clear HC19
  obtain ⟨kq, x54_18, rfl, HA, HJ18, O8, O9, O10, O11, O12, O13, B0, B2, B9, B10, HB⟩ := hcut
  cases kq with
  | zero => exact absurd HA.out (by simp [laws_FnExactDeskSay.j0])
  | succ kj18 =>
   have H := HA.out
   clear HA
   simp only [laws_FnExactDeskSay.j0] at H
   by_cases c71 : x54_18 = true
   ·subst c71
    rw [if_pos rfl] at H
    obtain rfl := sqo H
    go_wp2
    go_ret
    exact ⟨Z16, sqB4 HB E0 E1 E2 E3⟩
   obtain rfl := sqb c71
   rw [if_neg sqF] at H
   obtain ⟨⟨t14, t15, t16⟩, A72, H⟩ := sqD H
   try dsimp only at H
   obtain ⟨t17, A73, H⟩ := sqD H
   by_cases c74 : t17 = true
   ·subst c74
    rw [if_pos rfl] at H
    obtain ⟨t18, A75, H⟩ := sqD H
    obtain ⟨t19, A76, H⟩ := sqD H
    by_cases c77 : t19 = true
    ·subst c77
     rw [if_pos rfl] at H
     obtain ⟨⟨t20, t805⟩, A78, H⟩ := sqD H
     try dsimp only at H
     obtain ⟨⟨t21, t22⟩, A79, H⟩ := sqD H
     try dsimp only at H
     have HC80 := sqa H
     clear H
     try go_wp2
     replace O8 := sqa (Kd.R_drew O8.1)
     replace O9 := sqa (Kd.R_drew O9.1)
     replace O10 := sqa (Kd.R_drew O10.1)
     replace O11 := sqa (Kd.Q_drew O11.1)
     replace O12 := sqa (Kd.R_drew O12.1)
     replace O13 := sqa (Kd.R_drew O13.1)
     replace B0 := sqa (blk_drew B0.1)
     replace B2 := sqa (blk_drew B2.1)
     replace B9 := sqa (blk_drew B9.1)
     replace B10 := sqa (blk_drew B10.1)
     replace HB := sqa (below_drew1 HB.1)
     refine start_ (n := 5) (S := fun w' => w'.cell? ⟨g2, 0, none⟩ = some (.int .i64 t8) ∧ w'.cell? ⟨g2, 1, none⟩ = some (.int .i64 t9) ∧ w'.cell? ⟨g2, 2, none⟩ = some (.slice Ao39 t776.length co39) ∧ w'.cell? ⟨g0, 0, none⟩ = some (.int .i64 a0_0) ∧ w'.cell? ⟨g0, 1, none⟩ = some (.int .i64 a0_1) ∧ w'.cell? ⟨g0, 2, none⟩ = some (.slice A0_2 l0_2.length c0_2)) (ds := []) #[false, false, false, false, false] (by kernel_rfl) rfl rfl (sqk2 B9 B0) (fun hHeld => ?_)
     generalize wc.drew = w81 at O8 O9 O10 O11 O12 O13 B0 B2 B9 B10 HB hHeld ⊢
     refine sqQk 0 (some 55) hHeld (h := ?_)
     refine sqQk 1 (some 56) hHeld (h := ?_)
     refine one_ (i := 2) (N := some 57) #[true, true, true, false, false] rfl rfl (by kernel_rfl) (by decide) (fun K hK => ?_)
     refine goes_ func15 (by kernel_rfl) rfl #[.agg #[.int .i64 a0_0, .int .i64 a0_1, .slice A0_2 l0_2.length c0_2]] (by rfl) rfl rfl sqA ?_
     with_reducible refine (laws_toDesk.calls kj18 a0_0 a0_1 _ _ l0_2 t14 t15 t16 _ ?side1 ?side2 A72.1).mono ?_
     (case side1 => exact Z2)
     (case side2 => exact Z3)
     rintro e w82 ⟨v8, rfl, ho0, hb⟩
     refine ⟨_, rfl, ?_⟩
     replace O8 := sqU O8 hb
     replace O9 := sqU O9 hb
     replace O10 := sqU O10 hb
     have O14 := sqa (Kd.R_lower (Kd.R_new' (Kd.R_new' (Kd.R_new' ho0 (Kd.Q_lt (Z12 O11))) (Kd.R_lt (sqR O12))) (Kd.R_lt (sqR O13))) (below_size (sqB4 HB E0 E1 E2 E3)))
     replace O11 := sqa (Kd.Q_elder' (Z12 O11) (Kd.R_base ho0) hb)
     replace O12 := sqa (Kd.R_elder' (sqR O12) (Kd.R_base ho0) hb)
     replace O13 := sqa (Kd.R_elder' (sqR O13) (Kd.R_base ho0) hb)
     replace B0 := sqT B0 hb
     replace B2 := sqT B2 hb
     replace B9 := sqT B9 hb
     replace B10 := sqT B10 hb
     replace HB := sqS (sqB4 HB E0 E1 E2 E3) hb
     (try clear hb)
     (try clear hb2)
     (try clear hk)
     (try clear hi)
     (try clear ho0)
     obtain ⟨Ao83, co83, eo83⟩ := Kd.R_slice O14.1
     (first | subst eo83 | (injection eo83 with f1_ f2_ f3_; have f4_ := f1_.symm; have f5_ := f3_.symm; clear f1_ f2_ f3_; subst f4_; subst f5_))
     refine hK.out _ _ (sqk2 B9 B0) (fun hHeld => ?_)
     clear hK K
     refine sqN (some 57) ?_
     refine one_ (i := 3) (N := some 58) #[true, true, true, true, false] rfl rfl (by kernel_rfl) (by decide) (fun K hK => ?_)
     refine goes_ func18 (by kernel_rfl) rfl #[.agg #[.int .i64 t8, .int .i64 t9, .slice Ao39 t776.length co39], .agg #[.int .i64 t14, .int .i64 t15, .slice Ao83 t16.length co83]] (by rfl) rfl rfl sqA ?_
     with_reducible refine (laws_eqDesk.calls kj18 t8 t9 _ _ t776 t14 t15 _ _ t16 true _ ?side1 ?side2 ?side3 ?side4 A73.1).mono ?_
     (case side1 => exact Z29 O12)
     (case side2 => exact Z30 O12)
     (case side3 => exact Z29 O14)
     (case side4 => exact Z30 O14)
     rintro e w84 ⟨rfl, hb⟩
     refine ⟨_, rfl, ?_⟩
     replace O8 := sqU O8 hb
     replace O9 := sqU O9 hb
     replace O10 := sqU O10 hb
     replace O11 := sqa (Kd.Q_below (Z12 O11) hb)
     replace O12 := sqU O12 hb
     replace O13 := sqU O13 hb
     replace O14 := sqU O14 hb
     replace B0 := sqT B0 hb
     replace B2 := sqT B2 hb
     replace B9 := sqT B9 hb
     replace B10 := sqT B10 hb
     replace HB := sqS (sqB4 HB E0 E1 E2 E3) hb
     (try clear hb)
     (try clear hb2)
     (try clear hk)
     (try clear hi)
     refine hK.out _ _ (sqk2 B9 B0) (fun hHeld => ?_)
     clear hK K
     refine sqN (some 58) ?_
     refine sqPk 4 (some 59) (h := ?_)
     refine done_ (by kernel_rfl) ?_
     go_upto_region 21 with (first | ((with_reducible refine sqc 47 rfl ?_); refine sqC (some 62) func47 #[.slice A1 l1.length c1] ?_; (with_reducible refine (laws_toStringS.calls kj18 _ _ l1 t18 _ ?side1 ?side2 A75.1).mono ?_); (case side1 => exact Z71 HR1); (case side2 => exact HC1.1); rintro e w85 ⟨v9, rfl, ho0, hb⟩; refine ⟨_, rfl, ?_⟩; replace O11 := sqa (Kd.Q_below (Z12 O11) hb); replace O12 := sqU O12 hb; replace O13 := sqU O13 hb; replace O14 := sqU O14 hb; have O15 := sqa (Kd.R_lower (Kd.R_new' (Kd.R_new' (Kd.R_new' ho0 (Kd.R_lt (sqR O8))) (Kd.R_lt (sqR O9))) (Kd.R_lt (sqR O10))) (below_size (sqB4 HB E0 E1 E2 E3))); replace O8 := sqa (Kd.R_elder' (sqR O8) (Kd.R_base ho0) hb); replace O9 := sqa (Kd.R_elder' (sqR O9) (Kd.R_base ho0) hb); replace O10 := sqa (Kd.R_elder' (sqR O10) (Kd.R_base ho0) hb); replace B0 := sqT B0 hb; replace B2 := sqT B2 hb; replace B9 := sqT B9 hb; replace B10 := sqT B10 hb; replace HB := sqS (sqB4 HB E0 E1 E2 E3) hb; (try clear hb); (try clear ho0); obtain ⟨Ao86, co86, eo86⟩ := Kd.R_slice O15.1; subst eo86) | ((with_reducible refine sqc 49 rfl ?_); refine sqC (some 63) func49 #[.slice Ao42 t10.length co42, .slice Ao86 t18.length co86] ?_; (with_reducible refine (laws_eqStringS.calls kj18 _ _ t10 _ _ t18 true _ ?side1 ?side2 ?side3 ?side4 A76.1).mono ?_); (case side1 => exact Z29 O9); (case side2 => exact Z30 O9); (case side3 => exact Z29 O15); (case side4 => exact Z30 O15); rintro e w' ⟨rfl, ⟨nd, rfl⟩⟩; refine ⟨_, rfl, ?_⟩; have := N3.1; have := N2.1; have := N5.1; have := N4.1; have := N10.1; have := N11.1; obtain ⟨_, _, _, _, _, _⟩ := sqY3 B9) | ((with_reducible refine sqc 19 rfl ?_); refine sqC (some 67) func19 #[.agg #[.int .i64 t8, .int .i64 t9, .slice Ao39 t776.length co39], .int .i64 1] ?_; (with_reducible refine (laws_markDesk.calls kj18 t8 t9 (fun k_ => some k_ = (.slice Ao39 t776.length co39 : Value).ownBlock) (.slice Ao39 t776.length co39) t776 1 t20 t805 w _ ?side1 ?side2 A78.1).mono ?_); (case side1 => exact Z81 E0 E1 E2 E3); (case side2 => exact Kd.R_tight rfl O12.1); rintro e w91 ⟨rfl, hy0, hb, hkp⟩; refine ⟨_, rfl, ?_⟩; replace O8 := sqa (Kd.R_mono (ok' := fun k_ => some k_ ≠ (.slice Ao42 t10.length co42 : Value).ownBlock ∧ some k_ ≠ (v7 : Value).ownBlock ∧ some k_ ≠ (.slice Ao86 t18.length co86 : Value).ownBlock) (Kd.R_keptB ((Kd.R_apart' O8.1 (Kd.R_typed O12.1) (by decide))) hkp (fun k_ hk_ hs_ => (hk_.2) hs_)) (fun k_ hk_ => ⟨hk_.1.1.1.1, hk_.1.1.1.2, hk_.1.1.2⟩)); replace O9 := sqa (Kd.R_mono (ok' := fun k_ => some k_ ≠ (v3 : Value).ownBlock ∧ some k_ ≠ (v7 : Value).ownBlock ∧ some k_ ≠ (.slice Ao86 t18.length co86 : Value).ownBlock) (Kd.R_keptB ((Kd.R_apart' O9.1 (Kd.R_typed O12.1) (by decide))) hkp (fun k_ hk_ hs_ => (hk_.2) hs_)) (fun k_ hk_ => ⟨hk_.1.1.1.1, hk_.1.1.1.2, hk_.1.1.2⟩)); replace O10 := sqa (Kd.R_mono (ok' := fun k_ => some k_ ≠ (v3 : Value).ownBlock ∧ some k_ ≠ (.slice Ao42 t10.length co42 : Value).ownBlock ∧ some k_ ≠ (.slice Ao86 t18.length co86 : Value).ownBlock) (Kd.R_keptB ((Kd.R_apart' O10.1 (Kd.R_typed O12.1) (by decide))) hkp (fun k_ hk_ hs_ => (hk_.2) hs_)) (fun k_ hk_ => ⟨hk_.1.1.1.1, hk_.1.1.1.2, hk_.1.1.2⟩)); replace O11 := sqa (Kd.Q_mono (ok' := fun k_ => some k_ ≠ (.slice Ao39 t776.length co39 : Value).ownBlock ∧ some k_ ≠ (.slice Ao49 t785.length co49 : Value).ownBlock ∧ some k_ ≠ (.slice Ao83 t16.length co83 : Value).ownBlock) (Kd.Q_keptB (O11.1) hkp (fun k_ hk_ hs_ => (hk_.1.1) hs_)) (fun k_ hk_ => ⟨hk_.1.1.1, hk_.1.1.2, hk_.1.2⟩)); replace O13 := sqa (Kd.R_mono (ok' := fun k_ => some k_ ≠ (.slice Ao32 t767.length co32 : Value).ownBlock ∧ some k_ ≠ (.slice Ao39 t776.length co39 : Value).ownBlock ∧ some k_ ≠ (.slice Ao83 t16.length co83 : Value).ownBlock) (Kd.R_keptB (O13.1) hkp (fun k_ hk_ hs_ => (hk_.1.2) hs_)) (fun k_ hk_ => ⟨hk_.1.1.1, hk_.1.1.2, hk_.1.2⟩)); replace B0 := sqa (blk_kept (sqK B0) hkp (fun hs_ => (fun e_ => (Kd.R_ne O12.1 B0.1 (by decide)) e_) hs_)); replace B2 := sqa (blk_kept (sqK B2) hkp (fun hs_ => (fun e_ => (Kd.R_ne O12.1 B2.1 (by decide)) e_) hs_)); replace B9 := sqa (blk_kept (sqK B9) hkp (fun hs_ => (fun e_ => (Kd.R_ne O12.1 B9.1 (by decide)) e_) hs_)); replace B10 := sqa (blk_kept (sqK B10) hkp (fun hs_ => (fun e_ => (Kd.R_ne O12.1 B10.1 (by decide)) e_) hs_)); replace O14 := sqa (Kd.R_mono (ok' := fun k_ => some k_ ≠ (.slice Ao32 t767.length co32 : Value).ownBlock ∧ some k_ ≠ (.slice Ao39 t776.length co39 : Value).ownBlock ∧ some k_ ≠ (.slice Ao49 t785.length co49 : Value).ownBlock) (Kd.R_keptB (O14.1) hkp (fun k_ hk_ hs_ => (hk_.1.2) hs_)) (fun k_ hk_ => ⟨hk_.1.1.1.2, hk_.1.1.2, hk_.1.2⟩)); replace O15 := sqa (Kd.R_mono (ok' := fun k_ => some k_ ≠ (v3 : Value).ownBlock ∧ some k_ ≠ (.slice Ao42 t10.length co42 : Value).ownBlock ∧ some k_ ≠ (v7 : Value).ownBlock) (Kd.R_keptB ((Kd.R_apart' O15.1 (Kd.R_typed O12.1) (by decide))) hkp (fun k_ hk_ hs_ => (hk_.2) hs_)) (fun k_ hk_ => ⟨hk_.1.1.1.1.2, hk_.1.1.1.2, hk_.1.1.2⟩)); replace O12 := sqa (Kd.R_reok rfl hy0 (fun k_ e_ => O12.1.1 k_ e_)); replace HB := sqa (hb); (try clear hb); (try clear hkp); (try clear hy0)) | ((with_reducible refine sqc 50 rfl ?_); refine sqC (some 70) func50 #[.slice Ao42 t10.length co42, .int .i64 t20] ?_; (with_reducible refine (laws_markStringS.calls kj18 (fun k_ => some k_ = (.slice Ao42 t10.length co42 : Value).ownBlock) (.slice Ao42 t10.length co42) t10 t20 t21 t22 w _ ?side1 ?side2 A79.1).mono ?_); (case side1 => exact Z81 E0 E1 E2 E3); (case side2 => exact Kd.R_tight rfl O9.1); rintro e w92 ⟨rfl, hy0, hb, hkp⟩; refine ⟨_, rfl, ?_⟩; replace O8 := sqa (Kd.R_mono (ok' := fun k_ => some k_ ≠ (.slice Ao42 t10.length co42 : Value).ownBlock ∧ some k_ ≠ (v7 : Value).ownBlock ∧ some k_ ≠ (.slice Ao86 t18.length co86 : Value).ownBlock) (Kd.R_keptB (O8.1) hkp (fun k_ hk_ hs_ => (hk_.1) hs_)) (fun k_ hk_ => ⟨hk_.1.1, hk_.1.2.1, hk_.1.2.2⟩)); replace O10 := sqa (Kd.R_mono (ok' := fun k_ => some k_ ≠ (v3 : Value).ownBlock ∧ some k_ ≠ (.slice Ao42 t10.length co42 : Value).ownBlock ∧ some k_ ≠ (.slice Ao86 t18.length co86 : Value).ownBlock) (Kd.R_keptB (O10.1) hkp (fun k_ hk_ hs_ => (hk_.2.1) hs_)) (fun k_ hk_ => ⟨hk_.1.1, hk_.1.2.1, hk_.1.2.2⟩)); replace O11 := sqa (Kd.Q_mono (ok' := fun k_ => some k_ ≠ (.slice Ao39 t776.length co39 : Value).ownBlock ∧ some k_ ≠ (.slice Ao49 t785.length co49 : Value).ownBlock ∧ some k_ ≠ (.slice Ao83 t16.length co83 : Value).ownBlock) (Kd.Q_keptB ((Kd.Q_apart' O11.1 (Kd.R_typed O9.1) (by decide))) hkp (fun k_ hk_ hs_ => (hk_.2) hs_)) (fun k_ hk_ => ⟨hk_.1.1.1, hk_.1.1.2.1, hk_.1.1.2.2⟩)); replace O12 := sqa (Kd.R_mono (ok' := fun k_ => some k_ ≠ (.slice Ao32 t767.length co32 : Value).ownBlock ∧ some k_ ≠ (.slice Ao49 t785.length co49 : Value).ownBlock ∧ some k_ ≠ (.slice Ao83 t16.length co83 : Value).ownBlock) (Kd.R_keptB ((Kd.R_apart' O12.1 (Kd.R_typed O9.1) (by decide))) hkp (fun k_ hk_ hs_ => (hk_.2) hs_)) (fun k_ hk_ => ⟨hk_.1.1.1.1, hk_.1.1.1.2, hk_.1.1.2⟩)); replace O13 := sqa (Kd.R_mono (ok' := fun k_ => some k_ ≠ (.slice Ao32 t767.length co32 : Value).ownBlock ∧ some k_ ≠ (.slice Ao39 t776.length co39 : Value).ownBlock ∧ some k_ ≠ (.slice Ao83 t16.length co83 : Value).ownBlock) (Kd.R_keptB ((Kd.R_apart' O13.1 (Kd.R_typed O9.1) (by decide))) hkp (fun k_ hk_ hs_ => (hk_.2) hs_)) (fun k_ hk_ => ⟨hk_.1.1.1, hk_.1.1.2.1, hk_.1.1.2.2⟩)); replace B0 := sqa (blk_kept (sqK B0) hkp (fun hs_ => (fun e_ => (Kd.R_ne O9.1 B0.1 (by decide)) e_) hs_)); replace B2 := sqa (blk_kept (sqK B2) hkp (fun hs_ => (fun e_ => (Kd.R_ne O9.1 B2.1 (by decide)) e_) hs_)); replace B9 := sqa (blk_kept (sqK B9) hkp (fun hs_ => (fun e_ => (Kd.R_ne O9.1 B9.1 (by decide)) e_) hs_)); replace B10 := sqa (blk_kept (sqK B10) hkp (fun hs_ => (fun e_ => (Kd.R_ne O9.1 B10.1 (by decide)) e_) hs_)); replace O14 := sqa (Kd.R_mono (ok' := fun k_ => some k_ ≠ (.slice Ao32 t767.length co32 : Value).ownBlock ∧ some k_ ≠ (.slice Ao39 t776.length co39 : Value).ownBlock ∧ some k_ ≠ (.slice Ao49 t785.length co49 : Value).ownBlock) (Kd.R_keptB ((Kd.R_apart' O14.1 (Kd.R_typed O9.1) (by decide))) hkp (fun k_ hk_ hs_ => (hk_.2) hs_)) (fun k_ hk_ => ⟨hk_.1.1.1, hk_.1.1.2.1, hk_.1.1.2.2⟩)); replace O9 := sqa (Kd.R_reok rfl hy0 (fun k_ e_ => O9.1.1 k_ e_)); replace O15 := sqa (Kd.R_mono (ok' := fun k_ => some k_ ≠ (v3 : Value).ownBlock ∧ some k_ ≠ (.slice Ao42 t10.length co42 : Value).ownBlock ∧ some k_ ≠ (v7 : Value).ownBlock) (Kd.R_keptB (O15.1) hkp (fun k_ hk_ hs_ => (hk_.2.1) hs_)) (fun k_ hk_ => ⟨hk_.1.1, hk_.1.2.1, hk_.1.2.2⟩)); replace HB := sqa (hb); (try clear hb); (try clear hkp); (try clear hy0)))
     (try simp only [Act.put, List.setIfInBounds_toArray, List.set_cons_zero, List.set_cons_succ])
     go_cut [84] (fun v84 wc => ∃ (kq : Nat) (x84_79 : Bool), v84 = .bool x84_79 ∧ Aside0 (laws_FnExactDeskSay.j1 kq l1 t7 t11 x84_79 a0_0 a0_1 l0_2 t5 t6 t767 t783 t784 t785 = some r) ∧ Aside0 (kq ≤ kj18) ∧ Aside0 (Kd.R Kd.string 9 wc w.heap.size (fun k_ => some k_ ≠ (v7 : Value).ownBlock) v3 t7) ∧ Aside0 (Kd.R Kd.string 9 wc w.heap.size (fun k_ => some k_ ≠ (v3 : Value).ownBlock) v7 t11) ∧ Aside0 (Kd.Q k31 31 wc w.heap.size (fun k_ => some k_ ≠ ((.slice Ao39 t776.length co39) : Value).ownBlock ∧ some k_ ≠ ((.slice Ao49 t785.length co49) : Value).ownBlock) (.slice Ao32 t767.length co32) t767) ∧ Aside0 (Kd.R k31 31 wc w.heap.size (fun k_ => some k_ ≠ ((.slice Ao32 t767.length co32) : Value).ownBlock ∧ some k_ ≠ ((.slice Ao49 t785.length co49) : Value).ownBlock) (.slice Ao39 t776.length co39) t805) ∧ Aside0 (Kd.R k31 31 wc w.heap.size (fun k_ => some k_ ≠ ((.slice Ao32 t767.length co32) : Value).ownBlock ∧ some k_ ≠ ((.slice Ao39 t776.length co39) : Value).ownBlock) (.slice Ao49 t785.length co49) t785) ∧ Aside0 (wc.heap[g0]? = some (.cells #[.int .i64 a0_0, .int .i64 a0_1, (.slice A0_2 l0_2.length c0_2)] 26 (0, 0))) ∧ Aside0 (wc.heap[g1]? = some (.cells #[.int .i64 t5, .int .i64 t6, (.slice Ao32 t767.length co32)] 34 (0, 0))) ∧ Aside0 (wc.heap[g2]? = some (.cells #[.int .i64 t8, .int .i64 t9, (.slice Ao39 t776.length co39)] 34 (0, 0))) ∧ Aside0 (wc.heap[g3]? = some (.cells #[.int .i64 t783, .int .i64 t784, (.slice Ao49 t785.length co49)] 34 (0, 0))) ∧ Aside0 (Below w.heap.size w wc))
     case first =>
      have H := HC80.1
      clear HC80
      by_cases c93 : t21 < 0
      ·rw [if_pos c93] at H
       have c93b0 : decide (t21 < 0) = true := decide_eq_true c93
       clear c93
       (first | rw [c93b0] | (simp only [i64_w, i32_w]; rw [c93b0]) | skip)
       have H' := sqa H
       clear H
       go_wp2
       go_meet
       case rel => exact ⟨_, (true), Z4, H', ⟨Z82⟩, ⟨Z83 O8⟩, ⟨Z84 O10⟩, ⟨Z85 O11⟩, ⟨Z86 O12⟩, ⟨Z86 O13⟩, ⟨sqK B0⟩, ⟨sqK B2⟩, ⟨sqK B9⟩, ⟨sqK B10⟩, ⟨sqB4 HB E0 E1 E2 E3⟩⟩
      rw [if_neg c93] at H
      have c93b0 : decide (t21 < 0) = false := decide_eq_false c93
      clear c93
      (first | rw [c93b0] | (simp only [i64_w, i32_w]; rw [c93b0]) | skip)
      obtain ⟨t23, A94, H⟩ := sqD H
      by_cases c95 : t23 = true
      ·subst c95
       rw [if_pos rfl] at H
       obtain ⟨t24, A96, H⟩ := sqD H
       have H' := sqa H
       clear H
       have := N7.1
       have := N6.1
       have := N9.1
       have := N8.1
       have := N11.1
       have := N10.1
       obtain ⟨_, _, _, _, _, _⟩ := sqY3 B10
       have := N1.1
       have := N0.1
       have := N4.1
       have := N5.1
       obtain ⟨_, _, _, _, _, _⟩ := sqY3 B2
       go_wp2_with (first | (go_at_call 18; (with_reducible refine (laws_eqDesk.calls kj18 t783 t784 _ _ t785 t5 t6 _ _ t767 true _ ?side1 ?side2 ?side3 ?side4 A94.1).mono ?_); (case side1 => exact Z29 O13); (case side2 => exact Z30 O13); (case side3 => exact Z38 O11); (case side4 => exact Z39 O11); rintro e w0 ⟨rfl, hb⟩; replace O8 := sqU O8 hb; replace O9 := sqU O9 hb; replace O10 := sqU O10 hb; replace O11 := sqa (Kd.Q_below (Z12 O11) hb); replace O12 := sqU O12 hb; replace O13 := sqU O13 hb; replace O14 := sqU O14 hb; replace O15 := sqU O15 hb; replace B0 := sqT B0 hb; replace B2 := sqT B2 hb; replace B9 := sqT B9 hb; replace B10 := sqT B10 hb; replace HB := sqS (sqB4 HB E0 E1 E2 E3) hb; (try clear hb); obtain ⟨Ao0, co0, eo0⟩ := Kd.R_slice O10.1; subst eo0; obtain ⟨Ao1, co1, eo1⟩ := Kd.R_slice O8.1; subst eo1) | (go_at_call 49; (with_reducible refine (laws_eqStringS.calls kj18 _ _ t11 _ _ t7 t24 _ ?side1 ?side2 ?side3 ?side4 A96.1).mono ?_); (case side1 => exact Z29 O10); (case side2 => exact Z30 O10); (case side3 => exact Z29 O8); (case side4 => exact Z30 O8); rintro e w' ⟨rfl, ⟨nd, rfl⟩⟩))
       go_meet
       case rel => exact ⟨_, (!t24), Z4, H', ⟨Z82⟩, ⟨Z83 O8⟩, ⟨Z84 O10⟩, ⟨Z85 O11⟩, ⟨Z86 O12⟩, ⟨Z86 O13⟩, ⟨sqK B0⟩, ⟨sqK B2⟩, ⟨sqK B9⟩, ⟨sqK B10⟩, ⟨sqB4 HB E0 E1 E2 E3⟩⟩
      obtain rfl := sqb c95
      rw [if_neg sqF] at H
      have H' := sqa H
      clear H
      have := N7.1
      have := N6.1
      have := N9.1
      have := N8.1
      have := N11.1
      have := N10.1
      obtain ⟨_, _, _, _, _, _⟩ := sqY3 B10
      have := N1.1
      have := N0.1
      have := N4.1
      have := N5.1
      obtain ⟨_, _, _, _, _, _⟩ := sqY3 B2
      go_wp2_with (first | (go_at_call 18; (with_reducible refine (laws_eqDesk.calls kj18 t783 t784 _ _ t785 t5 t6 _ _ t767 false _ ?side1 ?side2 ?side3 ?side4 A94.1).mono ?_); (case side1 => exact Z29 O13); (case side2 => exact Z30 O13); (case side3 => exact Z38 O11); (case side4 => exact Z39 O11); rintro e w1 ⟨rfl, hb⟩; replace O8 := sqU O8 hb; replace O9 := sqU O9 hb; replace O10 := sqU O10 hb; replace O11 := sqa (Kd.Q_below (Z12 O11) hb); replace O12 := sqU O12 hb; replace O13 := sqU O13 hb; replace O14 := sqU O14 hb; replace O15 := sqU O15 hb; replace B0 := sqT B0 hb; replace B2 := sqT B2 hb; replace B9 := sqT B9 hb; replace B10 := sqT B10 hb; replace HB := sqS (sqB4 HB E0 E1 E2 E3) hb; (try clear hb)))
      go_meet
      case rel => exact ⟨_, (true), Z4, H', ⟨Z82⟩, ⟨Z83 O8⟩, ⟨Z84 O10⟩, ⟨Z85 O11⟩, ⟨Z86 O12⟩, ⟨Z86 O13⟩, ⟨sqK B0⟩, ⟨sqK B2⟩, ⟨sqK B9⟩, ⟨sqK B10⟩, ⟨sqB4 HB E0 E1 E2 E3⟩⟩
     case rest =>
      clear HC80
      obtain ⟨kq, x84_79, rfl, HA, HJ79, O8, O10, O11, O12, O13, B0, B2, B9, B10, HB⟩ := hcut
      have hl780002_79 := (Kd.R_reads' O12.1).1
      rw [hl780002_79] at O12
      (try simp only [hl780002_79])
      (try simp only [hl780002_79] at B0)
      (try simp only [hl780002_79] at B2)
      (try simp only [hl780002_79] at B9)
      (try simp only [hl780002_79] at B10)
      (try simp only [hl780002_79] at O8)
      (try simp only [hl780002_79] at O10)
      (try simp only [hl780002_79] at O11)
      (try simp only [hl780002_79] at O13)
      cases kq with
      | zero => exact absurd HA.out (by simp [laws_FnExactDeskSay.j1])
      | succ kj79 =>
       have H := HA.out
       clear HA
       simp only [laws_FnExactDeskSay.j1] at H
       by_cases c0 : x84_79 = true
       ·subst c0
        rw [if_pos rfl] at H
        obtain rfl := sqo H
        go_wp2
        go_ret
        exact ⟨Z16, sqB4 HB E0 E1 E2 E3⟩
       obtain rfl := sqb c0
       rw [if_neg sqF] at H
       obtain ⟨⟨t25, t26⟩, A0, H⟩ := sqD H
       try dsimp only at H
       obtain ⟨⟨t27, t28⟩, A2, H⟩ := sqD H
       try dsimp only at H
       obtain ⟨t29, A4, H⟩ := sqD H
       by_cases c2 : t29 < 0
       ·rw [if_pos c2] at H
        exact absurd (sqo H) Z87
       rw [if_neg c2] at H
       have c3 : decide (t29 < 0) = false := decide_eq_false c2
       clear c2
       obtain ⟨t30, A5, H⟩ := sqD H
       by_cases c5 : t30 < 0
       ·rw [if_pos c5] at H
        exact absurd (sqo H) Z87
       rw [if_neg c5] at H
       have c6 : decide (t30 < 0) = false := decide_eq_false c5
       clear c5
       by_cases c7 : t30 = t27
       ·rw [if_pos c7] at H
        have c8 : (t30 == t27) = true := sqe1 c7
        have c10 : (t30 != t27) = false := sqn0 c7
        clear c7
        obtain ⟨⟨t31, t32, t818⟩, A6, H⟩ := sqD H
        try dsimp only at H
        obtain ⟨t33, A7, H⟩ := sqD H
        obtain ⟨⟨t824, t825, t826, t34⟩, A9, H⟩ := sqD H
        try dsimp only at H
        have HC0 := sqa H
        clear H
        have := N7.1
        have := N6.1
        have := N9.1
        have := N8.1
        have := N11.1
        have := N10.1
        obtain ⟨_, _, _, _, _, _⟩ := sqY3 B10
        go_upto_region 36 with (first | ((with_reducible refine sqc 19 rfl ?_); refine sqC (some 87) func19 #[.agg #[.int .i64 t783, .int .i64 t784, .slice Ao49 t785.length co49], .int .i64 1] ?_; (with_reducible refine (laws_markDesk.calls kj79 t783 t784 (fun k_ => some k_ = (.slice Ao49 t785.length co49 : Value).ownBlock) (.slice Ao49 t785.length co49) t785 1 t25 t26 w _ ?side1 ?side2 A0.1).mono ?_); (case side1 => exact Z81 E0 E1 E2 E3); (case side2 => exact Kd.R_tight rfl O13.1); rintro e w2 ⟨rfl, hy0, hb, hkp⟩; refine ⟨_, rfl, ?_⟩; replace O8 := sqa (Kd.R_mono (ok' := fun k_ => some k_ ≠ (v7 : Value).ownBlock) (Kd.R_keptB ((Kd.R_apart' O8.1 (Kd.R_typed O13.1) (by decide))) hkp (fun k_ hk_ hs_ => (hk_.2) hs_)) (fun k_ hk_ => hk_.1.1)); replace O10 := sqa (Kd.R_mono (ok' := fun k_ => some k_ ≠ (v3 : Value).ownBlock) (Kd.R_keptB ((Kd.R_apart' O10.1 (Kd.R_typed O13.1) (by decide))) hkp (fun k_ hk_ hs_ => (hk_.2) hs_)) (fun k_ hk_ => hk_.1.1)); replace O11 := sqa (Kd.Q_mono (ok' := fun k_ => some k_ ≠ (.slice Ao39 t805.length co39 : Value).ownBlock ∧ some k_ ≠ (.slice Ao49 t785.length co49 : Value).ownBlock) (Kd.Q_keptB (O11.1) hkp (fun k_ hk_ hs_ => (hk_.2) hs_)) (fun k_ hk_ => ⟨hk_.1.1, hk_.1.2⟩)); replace O12 := sqa (Kd.R_mono (ok' := fun k_ => some k_ ≠ (.slice Ao32 t767.length co32 : Value).ownBlock ∧ some k_ ≠ (.slice Ao49 t785.length co49 : Value).ownBlock) (Kd.R_keptB (O12.1) hkp (fun k_ hk_ hs_ => (hk_.2) hs_)) (fun k_ hk_ => ⟨hk_.1.1, hk_.1.2⟩)); replace B0 := sqa (blk_kept (sqK B0) hkp (fun hs_ => (fun e_ => (Kd.R_ne O13.1 B0.1 (by decide)) e_) hs_)); replace B2 := sqa (blk_kept (sqK B2) hkp (fun hs_ => (fun e_ => (Kd.R_ne O13.1 B2.1 (by decide)) e_) hs_)); replace B9 := sqa (blk_kept (sqK B9) hkp (fun hs_ => (fun e_ => (Kd.R_ne O13.1 B9.1 (by decide)) e_) hs_)); replace B10 := sqa (blk_kept (sqK B10) hkp (fun hs_ => (fun e_ => (Kd.R_ne O13.1 B10.1 (by decide)) e_) hs_)); replace O13 := sqa (Kd.R_reok rfl hy0 (fun k_ e_ => O13.1.1 k_ e_)); replace HB := sqa (hb); (try clear hb); (try clear hkp); (try clear hy0); obtain ⟨Ao2, co2, eo2⟩ := Kd.R_slice O10.1; subst eo2) | ((with_reducible refine sqc 50 rfl ?_); refine sqC (some 90) func50 #[.slice Ao2 t11.length co2, .int .i64 t25] ?_; (with_reducible refine (laws_markStringS.calls kj79 (fun k_ => some k_ = (.slice Ao2 t11.length co2 : Value).ownBlock) (.slice Ao2 t11.length co2) t11 t25 t27 t28 w _ ?side1 ?side2 A2.1).mono ?_); (case side1 => exact Z81 E0 E1 E2 E3); (case side2 => exact Kd.R_tight rfl O10.1); rintro e w3 ⟨rfl, hy0, hb, hkp⟩; refine ⟨_, rfl, ?_⟩; replace O8 := sqa (Kd.R_mono (ok' := fun k_ => some k_ ≠ (.slice Ao2 t11.length co2 : Value).ownBlock) (Kd.R_keptB (O8.1) hkp (fun k_ hk_ hs_ => (hk_) hs_)) (fun k_ hk_ => hk_.1)); replace O11 := sqa (Kd.Q_mono (ok' := fun k_ => some k_ ≠ (.slice Ao39 t805.length co39 : Value).ownBlock ∧ some k_ ≠ (.slice Ao49 t785.length co49 : Value).ownBlock) (Kd.Q_keptB ((Kd.Q_apart' O11.1 (Kd.R_typed O10.1) (by decide))) hkp (fun k_ hk_ hs_ => (hk_.2) hs_)) (fun k_ hk_ => ⟨hk_.1.1.1, hk_.1.1.2⟩)); replace O12 := sqa (Kd.R_mono (ok' := fun k_ => some k_ ≠ (.slice Ao32 t767.length co32 : Value).ownBlock ∧ some k_ ≠ (.slice Ao49 t785.length co49 : Value).ownBlock) (Kd.R_keptB ((Kd.R_apart' O12.1 (Kd.R_typed O10.1) (by decide))) hkp (fun k_ hk_ hs_ => (hk_.2) hs_)) (fun k_ hk_ => ⟨hk_.1.1.1, hk_.1.1.2⟩)); replace O13 := sqa (Kd.R_mono (ok' := fun k_ => some k_ ≠ (.slice Ao32 t767.length co32 : Value).ownBlock ∧ some k_ ≠ (.slice Ao39 t805.length co39 : Value).ownBlock) (Kd.R_keptB ((Kd.R_apart' O13.1 (Kd.R_typed O10.1) (by decide))) hkp (fun k_ hk_ hs_ => (hk_.2) hs_)) (fun k_ hk_ => ⟨hk_.1.1.1, hk_.1.1.2⟩)); replace B0 := sqa (blk_kept (sqK B0) hkp (fun hs_ => (fun e_ => (Kd.R_ne O10.1 B0.1 (by decide)) e_) hs_)); replace B2 := sqa (blk_kept (sqK B2) hkp (fun hs_ => (fun e_ => (Kd.R_ne O10.1 B2.1 (by decide)) e_) hs_)); replace B9 := sqa (blk_kept (sqK B9) hkp (fun hs_ => (fun e_ => (Kd.R_ne O10.1 B9.1 (by decide)) e_) hs_)); replace B10 := sqa (blk_kept (sqK B10) hkp (fun hs_ => (fun e_ => (Kd.R_ne O10.1 B10.1 (by decide)) e_) hs_)); replace O10 := sqa (Kd.R_reok rfl hy0 (fun k_ e_ => O10.1.1 k_ e_)); replace HB := sqa (hb); (try clear hb); (try clear hkp); (try clear hy0); obtain ⟨_, _, _, _, _, _⟩ := sqY3 B10) | ((with_reducible refine sqc 20 rfl ?_); refine goesL_ (some 93) rfl rfl func20 (by kernel_rfl) rfl #[.agg #[.int .i64 t783, .int .i64 t784, .slice Ao49 t26.length co49], .int .i64 1] rfl (by (try simp only [List.map_toArray, List.map_cons, List.map_nil]); first | done | (rw [show t26.length = t785.length from (Kd.R_reads' O13.1).1.symm] <;> rfl) | rfl | (simp only [List.length_drop, List.length_take]; rfl)) ?_; (with_reducible refine (laws_heldDesk.calls kj79 t783 t784 _ _ t26 1 t29 _ ?side1 ?side2 A4.1).mono ?_); (case side1 => exact Z29 O13); (case side2 => rw [show t26.length = t785.length from (Kd.R_reads' O13.1).1.symm]; exact (Kd.R_reads' O13.1).2.1); refine sqV fun w4 hb => ?_; replace O8 := sqU O8 hb; replace O10 := sqU O10 hb; replace O11 := sqa (Kd.Q_below (Z12 O11) hb); replace O12 := sqU O12 hb; replace O13 := sqU O13 hb; replace B0 := sqT B0 hb; replace B2 := sqT B2 hb; replace B9 := sqT B9 hb; replace B10 := sqT B10 hb; replace HB := sqS (sqB4 HB E0 E1 E2 E3) hb; (try clear hb)) | ((with_reducible refine sqc 51 rfl ?_); refine goesL_ (some 98) rfl rfl func51 (by kernel_rfl) rfl #[.slice Ao2 t28.length co2, .int .i64 t29] rfl (by (try simp only [List.map_toArray, List.map_cons, List.map_nil]); first | done | (rw [show t28.length = t11.length from (Kd.R_reads' O10.1).1.symm] <;> rfl) | rfl | (simp only [List.length_drop, List.length_take]; rfl)) ?_; (with_reducible refine (laws_heldStringS.calls kj79 _ _ t28 t29 t30 _ ?side1 ?side2 A5.1).mono ?_); (case side1 => exact Z29 O10); (case side2 => rw [show t28.length = t11.length from (Kd.R_reads' O10.1).1.symm]; exact (Kd.R_reads' O10.1).2.1); refine sqV fun w6 hb => ?_; replace O8 := sqU O8 hb; replace O10 := sqU O10 hb; replace O11 := sqa (Kd.Q_below (Z12 O11) hb); replace O12 := sqU O12 hb; replace O13 := sqU O13 hb; replace B0 := sqT B0 hb; replace B2 := sqT B2 hb; replace B9 := sqT B9 hb; replace B10 := sqT B10 hb; replace HB := sqS (sqB4 HB E0 E1 E2 E3) hb; (try clear hb); have := N0.1; have := N1.1; have := N2.1; have := N3.1; obtain ⟨_, _, _, _, _, _⟩ := sqY3 B0) | ((with_reducible refine sqc 15 rfl ?_); refine sqC (some 106) func15 #[.agg #[.int .i64 a0_0, .int .i64 a0_1, .slice A0_2 l0_2.length c0_2]] ?_; (with_reducible refine (laws_toDesk.calls kj79 a0_0 a0_1 _ _ l0_2 t31 t32 t818 _ ?side1 ?side2 A6.1).mono ?_); (case side1 => exact Z2); (case side2 => exact Z3); rintro e w8 ⟨v10, rfl, ho0, hb⟩; refine ⟨_, rfl, ?_⟩; replace O8 := sqU O8 hb; replace O10 := sqU O10 hb; have O16 := sqa (Kd.R_lower (Kd.R_new' (Kd.R_new' (Kd.R_new' ho0 (Kd.Q_lt (Z12 O11))) (Kd.R_lt (sqR O12))) (Kd.R_lt (sqR O13))) (below_size (sqB4 HB E0 E1 E2 E3))); replace O11 := sqa (Kd.Q_elder' (Z12 O11) (Kd.R_base ho0) hb); replace O12 := sqa (Kd.R_elder' (sqR O12) (Kd.R_base ho0) hb); replace O13 := sqa (Kd.R_elder' (sqR O13) (Kd.R_base ho0) hb); replace B0 := sqT B0 hb; replace B2 := sqT B2 hb; replace B9 := sqT B9 hb; replace B10 := sqT B10 hb; replace HB := sqS (sqB4 HB E0 E1 E2 E3) hb; (try clear hb); (try clear ho0)) | ((with_reducible refine sqc 47 rfl ?_); refine sqC (some 108) func47 #[.slice A1 l1.length c1] ?_; (with_reducible refine (laws_toStringS.calls kj79 _ _ l1 t33 _ ?side1 ?side2 A7.1).mono ?_); (case side1 => exact Z71 HR1); (case side2 => exact HC1.1); rintro e w9 ⟨v11, rfl, ho0, hb⟩; refine ⟨_, rfl, ?_⟩; replace O11 := sqa (Kd.Q_below (Z12 O11) hb); replace O12 := sqU O12 hb; replace O13 := sqU O13 hb; replace O16 := sqU O16 hb; have O17 := sqa (Kd.R_lower (Kd.R_new' (Kd.R_new' ho0 (Kd.R_lt (sqR O8))) (Kd.R_lt (sqR O10))) (below_size (sqB4 HB E0 E1 E2 E3))); replace O8 := sqa (Kd.R_elder' (sqR O8) (Kd.R_base ho0) hb); replace O10 := sqa (Kd.R_elder' (sqR O10) (Kd.R_base ho0) hb); replace B0 := sqT B0 hb; replace B2 := sqT B2 hb; replace B9 := sqT B9 hb; replace B10 := sqT B10 hb; replace HB := sqS (sqB4 HB E0 E1 E2 E3) hb; (try clear hb); (try clear ho0); obtain ⟨Ao161, co161, eo3⟩ := Kd.R_slice O16.1; subst eo3; obtain ⟨Ao3, co3, eo4⟩ := Kd.R_slice O17.1; subst eo4) | ((with_reducible refine sqc 48 rfl ?_); refine sqC (some 109) func48 #[.agg #[.int .i64 t31, .int .i64 t32, .slice Ao161 t818.length co161], .slice Ao3 t33.length co3] ?_; (with_reducible refine (impl_DeskSay.calls kj79 t31 t32 _ _ t818 _ _ t33 t824 t825 t826 t34 _ ?sideG ?side1 ?side2 ?side3 ?side4 A9.1).mono ?_); (case sideG => exact Glob.below hG (sqB4 HB E0 E1 E2 E3)); (case side1 => exact Z29 O16); (case side2 => exact Z30 O16); (case side3 => exact Z29 O17); (case side4 => exact Z30 O17); rintro e w11 ⟨v12, v13, rfl, ho0, ho1, hb⟩; refine ⟨_, rfl, ?_⟩; have O18 := sqa (Kd.R_lower (Kd.R_new' (Kd.R_new' (Kd.R_new' (Kd.R_new' ho0 (Kd.Q_lt (Z12 O11))) (Kd.R_lt (sqR O12))) (Kd.R_lt (sqR O13))) (Kd.R_lt (sqR O16))) (below_size (sqB4 HB E0 E1 E2 E3))); replace O11 := sqa (Kd.Q_elder' (Z12 O11) (Kd.R_base ho0) hb); replace O12 := sqa (Kd.R_elder' (sqR O12) (Kd.R_base ho0) hb); replace O13 := sqa (Kd.R_elder' (sqR O13) (Kd.R_base ho0) hb); replace O16 := sqa (Kd.R_elder' (sqR O16) (Kd.R_base ho0) hb); have O19 := sqa (Kd.R_lower (Kd.R_new' (Kd.R_new' (Kd.R_new' ho1 (Kd.R_lt (sqR O8))) (Kd.R_lt (sqR O10))) (Kd.R_lt (sqR O17))) (below_size (sqB4 HB E0 E1 E2 E3))); replace O8 := sqa (Kd.R_elder' (sqR O8) (Kd.R_base ho1) hb); replace O10 := sqa (Kd.R_elder' (sqR O10) (Kd.R_base ho1) hb); replace O17 := sqa (Kd.R_elder' (sqR O17) (Kd.R_base ho1) hb); replace B0 := sqT B0 hb; replace B2 := sqT B2 hb; replace B9 := sqT B9 hb; replace B10 := sqT B10 hb; replace HB := sqS (sqB4 HB E0 E1 E2 E3) hb; (try clear hb); (try clear ho0); (try clear ho1)) | ((with_reducible refine sqd 15 rfl ?_); refine sqBx w (sqB4 HB E0 E1 E2 E3) (cs := #[.int .i64 0, .int .i64 0, .slice none 0 0]) (t := 34) ?_; intro g4 hg w13 B11 E4 HB hb; replace O8 := sqU O8 hb; replace O10 := sqU O10 hb; replace O11 := sqa (Kd.Q_below (Z12 O11) hb); replace O12 := sqU O12 hb; replace O13 := sqU O13 hb; replace O16 := sqU O16 hb; replace O17 := sqU O17 hb; replace O18 := sqU O18 hb; replace O19 := sqU O19 hb; obtain ⟨N12, N13⟩ := sqM hg B0; replace B0 := sqT B0 hb; obtain ⟨N14, N15⟩ := sqM hg B2; replace B2 := sqT B2 hb; obtain ⟨N16, N17⟩ := sqM hg B9; replace B9 := sqT B9 hb; obtain ⟨N18, N19⟩ := sqM hg B10; replace B10 := sqT B10 hb; clear hb hg; have := N13.1; have := N12.1; have := N15.1; have := N14.1; have := N17.1; have := N16.1; have := N19.1; have := N18.1; obtain ⟨_, _, _, _, _, _⟩ := sqY3 B11; obtain ⟨Ao170, co170, eo5⟩ := Kd.R_slice O18.1; subst eo5))
        (try simp only [Act.put, List.setIfInBounds_toArray, List.set_cons_zero, List.set_cons_succ])
        go_cut [121] (fun v14 wc => ∃ (kq : Nat) (x0 : Bool), v14 = .bool x0 ∧ Aside0 (laws_FnExactDeskSay.j2 kq t28 t27 x0 t783 t784 t26 = some r) ∧ Aside0 (kq ≤ kj79) ∧ Aside0 (Kd.R Kd.string 9 wc w.heap.size (fun _ => True) (.slice Ao2 t11.length co2) t28) ∧ Aside0 (Kd.Q k31 31 wc w.heap.size (fun k_ => some k_ ≠ ((.slice Ao39 t805.length co39) : Value).ownBlock ∧ some k_ ≠ ((.slice Ao49 t785.length co49) : Value).ownBlock ∧ some k_ ≠ ((.slice Ao170 t826.length co170) : Value).ownBlock) (.slice Ao32 t767.length co32) t767) ∧ Aside0 (Kd.R k31 31 wc w.heap.size (fun k_ => some k_ ≠ ((.slice Ao32 t767.length co32) : Value).ownBlock ∧ some k_ ≠ ((.slice Ao49 t785.length co49) : Value).ownBlock ∧ some k_ ≠ ((.slice Ao170 t826.length co170) : Value).ownBlock) (.slice Ao39 t805.length co39) t805) ∧ Aside0 (Kd.R k31 31 wc w.heap.size (fun k_ => some k_ ≠ ((.slice Ao32 t767.length co32) : Value).ownBlock ∧ some k_ ≠ ((.slice Ao39 t805.length co39) : Value).ownBlock ∧ some k_ ≠ ((.slice Ao170 t826.length co170) : Value).ownBlock) (.slice Ao49 t785.length co49) t26) ∧ Aside0 (Kd.R k31 31 wc w.heap.size (fun k_ => some k_ ≠ ((.slice Ao32 t767.length co32) : Value).ownBlock ∧ some k_ ≠ ((.slice Ao39 t805.length co39) : Value).ownBlock ∧ some k_ ≠ ((.slice Ao49 t785.length co49) : Value).ownBlock) (.slice Ao170 t826.length co170) t826) ∧ Aside0 (wc.heap[g0]? = some (.cells #[.int .i64 a0_0, .int .i64 a0_1, (.slice A0_2 l0_2.length c0_2)] 26 (0, 0))) ∧ Aside0 (wc.heap[g1]? = some (.cells #[.int .i64 t5, .int .i64 t6, (.slice Ao32 t767.length co32)] 34 (0, 0))) ∧ Aside0 (wc.heap[g2]? = some (.cells #[.int .i64 t8, .int .i64 t9, (.slice Ao39 t805.length co39)] 34 (0, 0))) ∧ Aside0 (wc.heap[g3]? = some (.cells #[.int .i64 t783, .int .i64 t784, (.slice Ao49 t785.length co49)] 34 (0, 0))) ∧ Aside0 (wc.heap[g4]? = some (.cells #[.int .i64 t824, .int .i64 t825, (.slice Ao170 t826.length co170)] 34 (0, 0))) ∧ Aside0 (Below w.heap.size w wc))
        case first =>
         have H := HC0.1
         clear HC0
         obtain ⟨t35, A10, H⟩ := sqD H
         by_cases c11 : t35 = true
         ·subst c11
          rw [if_pos rfl] at H
          obtain ⟨t36, A11, H⟩ := sqD H
          have H' := sqa H
          clear H
          have := N13.1
          have := N12.1
          have := N15.1
          have := N14.1
          have := N17.1
          have := N16.1
          have := N19.1
          have := N18.1
          obtain ⟨_, _, _, _, _, _⟩ := sqY3 B11
          have := N1.1
          have := N0.1
          have := N4.1
          have := N5.1
          have := N8.1
          have := N9.1
          obtain ⟨_, _, _, _, _, _⟩ := sqY3 B2
          go_wp2_with (first | ((with_reducible refine sqc 18 rfl ?_); refine sqC (some 114) func18 #[.agg #[.int .i64 t824, .int .i64 t825, .slice Ao170 t826.length co170], .agg #[.int .i64 t5, .int .i64 t6, .slice Ao32 t767.length co32]] ?_; (with_reducible refine (laws_eqDesk.calls kj79 t824 t825 _ _ t826 t5 t6 _ _ t767 true _ ?side1 ?side2 ?side3 ?side4 A10.1).mono ?_); (case side1 => exact Z134 O18 B11); (case side2 => exact Z30 O18); (case side3 => exact Z135 O11 B11); (case side4 => exact Z39 O11); refine sqV fun w14 hb => ?_; replace O8 := sqa (Kd.R_below (Z88 O8 B11) hb); replace O10 := sqa (Kd.R_below (Z88 O10 B11) hb); replace O11 := sqa (Kd.Q_below (Z89 O11 B11) hb); replace O12 := sqa (Kd.R_below (Z88 O12 B11) hb); replace O13 := sqa (Kd.R_below (Z88 O13 B11) hb); replace O16 := sqa (Kd.R_below (Z88 O16 B11) hb); replace O17 := sqa (Kd.R_below (Z88 O17 B11) hb); replace O18 := sqa (Kd.R_below (Z88 O18 B11) hb); replace O19 := sqa (Kd.R_below (Z88 O19 B11) hb); replace B0 := sqH N12 B0 hb; replace B2 := sqH N14 B2 hb; replace B9 := sqH N16 B9 hb; replace B10 := sqH N18 B10 hb; replace B11 := sqa (blk_below (g := g4) (o := .cells #[.int .i64 t824, .int .i64 t825, .slice Ao170 t826.length co170] 34 (0, 0)) (Z90 B11) hb); replace HB := sqa (below_step (Z15 E0 E1 E2 E3 E4) hb); (try clear hb); obtain ⟨Ao4, co4, eo6⟩ := Kd.R_slice O19.1; subst eo6; obtain ⟨Ao5, co5, eo7⟩ := Kd.R_slice O8.1; subst eo7) | (go_at_call 49; (with_reducible refine (laws_eqStringS.calls kj79 _ _ t34 _ _ t7 t36 _ ?side1 ?side2 ?side3 ?side4 A11.1).mono ?_); (case side1 => exact Z29 O19); (case side2 => exact Z30 O19); (case side3 => exact Z29 O8); (case side4 => exact Z30 O8); rintro e w' ⟨rfl, ⟨nd, rfl⟩⟩))
          go_meet
          case rel => exact ⟨_, (!t36), Z4, H', ⟨by have := HJ18.out; have := HJ79.out; first | omega | exact Nat.le_refl _⟩, ⟨Z91 O10⟩, ⟨Z92 O11⟩, ⟨Z93 O12⟩, ⟨Z93 O13⟩, ⟨Z94 O18⟩, ⟨Z95 B0⟩, ⟨Z95 B2⟩, ⟨Z95 B9⟩, ⟨Z95 B10⟩, ⟨Z95 B11⟩, ⟨Z15 E0 E1 E2 E3 E4⟩⟩
         obtain rfl := sqb c11
         rw [if_neg sqF] at H
         have H' := sqa H
         clear H
         have := N13.1
         have := N12.1
         have := N15.1
         have := N14.1
         have := N17.1
         have := N16.1
         have := N19.1
         have := N18.1
         obtain ⟨_, _, _, _, _, _⟩ := sqY3 B11
         have := N1.1
         have := N0.1
         have := N4.1
         have := N5.1
         have := N8.1
         have := N9.1
         obtain ⟨_, _, _, _, _, _⟩ := sqY3 B2
         go_wp2_with (first | ((with_reducible refine sqc 18 rfl ?_); refine sqC (some 114) func18 #[.agg #[.int .i64 t824, .int .i64 t825, .slice Ao170 t826.length co170], .agg #[.int .i64 t5, .int .i64 t6, .slice Ao32 t767.length co32]] ?_; (with_reducible refine (laws_eqDesk.calls kj79 t824 t825 _ _ t826 t5 t6 _ _ t767 false _ ?side1 ?side2 ?side3 ?side4 A10.1).mono ?_); (case side1 => exact Z134 O18 B11); (case side2 => exact Z30 O18); (case side3 => exact Z135 O11 B11); (case side4 => exact Z39 O11); refine sqV fun w15 hb => ?_; replace O8 := sqa (Kd.R_below (Z88 O8 B11) hb); replace O10 := sqa (Kd.R_below (Z88 O10 B11) hb); replace O11 := sqa (Kd.Q_below (Z89 O11 B11) hb); replace O12 := sqa (Kd.R_below (Z88 O12 B11) hb); replace O13 := sqa (Kd.R_below (Z88 O13 B11) hb); replace O16 := sqa (Kd.R_below (Z88 O16 B11) hb); replace O17 := sqa (Kd.R_below (Z88 O17 B11) hb); replace O18 := sqa (Kd.R_below (Z88 O18 B11) hb); replace O19 := sqa (Kd.R_below (Z88 O19 B11) hb); replace B0 := sqH N12 B0 hb; replace B2 := sqH N14 B2 hb; replace B9 := sqH N16 B9 hb; replace B10 := sqH N18 B10 hb; replace B11 := sqa (blk_below (g := g4) (o := .cells #[.int .i64 t824, .int .i64 t825, .slice Ao170 t826.length co170] 34 (0, 0)) (Z90 B11) hb); replace HB := sqa (below_step (Z15 E0 E1 E2 E3 E4) hb); (try clear hb)))
         go_meet
         case rel => exact ⟨_, (true), Z4, H', ⟨by have := HJ18.out; have := HJ79.out; first | omega | exact Nat.le_refl _⟩, ⟨Z91 O10⟩, ⟨Z92 O11⟩, ⟨Z93 O12⟩, ⟨Z93 O13⟩, ⟨Z94 O18⟩, ⟨Z95 B0⟩, ⟨Z95 B2⟩, ⟨Z95 B9⟩, ⟨Z95 B10⟩, ⟨Z95 B11⟩, ⟨Z15 E0 E1 E2 E3 E4⟩⟩
        case rest =>
         clear HC0
         obtain ⟨kq, x0, rfl, HA, HJ0, O10, O11, O12, O13, O20, B0, B2, B9, B10, B11, HB⟩ := hcut
         have hl11_144 := (Kd.R_reads' O10.1).1
         rw [hl11_144] at O10
         (try simp only [hl11_144])
         (try simp only [hl11_144] at B0)
         (try simp only [hl11_144] at B2)
         (try simp only [hl11_144] at B9)
         (try simp only [hl11_144] at B10)
         (try simp only [hl11_144] at B11)
         (try simp only [hl11_144] at O11)
         (try simp only [hl11_144] at O12)
         (try simp only [hl11_144] at O13)
         (try simp only [hl11_144] at O20)
         have hl0 := (Kd.R_reads' O13.1).1
         rw [hl0] at O13
         (try simp only [hl0])
         (try simp only [hl0] at B0)
         (try simp only [hl0] at B2)
         (try simp only [hl0] at B9)
         (try simp only [hl0] at B10)
         (try simp only [hl0] at B11)
         (try simp only [hl0] at O10)
         (try simp only [hl0] at O11)
         (try simp only [hl0] at O12)
         (try simp only [hl0] at O20)
         cases kq with
         | zero => exact absurd HA.out (by simp [laws_FnExactDeskSay.j2])
         | succ kj0 =>
          have H := HA.out
          clear HA
          simp only [laws_FnExactDeskSay.j2] at H
          by_cases c12 : x0 = true
          ·subst c12
           rw [if_pos rfl] at H
           obtain rfl := sqo H
           go_wp2
           go_ret
           exact ⟨Z16, Z15 E0 E1 E2 E3 E4⟩
          obtain rfl := sqb c12
          rw [if_neg sqF] at H
          obtain ⟨t37, A12, H⟩ := sqD H
          by_cases c13 : t37 < 0
          ·rw [if_pos c13] at H
           exact absurd (sqo H) Z87
          rw [if_neg c13] at H
          have c14 : decide (t37 < 0) = false := decide_eq_false c13
          clear c13
          obtain ⟨t38, A19, H⟩ := sqD H
          by_cases c15 : t38 < 0
          ·rw [if_pos c15] at H
           exact absurd (sqo H) Z87
          rw [if_neg c15] at H
          have c16 : decide (t38 < 0) = false := decide_eq_false c15
          clear c15
          by_cases c17 : t38 = t27
          ·rw [if_pos c17] at H
           have c18 : (t38 == t27) = true := sqe1 c17
           have c19 : (t38 != t27) = false := sqn0 c17
           clear c17
           obtain rfl := sqo H
           have := N7.1
           have := N6.1
           have := N9.1
           have := N8.1
           have := N11.1
           have := N10.1
           have := N18.1
           have := N19.1
           obtain ⟨_, _, _, _, _, _⟩ := sqY3 B10
           go_wp2_with (first | ((with_reducible refine sqc 20 rfl ?_); refine sqC (some 124) func20 #[.agg #[.int .i64 t783, .int .i64 t784, .slice Ao49 t26.length co49], .int .i64 1] ?_; (with_reducible refine (laws_heldDesk.calls kj0 t783 t784 _ _ t26 1 t37 _ ?side1 ?side2 A12.1).mono ?_); (case side1 => exact Z29 O13); (case side2 => exact Z30 O13); refine sqV fun w16 hb => ?_; replace O10 := sqU O10 hb; replace O11 := sqa (Kd.Q_below (Z12 O11) hb); replace O12 := sqU O12 hb; replace O13 := sqU O13 hb; replace O20 := sqU O20 hb; replace B0 := sqT B0 hb; replace B2 := sqT B2 hb; replace B9 := sqT B9 hb; replace B10 := sqT B10 hb; replace B11 := sqT B11 hb; replace HB := sqa (below_step (Z15 E0 E1 E2 E3 E4) hb); (try clear hb)) | ((with_reducible refine sqc 51 rfl ?_); refine sqC (some 129) func51 #[.slice Ao2 t28.length co2, .int .i64 t37] ?_; (with_reducible refine (laws_heldStringS.calls kj0 _ _ t28 t37 t38 _ ?side1 ?side2 A19.1).mono ?_); (case side1 => exact Z29 O10); (case side2 => exact Z30 O10); refine sqV fun w17 hb => ?_; replace O10 := sqU O10 hb; replace O11 := sqa (Kd.Q_below (Z12 O11) hb); replace O12 := sqU O12 hb; replace O13 := sqU O13 hb; replace O20 := sqU O20 hb; replace B0 := sqT B0 hb; replace B2 := sqT B2 hb; replace B9 := sqT B9 hb; replace B10 := sqT B10 hb; replace B11 := sqT B11 hb; replace HB := sqa (below_step (Z15 E0 E1 E2 E3 E4) hb); (try clear hb)))
           go_ret
           exact ⟨Z16, Z15 E0 E1 E2 E3 E4⟩
          rw [if_neg c17] at H
          exact absurd (sqo H) Z87
       rw [if_neg c7] at H
       exact absurd (sqo H) Z87
    rw [if_neg c77] at H
    exact absurd (sqo H) Z87
   rw [if_neg c74] at H
   exact absurd (sqo H) Z87

end Go.Proofs.YtofmlbgfcohhoaaGreatDoor.PFnExactDeskSay
