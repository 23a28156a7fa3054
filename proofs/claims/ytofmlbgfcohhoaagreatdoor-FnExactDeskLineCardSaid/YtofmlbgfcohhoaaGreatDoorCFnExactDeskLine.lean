/- The walk of the law FnExactDeskLine, for the answer true: turned by a program of this session from the printed walk. -/
import Derived.Test.YtofmlbgfcohhoaaGreatDoorPFnExactDeskLinex22
namespace Go.Proofs.YtofmlbgfcohhoaaGreatDoor.PFnExactDeskLine
open Go.RowKit Go.Proofs.YtofmlbgfcohhoaaGreatDoorW.PrintWords Go.Proofs.YtofmlbgfcohhoaaGreatDoorW.PrintLast Go.Proofs.YtofmlbgfcohhoaaGreatDoorW.PrintMore Go.Proofs.YtofmlbgfcohhoaaGreatDoor.Lib
attribute [local go_sem] max2_int min2_int max_two min_two max_three min_three max_four min_four   -- for this text's walks alone
set_option linter.unusedVariables false
set_option linter.unusedSimpArgs false

/-! ### laws_FnExactDeskLine: function 8 -/
mutual
def laws_FnExactDeskLine.j0 : Nat → ByteArray → ByteArray → ByteArray → Bool → Int → Int → List (S23) → Int → Int → List (S31) → Int → Int → List (S31) → Int → Int → List (S31) → Option (Bool)
 | 0, _, _, _, _, _, _, _, _, _, _, _, _, _, _, _, _ => none
 | k + 1, x1, x7, x10, x47, x704000, x704001, x704002, x717000, x717001, x717002, x723000, x723001, x723002, x730000, x730001, x730002 => if x47 = true then (some false) else ((laws_toDesk.f k x704000 x704001 x704002).bind fun bt731 => ((laws_eqDesk.f k x723000 x723001 x723002 bt731.1 bt731.2.1 bt731.2.2).bind fun t736 => (if t736 = true then ((laws_markDesk.f k x723000 x723001 x723002 1).bind fun bt737 => (if bt737.1 < 0 then (laws_FnExactDeskLine.j1 k x1 x7 true x704000 x704001 x704002 x717000 x717001 x717002 x730000 x730001 x730002) else ((laws_eqDesk.f k x730000 x730001 x730002 x717000 x717001 x717002).bind fun t739 => (if t739 = true then (laws_FnExactDeskLine.j1 k x1 x7 (x10.toList != x7.toList) x704000 x704001 x704002 x717000 x717001 x717002 x730000 x730001 x730002) else (laws_FnExactDeskLine.j1 k x1 x7 true x704000 x704001 x704002 x717000 x717001 x717002 x730000 x730001 x730002))))) else (some false))))
def laws_FnExactDeskLine.j1 : Nat → ByteArray → ByteArray → Bool → Int → Int → List (S23) → Int → Int → List (S31) → Int → Int → List (S31) → Option (Bool)
 | 0, _, _, _, _, _, _, _, _, _, _, _, _ => none
 | k + 1, x1, x7, x68, x704000, x704001, x704002, x717000, x717001, x717002, x730000, x730001, x730002 => if x68 = true then (some false) else ((laws_markDesk.f k x730000 x730001 x730002 1).bind fun bt740 => ((laws_heldDesk.f k x730000 x730001 bt740.2 1).bind fun t742 => (if t742 < 0 then (some false) else (if t742 = bt740.1 then ((laws_toDesk.f k x704000 x704001 x704002).bind fun bt743 => ((impl_DeskLine.f k bt743.1 bt743.2.1 bt743.2.2 x1).bind fun bt748 => ((laws_eqDesk.f k bt748.1 bt748.2.1 bt748.2.2.1 x717000 x717001 x717002).bind fun t755 => (if t755 = true then (laws_FnExactDeskLine.j2 k bt740.1 (bt748.2.2.2.toList != x7.toList) x730000 x730001 bt740.2) else (laws_FnExactDeskLine.j2 k bt740.1 true x730000 x730001 bt740.2))))) else (some false)))))
def laws_FnExactDeskLine.j2 : Nat → Int → Bool → Int → Int → List (S31) → Option (Bool)
 | 0, _, _, _, _, _ => none
 | k + 1, x12, x95, x730000, x730001, x730002 => if x95 = true then (some false) else ((laws_heldDesk.f k x730000 x730001 x730002 1).bind fun t756 => (if t756 < 0 then (some false) else (if t756 = x12 then (some true) else (some false))))
end
def laws_FnExactDeskLine.f (k : Nat) (a0_0 : Int) (a0_1 : Int) (l0_2 : List (S23)) (a1 : ByteArray) : Option (Bool) := if (a1.size : Int) > 1048576 then (some true) else ((laws_szDesk.f a0_0 a0_1 l0_2 1048576).bind fun t704 => (if t704 < 0 then (some true) else ((laws_toDesk.f k a0_0 a0_1 l0_2).bind fun bt705 => ((spec_DeskLine.f k bt705.1 bt705.2.1 bt705.2.2 a1).bind fun bt710 => ((laws_toDesk.f k a0_0 a0_1 l0_2).bind fun bt717 => ((impl_DeskLine.f k bt717.1 bt717.2.1 bt717.2.2 a1).bind fun bt723 => ((laws_eqDesk.f k bt723.1 bt723.2.1 bt723.2.2.1 bt710.1 bt710.2.1 bt710.2.2.1).bind fun t730 => (if t730 = true then (laws_FnExactDeskLine.j0 k a1 bt710.2.2.2 bt723.2.2.2 (bt723.2.2.2.toList != bt710.2.2.2.toList) a0_0 a0_1 l0_2 bt710.1 bt710.2.1 bt710.2.2.1 bt717.1 bt717.2.1 bt717.2.2 bt723.1 bt723.2.1 bt723.2.2.1) else (laws_FnExactDeskLine.j0 k a1 bt710.2.2.2 bt723.2.2.2 true a0_0 a0_1 l0_2 bt710.1 bt710.2.1 bt710.2.2.1 bt717.1 bt717.2.1 bt717.2.2 bt723.1 bt723.2.1 bt723.2.2.1)))))))))
abbrev laws_FnExactDeskLine.M (k : Nat) : Prop := (∀ y0 y1 y2 y3 y4 y5 y6 y7 y8 y9 y10 y11 y12 y13 y14 y15, LeO (laws_FnExactDeskLine.j0 k y0 y1 y2 y3 y4 y5 y6 y7 y8 y9 y10 y11 y12 y13 y14 y15) (laws_FnExactDeskLine.j0 (k + 1) y0 y1 y2 y3 y4 y5 y6 y7 y8 y9 y10 y11 y12 y13 y14 y15)) ∧ (∀ y0 y1 y2 y3 y4 y5 y6 y7 y8 y9 y10 y11, LeO (laws_FnExactDeskLine.j1 k y0 y1 y2 y3 y4 y5 y6 y7 y8 y9 y10 y11) (laws_FnExactDeskLine.j1 (k + 1) y0 y1 y2 y3 y4 y5 y6 y7 y8 y9 y10 y11)) ∧ (∀ y0 y1 y2 y3 y4, LeO (laws_FnExactDeskLine.j2 k y0 y1 y2 y3 y4) (laws_FnExactDeskLine.j2 (k + 1) y0 y1 y2 y3 y4))
theorem laws_FnExactDeskLine.mono_t : ∀ k, laws_FnExactDeskLine.M k → laws_FnExactDeskLine.M (k + 1) ∧ ∀ a0 a1 a2 a3, LeO (laws_FnExactDeskLine.f k a0 a1 a2 a3) (laws_FnExactDeskLine.f (k + 1) a0 a1 a2 a3) := by
  rintro k ⟨ih0, ih1, ih2⟩
  refine ⟨⟨?_, ?_, ?_⟩, ?_⟩ <;> intros <;> (first | unfold laws_FnExactDeskLine.j0 | unfold laws_FnExactDeskLine.j1 | unfold laws_FnExactDeskLine.j2 | unfold laws_FnExactDeskLine.f) <;> repeat' (with_reducible first | exact ih0 _ _ _ _ _ _ _ _ _ _ _ _ _ _ _ _ | exact ih1 _ _ _ _ _ _ _ _ _ _ _ _ | exact ih2 _ _ _ _ _ | exact impl_DeskLine.mono _ _ _ _ _ | exact laws_eqDesk.mono _ _ _ _ _ _ _ | exact laws_heldDesk.mono _ _ _ _ _ | exact laws_markDesk.mono _ _ _ _ _ | exact laws_toDesk.mono _ _ _ _ | exact spec_DeskLine.mono _ _ _ _ _ | exact LeO.refl _ | exact LeO.none _ | refine LeO.ite ?_ ?_ | refine LeO.bind ?_ fun _ => ?_)
theorem laws_FnExactDeskLine.mono_l : ∀ k, laws_FnExactDeskLine.M k
 | 0 => ⟨fun _ _ _ _ _ _ _ _ _ _ _ _ _ _ _ _ r h => by simp [laws_FnExactDeskLine.j0] at h, fun _ _ _ _ _ _ _ _ _ _ _ _ r h => by simp [laws_FnExactDeskLine.j1] at h, fun _ _ _ _ _ r h => by simp [laws_FnExactDeskLine.j2] at h⟩
 | k + 1 => (laws_FnExactDeskLine.mono_t k (laws_FnExactDeskLine.mono_l k)).1
theorem laws_FnExactDeskLine.mono a0 a1 a2 a3 k : LeO (laws_FnExactDeskLine.f k a0 a1 a2 a3) (laws_FnExactDeskLine.f (k + 1) a0 a1 a2 a3) := (laws_FnExactDeskLine.mono_t k (laws_FnExactDeskLine.mono_l k)).2 a0 a1 a2 a3
set_option maxHeartbeats 8000000 in
set_option maxRecDepth 100000 in
theorem laws_FnExactDeskLine.calls (k : Nat) (a0_0 : Int) (a0_1 : Int) (A0_2 : Option Addr) (c0_2 : Nat) (l0_2 : List (S23)) (a1 : ByteArray) (r : Bool) (w : World) (hG : Glob w) (hr0_2 : Kd.C k23 w A0_2 l0_2.length l0_2) (hc0_2 : l0_2.length ≤ c0_2) (hT : Aside0 (r = true)) (h : laws_FnExactDeskLine.f k a0_0 a0_1 l0_2 a1 = some r) :
  Calls Tryz.prog 8 #[.agg #[.int .i64 a0_0, .int .i64 a0_1, .slice A0_2 l0_2.length c0_2], .string a1] w fun e w' => e = .returned (.bool r) ∧ Below w.heap.size w w' := by
 have hu26 := Tryz.underlying26
 have hu34 := Tryz.underlying34
 have HR0_2 := Aside0.mk hr0_2
 have HC0_2 := Aside0.mk hc0_2
 clear hr0_2 hc0_2
 have HB := Aside0.mk (Below.refl w.heap.size w)
 unfold laws_FnExactDeskLine.f at h
 have H := h
 clear h
 by_cases c3 : (a1.size : Int) > 1048576
 ·rw [if_pos c3] at H
  have c3b0 : decide (1048576 < (a1.size : Int)) = true := decide_eq_true c3
  have c3b1 : decide (1048576 < a1.size) = true := decide_eq_true (by omega)
  clear c3
  obtain rfl := Option.some.inj H
  go_enter Tryz.func8, Tryz.ntmps8
  go_wp2_with (first | ((with_reducible refine gate_dst (N := 2) rfl ?_); refine sqBx w (sqB HB) (N := 2) (cs := #[.int .i64 a0_0, .int .i64 a0_1, .slice A0_2 l0_2.length c0_2]) (t := 26) ?_; intro gb703 hg w4 BK703 GE703 HB hb; clear hb hg))
  go_ret
  exact ⟨Z6, sqB1 HB GE703⟩
 rw [if_neg c3] at H
 have c3b0 : decide (1048576 < (a1.size : Int)) = false := decide_eq_false c3
 have c3b1 : decide (1048576 < a1.size) = false := decide_eq_false (by omega)
 clear c3
 obtain ⟨t704, A5, H⟩ := sqD H
 by_cases c6 : t704 < 0
 ·rw [if_pos c6] at H
  have c6b0 : decide (t704 < 0) = true := decide_eq_true c6
  clear c6
  obtain rfl := Option.some.inj H
  go_enter Tryz.func8, Tryz.ntmps8
  go_wp2_with (first | ((with_reducible refine gate_dst (N := 2) rfl ?_); refine sqBx w (sqB HB) (N := 2) (cs := #[.int .i64 a0_0, .int .i64 a0_1, .slice A0_2 l0_2.length c0_2]) (t := 26) ?_; intro gb703 hg w7 BK703 GE703 HB hb; clear hb hg; obtain ⟨hcz8_0, hcz8_1, hcz8_2, hfz8_0, hfz8_1, hfz8_2⟩ := sqY3 BK703) | ((with_reducible refine gate_callee (f := 12) rfl ?_); refine sqC (some 21) Tryz.func12 #[.agg #[.int .i64 a0_0, .int .i64 a0_1, .slice A0_2 l0_2.length c0_2], .int .i64 1048576] ?_; (with_reducible refine (laws_szDesk.calls a0_0 a0_1 _ _ l0_2 1048576 t704 _ ?side1 ?side2 A5.out).mono ?_); (case side1 => exact Z16); (case side2 => exact Z13); rintro e w9 ⟨rfl, hb⟩; refine ⟨_, rfl, ?_⟩; replace BK703 := sqT BK703 hb; replace HB := sqS (sqB1 HB GE703) hb; (try clear hb)))
  go_ret
  exact ⟨Z6, sqB1 HB GE703⟩
 rw [if_neg c6] at H
 have c6b0 : decide (t704 < 0) = false := decide_eq_false c6
 clear c6
 obtain ⟨⟨t705, t706, t707⟩, A10, H⟩ := sqD H
 try dsimp only at H
 obtain ⟨⟨t710, t711, t712, t715⟩, A11, H⟩ := sqD H
 try dsimp only at H
 obtain ⟨⟨t717, t718, t719⟩, A12, H⟩ := sqD H
 try dsimp only at H
 obtain ⟨⟨t723, t724, t725, t728⟩, A13, H⟩ := sqD H
 try dsimp only at H
 have HC14 := Aside0.mk H
 clear H
 go_enter Tryz.func8, Tryz.ntmps8
 go_upto_region 10 with (first | ((with_reducible refine gate_dst (N := 2) rfl ?_); refine sqBx w (sqB HB) (N := 2) (cs := #[.int .i64 a0_0, .int .i64 a0_1, .slice A0_2 l0_2.length c0_2]) (t := 26) ?_; intro gb703 hg w15 BK703 GE703 HB hb; clear hb hg; obtain ⟨hcz16_0, hcz16_1, hcz16_2, hfz16_0, hfz16_1, hfz16_2⟩ := sqY3 BK703) | ((with_reducible refine gate_callee (f := 12) rfl ?_); refine sqC (some 21) Tryz.func12 #[.agg #[.int .i64 a0_0, .int .i64 a0_1, .slice A0_2 l0_2.length c0_2], .int .i64 1048576] ?_; (with_reducible refine (laws_szDesk.calls a0_0 a0_1 _ _ l0_2 1048576 t704 _ ?side1 ?side2 A5.out).mono ?_); (case side1 => exact Z16); (case side2 => exact Z13); rintro e w17 ⟨rfl, hb⟩; refine ⟨_, rfl, ?_⟩; replace BK703 := sqT BK703 hb; replace HB := sqS (sqB1 HB GE703) hb; (try clear hb); obtain ⟨hcz18_0, hcz18_1, hcz18_2, hfz18_0, hfz18_1, hfz18_2⟩ := sqY3 BK703) | ((with_reducible refine gate_callee (f := 15) rfl ?_); refine sqC (some 26) Tryz.func15 #[.agg #[.int .i64 a0_0, .int .i64 a0_1, .slice A0_2 l0_2.length c0_2]] ?_; (with_reducible refine (laws_toDesk.calls k a0_0 a0_1 _ _ l0_2 t705 t706 t707 _ ?side1 ?side2 A10.out).mono ?_); (case side1 => exact Z16); (case side2 => exact Z13); rintro e w19 ⟨v708, rfl, ho0, hb⟩; refine ⟨_, rfl, ?_⟩; have HO709 := sqL ho0 (sqB1 HB GE703); replace BK703 := sqT BK703 hb; replace HB := sqS (sqB1 HB GE703) hb; (try clear hb); (try clear ho0); obtain ⟨Ao20, co20, eo20⟩ := Kd.R_slice HO709.out; subst eo20) | ((with_reducible refine gate_callee (f := 43) rfl ?_); refine sqC (some 28) Tryz.func43 #[.agg #[.int .i64 t705, .int .i64 t706, .slice Ao20 t707.length co20], .string a1] ?_; (with_reducible refine (spec_DeskLine.calls k t705 t706 _ _ t707 a1 t710 t711 t712 t715 _ ?side1 ?side2 A11.out).mono ?_); (case side1 => exact Z8 HO709); (case side2 => exact Z9 HO709); rintro e w21 ⟨v713, rfl, ho0, hb⟩; refine ⟨_, rfl, ?_⟩; have HO714 := Aside0.mk (Kd.Q_lower (Kd.Q_new' ho0 (Kd.R_lt (sqR HO709))) (below_size (sqB1 HB GE703))); replace HO709 := Aside0.mk (Kd.R_elder' (sqR HO709) (Kd.Q_base ho0) hb); replace BK703 := sqT BK703 hb; replace HB := sqS (sqB1 HB GE703) hb; (try clear hb); (try clear ho0)) | ((with_reducible refine gate_dst (N := 6) rfl ?_); refine sqBx w (sqB1 HB GE703) (N := 6) (cs := #[.int .i64 0, .int .i64 0, .slice none 0 0]) (t := 34) ?_; intro gb716 hg w22 BK716 GE716 HB hb; replace HO709 := sqU HO709 hb; replace HO714 := Aside0.mk (Kd.Q_below (Z46 HO714) hb); obtain ⟨NB703_716, NB716_703⟩ := sqM hg BK703; replace BK703 := sqT BK703 hb; clear hb hg; have hnb23 := NB716_703.out; have hnc23 := NB703_716.out; obtain ⟨hcz24_0, hcz24_1, hcz24_2, hfz24_0, hfz24_1, hfz24_2⟩ := sqY3 BK716; obtain ⟨Ao25, co25, eo25, _⟩ := Kd.Q_slice HO714.out; subst eo25; obtain ⟨hcz26_0, hcz26_1, hcz26_2, hfz26_0, hfz26_1, hfz26_2⟩ := sqY3 BK703) | ((with_reducible refine gate_callee (f := 15) rfl ?_); refine sqC (some 32) Tryz.func15 #[.agg #[.int .i64 a0_0, .int .i64 a0_1, .slice A0_2 l0_2.length c0_2]] ?_; (with_reducible refine (laws_toDesk.calls k a0_0 a0_1 _ _ l0_2 t717 t718 t719 _ ?side1 ?side2 A12.out).mono ?_); (case side1 => exact Kd.C_below HR0_2.out (sqB2 HB GE703 GE716)); (case side2 => exact Z13); rintro e w27 ⟨v720, rfl, ho0, hb⟩; refine ⟨_, rfl, ?_⟩; have HO721 := Aside0.mk (Kd.R_lower (Kd.R_new' (Kd.R_new' ho0 (Kd.R_lt (Z91 HO709 BK716))) (Kd.Q_lt (Z92 HO714 BK716))) (below_size (sqB2 HB GE703 GE716))); replace HO709 := Aside0.mk (Kd.R_elder' (Z91 HO709 BK716) (Kd.R_base ho0) hb); replace HO714 := Aside0.mk (Kd.Q_elder' (Z92 HO714 BK716) (Kd.R_base ho0) hb); replace BK703 := sqH NB703_716 BK703 hb; replace BK716 := Aside0.mk (blk_below (g := gb716) (o := .cells #[.int .i64 t710, .int .i64 t711, .slice Ao25 t712.length co25] 34 (0, 0)) (by refine sqPut (cs := #[.int .i64 t710, .int .i64 t711, .slice none 0 0]) ?_ 2; refine sqPut (cs := #[.int .i64 t710, .int .i64 0, .slice none 0 0]) ?_ 1; refine sqPut (cs := #[.int .i64 0, .int .i64 0, .slice none 0 0]) ?_ 0; exact sqK BK716) hb); replace HB := sqS (sqB2 HB GE703 GE716) hb; (try clear hb); (try clear ho0)) | ((with_reducible refine gate_dst (N := 8) rfl ?_); refine sqBx w (sqB2 HB GE703 GE716) (N := 8) (cs := #[.int .i64 0, .int .i64 0, .slice none 0 0]) (t := 34) ?_; intro gb722 hg w28 BK722 GE722 HB hb; replace HO709 := sqU HO709 hb; replace HO714 := Aside0.mk (Kd.Q_below (Z46 HO714) hb); replace HO721 := sqU HO721 hb; obtain ⟨NB703_722, NB722_703⟩ := sqM hg BK703; replace BK703 := sqT BK703 hb; obtain ⟨NB716_722, NB722_716⟩ := sqM hg BK716; replace BK716 := sqT BK716 hb; clear hb hg; have hnb29 := NB722_703.out; have hnc29 := NB703_722.out; have hnb30 := NB722_716.out; have hnc30 := NB716_722.out; obtain ⟨hcz31_0, hcz31_1, hcz31_2, hfz31_0, hfz31_1, hfz31_2⟩ := sqY3 BK722; obtain ⟨Ao32, co32, eo32⟩ := Kd.R_slice HO721.out; subst eo32) | ((with_reducible refine gate_callee (f := 40) rfl ?_); refine sqC (some 36) Tryz.func40 #[.agg #[.int .i64 t717, .int .i64 t718, .slice Ao32 t719.length co32], .string a1] ?_; (with_reducible refine (impl_DeskLine.calls k t717 t718 _ _ t719 a1 t723 t724 t725 t728 _ ?sideG ?side1 ?side2 A13.out).mono ?_); (case sideG => exact Glob.below hG (sqB3 HB GE703 GE716 GE722)); (case side1 => refine (Kd.R_reads' (e := 31) (base := w.heap.size) (ok := fun k_ => ((True ∧ some k_ ≠ (.slice Ao20 t707.length co20 : Value).ownBlock) ∧ some k_ ≠ (.slice Ao25 t712.length co25 : Value).ownBlock)) (n := t719.length) (c := co32) ?_).2.2; exact (Z93 HO721 BK722)); (case side2 => exact Z9 HO721); rintro e w33 ⟨v726, rfl, ho0, hb⟩; refine ⟨_, rfl, ?_⟩; have HO727 := Aside0.mk (Kd.R_lower (Kd.R_new' (Kd.R_new' (Kd.R_new' ho0 (Kd.R_lt (Z93 HO709 BK722))) (Kd.Q_lt (Z94 HO714 BK722))) (Kd.R_lt (Z93 HO721 BK722))) (below_size (sqB3 HB GE703 GE716 GE722))); replace HO709 := Aside0.mk (Kd.R_elder' (Z93 HO709 BK722) (Kd.R_base ho0) hb); replace HO714 := Aside0.mk (Kd.Q_elder' (Z94 HO714 BK722) (Kd.R_base ho0) hb); replace HO721 := Aside0.mk (Kd.R_elder' (Z93 HO721 BK722) (Kd.R_base ho0) hb); replace BK703 := sqH NB703_722 BK703 hb; replace BK716 := sqH NB716_722 BK716 hb; replace BK722 := Aside0.mk (blk_below (g := gb722) (o := .cells #[.int .i64 t717, .int .i64 t718, .slice Ao32 t719.length co32] 34 (0, 0)) (by refine sqPut (cs := #[.int .i64 t717, .int .i64 t718, .slice none 0 0]) ?_ 2; refine sqPut (cs := #[.int .i64 t717, .int .i64 0, .slice none 0 0]) ?_ 1; refine sqPut (cs := #[.int .i64 0, .int .i64 0, .slice none 0 0]) ?_ 0; exact sqK BK722) hb); replace HB := sqS (sqB3 HB GE703 GE716 GE722) hb; (try clear hb); (try clear ho0)) | ((with_reducible refine gate_dst (N := 9) rfl ?_); refine sqBx w (sqB3 HB GE703 GE716 GE722) (N := 9) (cs := #[.int .i64 0, .int .i64 0, .slice none 0 0]) (t := 34) ?_; intro gb729 hg w34 BK729 GE729 HB hb; replace HO709 := sqU HO709 hb; replace HO714 := Aside0.mk (Kd.Q_below (Z46 HO714) hb); replace HO721 := sqU HO721 hb; replace HO727 := sqU HO727 hb; obtain ⟨NB703_729, NB729_703⟩ := sqM hg BK703; replace BK703 := sqT BK703 hb; obtain ⟨NB716_729, NB729_716⟩ := sqM hg BK716; replace BK716 := sqT BK716 hb; obtain ⟨NB722_729, NB729_722⟩ := sqM hg BK722; replace BK722 := sqT BK722 hb; clear hb hg; have hnb35 := NB729_703.out; have hnc35 := NB703_729.out; have hnb36 := NB729_716.out; have hnc36 := NB716_729.out; have hnb37 := NB729_722.out; have hnc37 := NB722_729.out; obtain ⟨hcz38_0, hcz38_1, hcz38_2, hfz38_0, hfz38_1, hfz38_2⟩ := sqY3 BK729; obtain ⟨Ao39, co39, eo39⟩ := Kd.R_slice HO727.out; subst eo39))
 (try simp only [Act.put, List.setIfInBounds_toArray, List.set_cons_zero, List.set_cons_succ])
 go_cut [47] (fun v47 wc => ∃ (kq : Nat) (x47_13 : Bool), v47 = .bool x47_13 ∧ Aside0 (laws_FnExactDeskLine.j0 kq a1 t715 t728 x47_13 a0_0 a0_1 l0_2 t710 t711 t712 t717 t718 t719 t723 t724 t725 = some r) ∧ Aside0 (kq ≤ k) ∧ Aside0 (Kd.Q k31 31 wc w.heap.size (fun k_ => some k_ ≠ ((.slice Ao32 t719.length co32) : Value).ownBlock ∧ some k_ ≠ ((.slice Ao39 t725.length co39) : Value).ownBlock) (.slice Ao25 t712.length co25) t712) ∧ Aside0 (Kd.R k31 31 wc w.heap.size (fun k_ => some k_ ≠ ((.slice Ao25 t712.length co25) : Value).ownBlock ∧ some k_ ≠ ((.slice Ao39 t725.length co39) : Value).ownBlock) (.slice Ao32 t719.length co32) t719) ∧ Aside0 (Kd.R k31 31 wc w.heap.size (fun k_ => some k_ ≠ ((.slice Ao25 t712.length co25) : Value).ownBlock ∧ some k_ ≠ ((.slice Ao32 t719.length co32) : Value).ownBlock) (.slice Ao39 t725.length co39) t725) ∧ Aside0 (wc.heap[gb703]? = some (.cells #[.int .i64 a0_0, .int .i64 a0_1, (.slice A0_2 l0_2.length c0_2)] 26 (0, 0))) ∧ Aside0 (wc.heap[gb716]? = some (.cells #[.int .i64 t710, .int .i64 t711, (.slice Ao25 t712.length co25)] 34 (0, 0))) ∧ Aside0 (wc.heap[gb722]? = some (.cells #[.int .i64 t717, .int .i64 t718, (.slice Ao32 t719.length co32)] 34 (0, 0))) ∧ Aside0 (wc.heap[gb729]? = some (.cells #[.int .i64 t723, .int .i64 t724, (.slice Ao39 t725.length co39)] 34 (0, 0))) ∧ Aside0 (Below w.heap.size w wc))
 case first =>
  have H := HC14.out
  clear HC14
  obtain ⟨t730, A40, H⟩ := sqD H
  by_cases c41 : t730 = true
  ·subst c41
   rw [if_pos rfl] at H
   have H' := Aside0.mk H
   clear H
   have hnb42 := NB729_703.out
   have hnc42 := NB703_729.out
   have hnb43 := NB729_716.out
   have hnc43 := NB716_729.out
   have hnb44 := NB729_722.out
   have hnc44 := NB722_729.out
   obtain ⟨hcz45_0, hcz45_1, hcz45_2, hfz45_0, hfz45_1, hfz45_2⟩ := sqY3 BK729
   have hnb46 := NB716_703.out
   have hnc46 := NB703_716.out
   have hnb47 := NB716_722.out
   have hnc47 := NB722_716.out
   obtain ⟨hcz48_0, hcz48_1, hcz48_2, hfz48_0, hfz48_1, hfz48_2⟩ := sqY3 BK716
   go_wp2_with (first | ((with_reducible refine gate_callee (f := 18) rfl ?_); refine sqC (some 41) Tryz.func18 #[.agg #[.int .i64 t723, .int .i64 t724, .slice Ao39 t725.length co39], .agg #[.int .i64 t710, .int .i64 t711, .slice Ao25 t712.length co25]] ?_; (with_reducible refine (laws_eqDesk.calls k t723 t724 _ _ t725 t710 t711 _ _ t712 true _ ?side1 ?side2 ?side3 ?side4 A40.out).mono ?_); (case side1 => exact Z118 HO727 BK729); (case side2 => exact Z9 HO727); (case side3 => exact Z119 HO714 BK729); (case side4 => exact (Kd.Q_reads' HO714.out).2.1); rintro e w49 ⟨rfl, hb⟩; refine ⟨_, rfl, ?_⟩; replace HO709 := Aside0.mk (Kd.R_below (Z95 HO709 BK729) hb); replace HO714 := Aside0.mk (Kd.Q_below (Z96 HO714 BK729) hb); replace HO721 := Aside0.mk (Kd.R_below (Z95 HO721 BK729) hb); replace HO727 := Aside0.mk (Kd.R_below (Z95 HO727 BK729) hb); replace BK703 := sqH NB703_729 BK703 hb; replace BK716 := sqH NB716_729 BK716 hb; replace BK722 := sqH NB722_729 BK722 hb; replace BK729 := Aside0.mk (blk_below (g := gb729) (o := .cells #[.int .i64 t723, .int .i64 t724, .slice Ao39 t725.length co39] 34 (0, 0)) (Z97 BK729) hb); replace HB := sqS (sqB4 HB GE703 GE716 GE722 GE729) hb; (try clear hb)))
   go_meet
   case rel => exact ⟨_, ((t728.toList != t715.toList)), Z2, H', ⟨Z12⟩, ⟨Z98 HO714⟩, ⟨Z99 HO721⟩, ⟨Z99 HO727⟩, ⟨sqK BK703⟩, ⟨sqK BK716⟩, ⟨sqK BK722⟩, ⟨sqK BK729⟩, ⟨sqB4 HB GE703 GE716 GE722 GE729⟩⟩
  replace c41 := Bool.eq_false_iff.mpr c41
  subst c41
  rw [if_neg sqF] at H
  have H' := Aside0.mk H
  clear H
  have hnb50 := NB729_703.out
  have hnc50 := NB703_729.out
  have hnb51 := NB729_716.out
  have hnc51 := NB716_729.out
  have hnb52 := NB729_722.out
  have hnc52 := NB722_729.out
  obtain ⟨hcz53_0, hcz53_1, hcz53_2, hfz53_0, hfz53_1, hfz53_2⟩ := sqY3 BK729
  have hnb54 := NB716_703.out
  have hnc54 := NB703_716.out
  have hnb55 := NB716_722.out
  have hnc55 := NB722_716.out
  obtain ⟨hcz56_0, hcz56_1, hcz56_2, hfz56_0, hfz56_1, hfz56_2⟩ := sqY3 BK716
  go_wp2_with (first | ((with_reducible refine gate_callee (f := 18) rfl ?_); refine sqC (some 41) Tryz.func18 #[.agg #[.int .i64 t723, .int .i64 t724, .slice Ao39 t725.length co39], .agg #[.int .i64 t710, .int .i64 t711, .slice Ao25 t712.length co25]] ?_; (with_reducible refine (laws_eqDesk.calls k t723 t724 _ _ t725 t710 t711 _ _ t712 false _ ?side1 ?side2 ?side3 ?side4 A40.out).mono ?_); (case side1 => exact Z118 HO727 BK729); (case side2 => exact Z9 HO727); (case side3 => exact Z119 HO714 BK729); (case side4 => exact (Kd.Q_reads' HO714.out).2.1); rintro e w57 ⟨rfl, hb⟩; refine ⟨_, rfl, ?_⟩; replace HO709 := Aside0.mk (Kd.R_below (Z95 HO709 BK729) hb); replace HO714 := Aside0.mk (Kd.Q_below (Z96 HO714 BK729) hb); replace HO721 := Aside0.mk (Kd.R_below (Z95 HO721 BK729) hb); replace HO727 := Aside0.mk (Kd.R_below (Z95 HO727 BK729) hb); replace BK703 := sqH NB703_729 BK703 hb; replace BK716 := sqH NB716_729 BK716 hb; replace BK722 := sqH NB722_729 BK722 hb; replace BK729 := Aside0.mk (blk_below (g := gb729) (o := .cells #[.int .i64 t723, .int .i64 t724, .slice Ao39 t725.length co39] 34 (0, 0)) (Z97 BK729) hb); replace HB := sqS (sqB4 HB GE703 GE716 GE722 GE729) hb; (try clear hb)))
  go_meet
  case rel => exact ⟨_, (true), Z2, H', ⟨Z12⟩, ⟨Z98 HO714⟩, ⟨Z99 HO721⟩, ⟨Z99 HO727⟩, ⟨sqK BK703⟩, ⟨sqK BK716⟩, ⟨sqK BK722⟩, ⟨sqK BK729⟩, ⟨sqB4 HB GE703 GE716 GE722 GE729⟩⟩
 case rest =>
  clear HC14
  try clear c3; try clear c3b0; try clear c3b1; try clear c6; try clear c6b0; try clear hcz16_0; try clear hcz16_1; try clear hcz16_2; try clear hcz18_0; try clear hcz18_1; try clear hcz18_2; try clear hcz24_0; try clear hcz24_1; try clear hcz24_2; try clear hcz26_0; try clear hcz26_1; try clear hcz26_2; try clear hcz31_0; try clear hcz31_1; try clear hcz31_2; try clear hcz38_0; try clear hcz38_1; try clear hcz38_2; try clear hfz16_0; try clear hfz16_1; try clear hfz16_2; try clear hfz18_0; try clear hfz18_1; try clear hfz18_2; try clear hfz24_0; try clear hfz24_1; try clear hfz24_2; try clear hfz26_0; try clear hfz26_1; try clear hfz26_2; try clear hfz31_0; try clear hfz31_1; try clear hfz31_2; try clear hfz38_0; try clear hfz38_1; try clear hfz38_2
  obtain ⟨kq, x47_13, rfl, HA, HJ13, HO_717002, HO_723002, HO_730002, BK703, BK716, BK722, BK729, HB⟩ := hcut
  cases kq with
  | zero => exact absurd HA.out (by simp [laws_FnExactDeskLine.j0])
  | succ kj13 =>
   have H := HA.out
   clear HA
   simp only [laws_FnExactDeskLine.j0] at H
   by_cases c58 : x47_13 = true
   ·subst c58
    rw [if_pos rfl] at H
    obtain rfl := Option.some.inj H
    go_wp2
    go_ret
    exact ⟨Z6, sqB4 HB GE703 GE716 GE722 GE729⟩
   replace c58 := Bool.eq_false_iff.mpr c58
   subst c58
   rw [if_neg sqF] at H
   obtain ⟨⟨t731, t732, t733⟩, A59, H⟩ := sqD H
   try dsimp only at H
   obtain ⟨t736, A60, H⟩ := sqD H
   by_cases c61 : t736 = true
   ·subst c61
    rw [if_pos rfl] at H
    obtain ⟨⟨t737, t738⟩, A62, H⟩ := sqD H
    try dsimp only at H
    have HC63 := Aside0.mk H
    clear H
    try go_wp2
    replace HO_717002 := Aside0.mk (Kd.Q_drew HO_717002.out)
    replace HO_723002 := Aside0.mk (Kd.R_drew HO_723002.out)
    replace HO_730002 := Aside0.mk (Kd.R_drew HO_730002.out)
    replace BK703 := Aside0.mk (blk_drew BK703.out)
    replace BK716 := Aside0.mk (blk_drew BK716.out)
    replace BK722 := Aside0.mk (blk_drew BK722.out)
    replace BK729 := Aside0.mk (blk_drew BK729.out)
    replace HB := Aside0.mk (below_drew1 HB.out)
    refine start_ (n := 5) (S := fun w' => w'.cell? ⟨gb722, 0, none⟩ = some (.int .i64 t717) ∧ w'.cell? ⟨gb722, 1, none⟩ = some (.int .i64 t718) ∧ w'.cell? ⟨gb722, 2, none⟩ = some (.slice Ao32 t719.length co32) ∧ w'.cell? ⟨gb703, 0, none⟩ = some (.int .i64 a0_0) ∧ w'.cell? ⟨gb703, 1, none⟩ = some (.int .i64 a0_1) ∧ w'.cell? ⟨gb703, 2, none⟩ = some (.slice A0_2 l0_2.length c0_2)) (ds := []) #[false, false, false, false, false] (by kernel_rfl) rfl rfl ⟨(blk_cell BK722.out 0).trans rfl, (blk_cell BK722.out 1).trans rfl, (blk_cell BK722.out 2).trans rfl, (blk_cell BK703.out 0).trans rfl, (blk_cell BK703.out 1).trans rfl, (blk_cell BK703.out 2).trans rfl⟩ (fun hHeld => ?_)
    generalize wc.drew = w64 at HO_717002 HO_723002 HO_730002 BK703 BK716 BK722 BK729 HB hHeld ⊢
    refine sqQk (i := 0) (N := some 48) hHeld (h := ?_)
    refine sqQk (i := 1) (N := some 49) hHeld (h := ?_)
    refine one_ (i := 2) (N := some 50) #[true, true, true, false, false] rfl rfl (by kernel_rfl) (by decide) (fun K hK => ?_)
    refine goes_ Tryz.func15 (by kernel_rfl) rfl #[.agg #[.int .i64 a0_0, .int .i64 a0_1, .slice A0_2 l0_2.length c0_2]] (by rfl) rfl rfl sqA ?_
    with_reducible refine (laws_toDesk.calls kj13 a0_0 a0_1 _ _ l0_2 t731 t732 t733 _ ?side1 ?side2 A59.out).mono ?_
    (case side1 => exact Z16)
    (case side2 => exact Z13)
    rintro e w65 ⟨v734, rfl, ho0, hb⟩
    refine ⟨_, rfl, ?_⟩
    have HO735 := Aside0.mk (Kd.R_lower (Kd.R_new' (Kd.R_new' (Kd.R_new' ho0 (Kd.Q_lt (Z46 HO_717002))) (Kd.R_lt (sqR HO_723002))) (Kd.R_lt (sqR HO_730002))) (below_size (sqB4 HB GE703 GE716 GE722 GE729)))
    replace HO_717002 := Aside0.mk (Kd.Q_elder' (Z46 HO_717002) (Kd.R_base ho0) hb)
    replace HO_723002 := Aside0.mk (Kd.R_elder' (sqR HO_723002) (Kd.R_base ho0) hb)
    replace HO_730002 := Aside0.mk (Kd.R_elder' (sqR HO_730002) (Kd.R_base ho0) hb)
    replace BK703 := sqT BK703 hb
    replace BK716 := sqT BK716 hb
    replace BK722 := sqT BK722 hb
    replace BK729 := sqT BK729 hb
    replace HB := sqS (sqB4 HB GE703 GE716 GE722 GE729) hb
    (try clear hb)
    (try clear hb2)
    (try clear hk)
    (try clear hi)
    (try clear ho0)
    obtain ⟨Ao66, co66, eo66⟩ := Kd.R_slice HO735.out
    (first | subst eo66 | (injection eo66 with f1_ f2_ f3_; have f4_ := f1_.symm; have f5_ := f3_.symm; clear f1_ f2_ f3_; subst f4_; subst f5_))
    refine hK.out _ _ ⟨(blk_cell BK722.out 0).trans rfl, (blk_cell BK722.out 1).trans rfl, (blk_cell BK722.out 2).trans rfl, (blk_cell BK703.out 0).trans rfl, (blk_cell BK703.out 1).trans rfl, (blk_cell BK703.out 2).trans rfl⟩ (fun hHeld => ?_)
    clear hK K
    refine sqN (some 50) ?_
    refine one_ (i := 3) (N := some 51) #[true, true, true, true, false] rfl rfl (by kernel_rfl) (by decide) (fun K hK => ?_)
    refine goes_ Tryz.func18 (by kernel_rfl) rfl #[.agg #[.int .i64 t717, .int .i64 t718, .slice Ao32 t719.length co32], .agg #[.int .i64 t731, .int .i64 t732, .slice Ao66 t733.length co66]] (by rfl) rfl rfl sqA ?_
    with_reducible refine (laws_eqDesk.calls kj13 t717 t718 _ _ t719 t731 t732 _ _ t733 true _ ?side1 ?side2 ?side3 ?side4 A60.out).mono ?_
    (case side1 => exact Z8 HO_723002)
    (case side2 => exact Z9 HO_723002)
    (case side3 => exact Z8 HO735)
    (case side4 => exact Z9 HO735)
    rintro e w67 ⟨rfl, hb⟩
    refine ⟨_, rfl, ?_⟩
    replace HO_717002 := Aside0.mk (Kd.Q_below (Z46 HO_717002) hb)
    replace HO_723002 := sqU HO_723002 hb
    replace HO_730002 := sqU HO_730002 hb
    replace HO735 := sqU HO735 hb
    replace BK703 := sqT BK703 hb
    replace BK716 := sqT BK716 hb
    replace BK722 := sqT BK722 hb
    replace BK729 := sqT BK729 hb
    replace HB := sqS (sqB4 HB GE703 GE716 GE722 GE729) hb
    (try clear hb)
    (try clear hb2)
    (try clear hk)
    (try clear hi)
    refine hK.out _ _ ⟨(blk_cell BK722.out 0).trans rfl, (blk_cell BK722.out 1).trans rfl, (blk_cell BK722.out 2).trans rfl, (blk_cell BK703.out 0).trans rfl, (blk_cell BK703.out 1).trans rfl, (blk_cell BK703.out 2).trans rfl⟩ (fun hHeld => ?_)
    clear hK K
    refine sqN (some 51) ?_
    refine sqPk (i := 4) (N := some 52) (h := ?_)
    refine done_ (by kernel_rfl) ?_
    have hnb68 := NB722_703.out
    have hnc68 := NB703_722.out
    have hnb69 := NB722_716.out
    have hnc69 := NB716_722.out
    have hnb70 := NB722_729.out
    have hnc70 := NB729_722.out
    obtain ⟨hcz71_0, hcz71_1, hcz71_2, hfz71_0, hfz71_1, hfz71_2⟩ := sqY3 BK722
    go_upto_region 16 with (first | ((with_reducible refine gate_callee (f := 19) rfl ?_); refine sqC (some 55) Tryz.func19 #[.agg #[.int .i64 t717, .int .i64 t718, .slice Ao32 t719.length co32], .int .i64 1] ?_; (with_reducible refine (laws_markDesk.calls kj13 t717 t718 (fun k_ => some k_ = (.slice Ao32 t719.length co32 : Value).ownBlock) (.slice Ao32 t719.length co32) t719 1 t737 t738 w _ ?side1 ?side2 A62.out).mono ?_); (case side1 => exact Z100 GE703 GE716 GE722 GE729); (case side2 => exact Kd.R_tight rfl HO_723002.out); rintro e w72 ⟨rfl, hy0, hb, hkp⟩; refine ⟨_, rfl, ?_⟩; replace HO_717002 := Aside0.mk (Kd.Q_mono (ok' := fun k_ => some k_ ≠ (.slice Ao32 t719.length co32 : Value).ownBlock ∧ some k_ ≠ (.slice Ao39 t725.length co39 : Value).ownBlock ∧ some k_ ≠ (.slice Ao66 t733.length co66 : Value).ownBlock) (Kd.Q_keptB (HO_717002.out) hkp (fun k_ hk_ hs_ => (hk_.1.1) hs_)) (fun k_ hk_ => ⟨hk_.1.1.1, hk_.1.1.2, hk_.1.2⟩)); replace HO_730002 := Aside0.mk (Kd.R_mono (ok' := fun k_ => some k_ ≠ (.slice Ao25 t712.length co25 : Value).ownBlock ∧ some k_ ≠ (.slice Ao32 t719.length co32 : Value).ownBlock ∧ some k_ ≠ (.slice Ao66 t733.length co66 : Value).ownBlock) (Kd.R_keptB (HO_730002.out) hkp (fun k_ hk_ hs_ => (hk_.1.2) hs_)) (fun k_ hk_ => ⟨hk_.1.1.1, hk_.1.1.2, hk_.1.2⟩)); replace BK703 := Aside0.mk (blk_kept (sqK BK703) hkp (fun hs_ => (fun e_ => (Kd.R_ne HO_723002.out BK703.out (by decide)) e_) hs_)); replace BK716 := Aside0.mk (blk_kept (sqK BK716) hkp (fun hs_ => (fun e_ => (Kd.R_ne HO_723002.out BK716.out (by decide)) e_) hs_)); replace BK722 := Aside0.mk (blk_kept (sqK BK722) hkp (fun hs_ => (fun e_ => (Kd.R_ne HO_723002.out BK722.out (by decide)) e_) hs_)); replace BK729 := Aside0.mk (blk_kept (sqK BK729) hkp (fun hs_ => (fun e_ => (Kd.R_ne HO_723002.out BK729.out (by decide)) e_) hs_)); replace HO_723002 := Aside0.mk (Kd.R_reok rfl hy0 (fun k_ e_ => HO_723002.out.1 k_ e_)); replace HO735 := Aside0.mk (Kd.R_mono (ok' := fun k_ => some k_ ≠ (.slice Ao25 t712.length co25 : Value).ownBlock ∧ some k_ ≠ (.slice Ao32 t719.length co32 : Value).ownBlock ∧ some k_ ≠ (.slice Ao39 t725.length co39 : Value).ownBlock) (Kd.R_keptB (HO735.out) hkp (fun k_ hk_ hs_ => (hk_.1.2) hs_)) (fun k_ hk_ => ⟨hk_.1.1.1.2, hk_.1.1.2, hk_.1.2⟩)); replace HB := Aside0.mk (hb); (try clear hb); (try clear hkp); (try clear hy0)))
    (try simp only [Act.put, List.setIfInBounds_toArray, List.set_cons_zero, List.set_cons_succ])
    go_cut [68] (fun v68 wc => ∃ (kq : Nat) (x68_62 : Bool), v68 = .bool x68_62 ∧ Aside0 (laws_FnExactDeskLine.j1 kq a1 t715 x68_62 a0_0 a0_1 l0_2 t710 t711 t712 t723 t724 t725 = some r) ∧ Aside0 (kq ≤ kj13) ∧ Aside0 (Kd.Q k31 31 wc w.heap.size (fun k_ => some k_ ≠ ((.slice Ao32 t719.length co32) : Value).ownBlock ∧ some k_ ≠ ((.slice Ao39 t725.length co39) : Value).ownBlock) (.slice Ao25 t712.length co25) t712) ∧ Aside0 (Kd.R k31 31 wc w.heap.size (fun k_ => some k_ ≠ ((.slice Ao25 t712.length co25) : Value).ownBlock ∧ some k_ ≠ ((.slice Ao39 t725.length co39) : Value).ownBlock) (.slice Ao32 t719.length co32) t738) ∧ Aside0 (Kd.R k31 31 wc w.heap.size (fun k_ => some k_ ≠ ((.slice Ao25 t712.length co25) : Value).ownBlock ∧ some k_ ≠ ((.slice Ao32 t719.length co32) : Value).ownBlock) (.slice Ao39 t725.length co39) t725) ∧ Aside0 (wc.heap[gb703]? = some (.cells #[.int .i64 a0_0, .int .i64 a0_1, (.slice A0_2 l0_2.length c0_2)] 26 (0, 0))) ∧ Aside0 (wc.heap[gb716]? = some (.cells #[.int .i64 t710, .int .i64 t711, (.slice Ao25 t712.length co25)] 34 (0, 0))) ∧ Aside0 (wc.heap[gb722]? = some (.cells #[.int .i64 t717, .int .i64 t718, (.slice Ao32 t719.length co32)] 34 (0, 0))) ∧ Aside0 (wc.heap[gb729]? = some (.cells #[.int .i64 t723, .int .i64 t724, (.slice Ao39 t725.length co39)] 34 (0, 0))) ∧ Aside0 (Below w.heap.size w wc))
    case first =>
     have H := HC63.out
     clear HC63
     by_cases c73 : t737 < 0
     ·rw [if_pos c73] at H
      have c73b0 : decide (t737 < 0) = true := decide_eq_true c73
      clear c73
      (first | rw [c73b0] | (simp only [i64_w, i32_w]; rw [c73b0]) | skip)
      have H' := Aside0.mk H
      clear H
      go_wp2
      go_meet
      case rel => exact ⟨_, (true), Z2, H', ⟨Z101⟩, ⟨Z102 HO_717002⟩, ⟨Z103 HO_723002⟩, ⟨Z104 HO_730002⟩, ⟨sqK BK703⟩, ⟨sqK BK716⟩, ⟨sqK BK722⟩, ⟨sqK BK729⟩, ⟨sqB4 HB GE703 GE716 GE722 GE729⟩⟩
     rw [if_neg c73] at H
     have c73b0 : decide (t737 < 0) = false := decide_eq_false c73
     clear c73
     (first | rw [c73b0] | (simp only [i64_w, i32_w]; rw [c73b0]) | skip)
     obtain ⟨t739, A74, H⟩ := sqD H
     by_cases c75 : t739 = true
     ·subst c75
      rw [if_pos rfl] at H
      have H' := Aside0.mk H
      clear H
      have hnb76 := NB729_703.out
      have hnc76 := NB703_729.out
      have hnb77 := NB729_716.out
      have hnc77 := NB716_729.out
      have hnb78 := NB729_722.out
      have hnc78 := NB722_729.out
      obtain ⟨hcz79_0, hcz79_1, hcz79_2, hfz79_0, hfz79_1, hfz79_2⟩ := sqY3 BK729
      have hnb80 := NB716_703.out
      have hnc80 := NB703_716.out
      have hnb81 := NB716_722.out
      have hnc81 := NB722_716.out
      obtain ⟨hcz82_0, hcz82_1, hcz82_2, hfz82_0, hfz82_1, hfz82_2⟩ := sqY3 BK716
      go_wp2_with (first | (go_at_call 18; (with_reducible refine (laws_eqDesk.calls kj13 t723 t724 _ _ t725 t710 t711 _ _ t712 true _ ?side1 ?side2 ?side3 ?side4 A74.out).mono ?_); (case side1 => exact Z8 HO_730002); (case side2 => exact Z9 HO_730002); (case side3 => exact Z84 HO_717002); (case side4 => exact (Kd.Q_reads' HO_717002.out).2.1); rintro e w83 ⟨rfl, hb⟩; replace HO_717002 := Aside0.mk (Kd.Q_below (Z46 HO_717002) hb); replace HO_723002 := sqU HO_723002 hb; replace HO_730002 := sqU HO_730002 hb; replace HO735 := sqU HO735 hb; replace BK703 := sqT BK703 hb; replace BK716 := sqT BK716 hb; replace BK722 := sqT BK722 hb; replace BK729 := sqT BK729 hb; replace HB := sqS (sqB4 HB GE703 GE716 GE722 GE729) hb; (try clear hb)))
      go_meet
      case rel => exact ⟨_, ((t728.toList != t715.toList)), Z2, H', ⟨Z101⟩, ⟨Z102 HO_717002⟩, ⟨Z103 HO_723002⟩, ⟨Z104 HO_730002⟩, ⟨sqK BK703⟩, ⟨sqK BK716⟩, ⟨sqK BK722⟩, ⟨sqK BK729⟩, ⟨sqB4 HB GE703 GE716 GE722 GE729⟩⟩
     replace c75 := Bool.eq_false_iff.mpr c75
     subst c75
     rw [if_neg sqF] at H
     have H' := Aside0.mk H
     clear H
     have hnb84 := NB729_703.out
     have hnc84 := NB703_729.out
     have hnb85 := NB729_716.out
     have hnc85 := NB716_729.out
     have hnb86 := NB729_722.out
     have hnc86 := NB722_729.out
     obtain ⟨hcz87_0, hcz87_1, hcz87_2, hfz87_0, hfz87_1, hfz87_2⟩ := sqY3 BK729
     have hnb88 := NB716_703.out
     have hnc88 := NB703_716.out
     have hnb89 := NB716_722.out
     have hnc89 := NB722_716.out
     obtain ⟨hcz90_0, hcz90_1, hcz90_2, hfz90_0, hfz90_1, hfz90_2⟩ := sqY3 BK716
     go_wp2_with (first | (go_at_call 18; (with_reducible refine (laws_eqDesk.calls kj13 t723 t724 _ _ t725 t710 t711 _ _ t712 false _ ?side1 ?side2 ?side3 ?side4 A74.out).mono ?_); (case side1 => exact Z8 HO_730002); (case side2 => exact Z9 HO_730002); (case side3 => exact Z84 HO_717002); (case side4 => exact (Kd.Q_reads' HO_717002.out).2.1); rintro e w91 ⟨rfl, hb⟩; replace HO_717002 := Aside0.mk (Kd.Q_below (Z46 HO_717002) hb); replace HO_723002 := sqU HO_723002 hb; replace HO_730002 := sqU HO_730002 hb; replace HO735 := sqU HO735 hb; replace BK703 := sqT BK703 hb; replace BK716 := sqT BK716 hb; replace BK722 := sqT BK722 hb; replace BK729 := sqT BK729 hb; replace HB := sqS (sqB4 HB GE703 GE716 GE722 GE729) hb; (try clear hb)))
     go_meet
     case rel => exact ⟨_, (true), Z2, H', ⟨Z101⟩, ⟨Z102 HO_717002⟩, ⟨Z103 HO_723002⟩, ⟨Z104 HO_730002⟩, ⟨sqK BK703⟩, ⟨sqK BK716⟩, ⟨sqK BK722⟩, ⟨sqK BK729⟩, ⟨sqB4 HB GE703 GE716 GE722 GE729⟩⟩
    case rest =>
     clear HC63
     try clear c1; try clear c2; try clear p2; try clear c3; try clear c3b0; try clear c3b1; try clear c4; try clear c5; try clear c6; try clear c6b0; try clear c8; try clear c12; try clear c15; try clear c18; try clear c23; try clear c29; try clear c30; try clear c35; try clear c36; try clear c37; try clear c40; try clear c41; try clear c42; try clear c43; try clear c44; try clear c46; try clear c47; try clear c50; try clear c51; try clear c52; try clear c54; try clear c55; try clear c58; try clear c61; try clear hcz16_0; try clear hcz16_1; try clear hcz16_2; try clear hcz18_0; try clear hcz18_1; try clear hcz18_2; try clear hcz24_0; try clear hcz24_1; try clear hcz24_2; try clear hcz26_0; try clear hcz26_1; try clear hcz26_2; try clear hcz31_0; try clear hcz31_1; try clear hcz31_2; try clear hcz38_0; try clear hcz38_1; try clear hcz38_2; try clear hcz45_0; try clear hcz45_1; try clear hcz45_2; try clear hcz48_0; try clear hcz48_1; try clear hcz48_2; try clear hcz53_0; try clear hcz53_1; try clear hcz53_2; try clear hcz56_0; try clear hcz56_1; try clear hcz56_2; try clear hcz71_0; try clear hcz71_1; try clear hcz71_2; try clear hcz8_0; try clear hcz8_1; try clear hcz8_2; try clear hfz16_0; try clear hfz16_1; try clear hfz16_2; try clear hfz18_0; try clear hfz18_1; try clear hfz18_2; try clear hfz24_0; try clear hfz24_1; try clear hfz24_2; try clear hfz26_0; try clear hfz26_1; try clear hfz26_2; try clear hfz31_0; try clear hfz31_1; try clear hfz31_2; try clear hfz38_0; try clear hfz38_1; try clear hfz38_2; try clear hfz45_0; try clear hfz45_1; try clear hfz45_2; try clear hfz48_0; try clear hfz48_1; try clear hfz48_2; try clear hfz53_0; try clear hfz53_1; try clear hfz53_2; try clear hfz56_0; try clear hfz56_1; try clear hfz56_2; try clear hfz71_0; try clear hfz71_1; try clear hfz71_2; try clear hfz8_0; try clear hfz8_1; try clear hfz8_2; try clear p2
     obtain ⟨kq, x68_62, rfl, HA, HJ62, HO_717002, HO_723002, HO_730002, BK703, BK716, BK722, BK729, HB⟩ := hcut
     have hl723002_62 := (Kd.R_reads' HO_723002.out).1
     rw [hl723002_62] at HO_723002
     (try simp only [hl723002_62])
     (try simp only [hl723002_62] at BK703)
     (try simp only [hl723002_62] at BK716)
     (try simp only [hl723002_62] at BK722)
     (try simp only [hl723002_62] at BK729)
     (try simp only [hl723002_62] at HO_717002)
     (try simp only [hl723002_62] at HO_730002)
     cases kq with
     | zero => exact absurd HA.out (by simp [laws_FnExactDeskLine.j1])
     | succ kj62 =>
      have H := HA.out
      clear HA
      simp only [laws_FnExactDeskLine.j1] at H
      by_cases c92 : x68_62 = true
      ·subst c92
       rw [if_pos rfl] at H
       obtain rfl := Option.some.inj H
       go_wp2
       go_ret
       exact ⟨Z6, sqB4 HB GE703 GE716 GE722 GE729⟩
      replace c92 := Bool.eq_false_iff.mpr c92
      subst c92
      rw [if_neg sqF] at H
      obtain ⟨⟨t740, t741⟩, A93, H⟩ := sqD H
      try dsimp only at H
      obtain ⟨t742, A94, H⟩ := sqD H
      by_cases c95 : t742 < 0
      ·rw [if_pos c95] at H
       exact absurd (Option.some.inj H) (by rw [hT.out]; decide)
      rw [if_neg c95] at H
      have c95b0 : decide (t742 < 0) = false := decide_eq_false c95
      clear c95
      by_cases c103 : t742 = t740
      ·rw [if_pos c103] at H
       have c103b0 : (t742 == t740) = true := beq_iff_eq.mpr c103
       have c103b1 : (t742 != t740) = false := bne_eq_false_iff_eq.mpr c103
       clear c103
       obtain ⟨⟨t743, t744, t745⟩, A104, H⟩ := sqD H
       try dsimp only at H
       obtain ⟨⟨t748, t749, t750, t753⟩, A105, H⟩ := sqD H
       try dsimp only at H
       have HC106 := Aside0.mk H
       clear H
       have hnb107 := NB729_703.out
       have hnc107 := NB703_729.out
       have hnb108 := NB729_716.out
       have hnc108 := NB716_729.out
       have hnb109 := NB729_722.out
       have hnc109 := NB722_729.out
       obtain ⟨hcz110_0, hcz110_1, hcz110_2, hfz110_0, hfz110_1, hfz110_2⟩ := sqY3 BK729
       go_upto_region 27 with (first | ((with_reducible refine gate_callee (f := 19) rfl ?_); refine sqC (some 71) Tryz.func19 #[.agg #[.int .i64 t723, .int .i64 t724, .slice Ao39 t725.length co39], .int .i64 1] ?_; (with_reducible refine (laws_markDesk.calls kj62 t723 t724 (fun k_ => some k_ = (.slice Ao39 t725.length co39 : Value).ownBlock) (.slice Ao39 t725.length co39) t725 1 t740 t741 w _ ?side1 ?side2 A93.out).mono ?_); (case side1 => exact Z100 GE703 GE716 GE722 GE729); (case side2 => exact Kd.R_tight rfl HO_730002.out); rintro e w111 ⟨rfl, hy0, hb, hkp⟩; refine ⟨_, rfl, ?_⟩; replace HO_717002 := Aside0.mk (Kd.Q_mono (ok' := fun k_ => some k_ ≠ (.slice Ao32 t738.length co32 : Value).ownBlock ∧ some k_ ≠ (.slice Ao39 t725.length co39 : Value).ownBlock) (Kd.Q_keptB (HO_717002.out) hkp (fun k_ hk_ hs_ => (hk_.2) hs_)) (fun k_ hk_ => ⟨hk_.1.1, hk_.1.2⟩)); replace HO_723002 := Aside0.mk (Kd.R_mono (ok' := fun k_ => some k_ ≠ (.slice Ao25 t712.length co25 : Value).ownBlock ∧ some k_ ≠ (.slice Ao39 t725.length co39 : Value).ownBlock) (Kd.R_keptB (HO_723002.out) hkp (fun k_ hk_ hs_ => (hk_.2) hs_)) (fun k_ hk_ => ⟨hk_.1.1, hk_.1.2⟩)); replace BK703 := Aside0.mk (blk_kept (sqK BK703) hkp (fun hs_ => (fun e_ => (Kd.R_ne HO_730002.out BK703.out (by decide)) e_) hs_)); replace BK716 := Aside0.mk (blk_kept (sqK BK716) hkp (fun hs_ => (fun e_ => (Kd.R_ne HO_730002.out BK716.out (by decide)) e_) hs_)); replace BK722 := Aside0.mk (blk_kept (sqK BK722) hkp (fun hs_ => (fun e_ => (Kd.R_ne HO_730002.out BK722.out (by decide)) e_) hs_)); replace BK729 := Aside0.mk (blk_kept (sqK BK729) hkp (fun hs_ => (fun e_ => (Kd.R_ne HO_730002.out BK729.out (by decide)) e_) hs_)); replace HO_730002 := Aside0.mk (Kd.R_reok rfl hy0 (fun k_ e_ => HO_730002.out.1 k_ e_)); replace HB := Aside0.mk (hb); (try clear hb); (try clear hkp); (try clear hy0); obtain ⟨hcz112_0, hcz112_1, hcz112_2, hfz112_0, hfz112_1, hfz112_2⟩ := sqY3 BK729) | ((with_reducible refine gate_callee (f := 20) rfl ?_); refine goesL_ (some 74) rfl rfl Tryz.func20 (by kernel_rfl) rfl #[.agg #[.int .i64 t723, .int .i64 t724, .slice Ao39 t741.length co39], .int .i64 1] rfl (by (try simp only [List.map_toArray, List.map_cons, List.map_nil]); first | done | (rw [show t741.length = t725.length from (Kd.R_reads' HO_730002.out).1.symm] <;> rfl) | rfl | (simp only [List.length_drop, List.length_take]; rfl)) ?_; (with_reducible refine (laws_heldDesk.calls kj62 t723 t724 _ _ t741 1 t742 _ ?side1 ?side2 A94.out).mono ?_); (case side1 => exact Z8 HO_730002); (case side2 => rw [show t741.length = t725.length from (Kd.R_reads' HO_730002.out).1.symm]; exact (Kd.R_reads' HO_730002.out).2.1); rintro e w113 ⟨rfl, hb⟩; refine ⟨_, rfl, ?_⟩; replace HO_717002 := Aside0.mk (Kd.Q_below (Z46 HO_717002) hb); replace HO_723002 := sqU HO_723002 hb; replace HO_730002 := sqU HO_730002 hb; replace BK703 := sqT BK703 hb; replace BK716 := sqT BK716 hb; replace BK722 := sqT BK722 hb; replace BK729 := sqT BK729 hb; replace HB := sqS (sqB4 HB GE703 GE716 GE722 GE729) hb; (try clear hb); have hnb114 := NB703_716.out; have hnc114 := NB716_703.out; have hnb115 := NB703_722.out; have hnc115 := NB722_703.out; obtain ⟨hcz116_0, hcz116_1, hcz116_2, hfz116_0, hfz116_1, hfz116_2⟩ := sqY3 BK703) | ((with_reducible refine gate_callee (f := 15) rfl ?_); refine sqC (some 82) Tryz.func15 #[.agg #[.int .i64 a0_0, .int .i64 a0_1, .slice A0_2 l0_2.length c0_2]] ?_; (with_reducible refine (laws_toDesk.calls kj62 a0_0 a0_1 _ _ l0_2 t743 t744 t745 _ ?side1 ?side2 A104.out).mono ?_); (case side1 => exact Z16); (case side2 => exact Z13); rintro e w117 ⟨v746, rfl, ho0, hb⟩; refine ⟨_, rfl, ?_⟩; have HO747 := Aside0.mk (Kd.R_lower (Kd.R_new' (Kd.R_new' (Kd.R_new' ho0 (Kd.Q_lt (Z46 HO_717002))) (Kd.R_lt (sqR HO_723002))) (Kd.R_lt (sqR HO_730002))) (below_size (sqB4 HB GE703 GE716 GE722 GE729))); replace HO_717002 := Aside0.mk (Kd.Q_elder' (Z46 HO_717002) (Kd.R_base ho0) hb); replace HO_723002 := Aside0.mk (Kd.R_elder' (sqR HO_723002) (Kd.R_base ho0) hb); replace HO_730002 := Aside0.mk (Kd.R_elder' (sqR HO_730002) (Kd.R_base ho0) hb); replace BK703 := sqT BK703 hb; replace BK716 := sqT BK716 hb; replace BK722 := sqT BK722 hb; replace BK729 := sqT BK729 hb; replace HB := sqS (sqB4 HB GE703 GE716 GE722 GE729) hb; (try clear hb); (try clear ho0); obtain ⟨Ao118, co118, eo118⟩ := Kd.R_slice HO747.out; subst eo118) | ((with_reducible refine gate_callee (f := 40) rfl ?_); refine sqC (some 84) Tryz.func40 #[.agg #[.int .i64 t743, .int .i64 t744, .slice Ao118 t745.length co118], .string a1] ?_; (with_reducible refine (impl_DeskLine.calls kj62 t743 t744 _ _ t745 a1 t748 t749 t750 t753 _ ?sideG ?side1 ?side2 A105.out).mono ?_); (case sideG => exact Glob.below hG (sqB4 HB GE703 GE716 GE722 GE729)); (case side1 => exact Z8 HO747); (case side2 => exact Z9 HO747); rintro e w119 ⟨v751, rfl, ho0, hb⟩; refine ⟨_, rfl, ?_⟩; have HO752 := Aside0.mk (Kd.R_lower (Kd.R_new' (Kd.R_new' (Kd.R_new' (Kd.R_new' ho0 (Kd.Q_lt (Z46 HO_717002))) (Kd.R_lt (sqR HO_723002))) (Kd.R_lt (sqR HO_730002))) (Kd.R_lt (sqR HO747))) (below_size (sqB4 HB GE703 GE716 GE722 GE729))); replace HO_717002 := Aside0.mk (Kd.Q_elder' (Z46 HO_717002) (Kd.R_base ho0) hb); replace HO_723002 := Aside0.mk (Kd.R_elder' (sqR HO_723002) (Kd.R_base ho0) hb); replace HO_730002 := Aside0.mk (Kd.R_elder' (sqR HO_730002) (Kd.R_base ho0) hb); replace HO747 := Aside0.mk (Kd.R_elder' (sqR HO747) (Kd.R_base ho0) hb); replace BK703 := sqT BK703 hb; replace BK716 := sqT BK716 hb; replace BK722 := sqT BK722 hb; replace BK729 := sqT BK729 hb; replace HB := sqS (sqB4 HB GE703 GE716 GE722 GE729) hb; (try clear hb); (try clear ho0)) | ((with_reducible refine gate_dst (N := 14) rfl ?_); refine sqBx w (sqB4 HB GE703 GE716 GE722 GE729) (N := 14) (cs := #[.int .i64 0, .int .i64 0, .slice none 0 0]) (t := 34) ?_; intro gb754 hg w120 BK754 GE754 HB hb; replace HO_717002 := Aside0.mk (Kd.Q_below (Z46 HO_717002) hb); replace HO_723002 := sqU HO_723002 hb; replace HO_730002 := sqU HO_730002 hb; replace HO747 := sqU HO747 hb; replace HO752 := sqU HO752 hb; obtain ⟨NB703_754, NB754_703⟩ := sqM hg BK703; replace BK703 := sqT BK703 hb; obtain ⟨NB716_754, NB754_716⟩ := sqM hg BK716; replace BK716 := sqT BK716 hb; obtain ⟨NB722_754, NB754_722⟩ := sqM hg BK722; replace BK722 := sqT BK722 hb; obtain ⟨NB729_754, NB754_729⟩ := sqM hg BK729; replace BK729 := sqT BK729 hb; clear hb hg; have hnb121 := NB754_703.out; have hnc121 := NB703_754.out; have hnb122 := NB754_716.out; have hnc122 := NB716_754.out; have hnb123 := NB754_722.out; have hnc123 := NB722_754.out; have hnb124 := NB754_729.out; have hnc124 := NB729_754.out; obtain ⟨hcz125_0, hcz125_1, hcz125_2, hfz125_0, hfz125_1, hfz125_2⟩ := sqY3 BK754; obtain ⟨Ao126, co126, eo126⟩ := Kd.R_slice HO752.out; subst eo126))
       (try simp only [Act.put, List.setIfInBounds_toArray, List.set_cons_zero, List.set_cons_succ])
       go_cut [95] (fun v95 wc => ∃ (kq : Nat) (x95_105 : Bool), v95 = .bool x95_105 ∧ Aside0 (laws_FnExactDeskLine.j2 kq t740 x95_105 t723 t724 t741 = some r) ∧ Aside0 (kq ≤ kj62) ∧ Aside0 (Kd.Q k31 31 wc w.heap.size (fun k_ => some k_ ≠ ((.slice Ao32 t738.length co32) : Value).ownBlock ∧ some k_ ≠ ((.slice Ao39 t725.length co39) : Value).ownBlock ∧ some k_ ≠ ((.slice Ao126 t750.length co126) : Value).ownBlock) (.slice Ao25 t712.length co25) t712) ∧ Aside0 (Kd.R k31 31 wc w.heap.size (fun k_ => some k_ ≠ ((.slice Ao25 t712.length co25) : Value).ownBlock ∧ some k_ ≠ ((.slice Ao39 t725.length co39) : Value).ownBlock ∧ some k_ ≠ ((.slice Ao126 t750.length co126) : Value).ownBlock) (.slice Ao32 t738.length co32) t738) ∧ Aside0 (Kd.R k31 31 wc w.heap.size (fun k_ => some k_ ≠ ((.slice Ao25 t712.length co25) : Value).ownBlock ∧ some k_ ≠ ((.slice Ao32 t738.length co32) : Value).ownBlock ∧ some k_ ≠ ((.slice Ao126 t750.length co126) : Value).ownBlock) (.slice Ao39 t725.length co39) t741) ∧ Aside0 (Kd.R k31 31 wc w.heap.size (fun k_ => some k_ ≠ ((.slice Ao25 t712.length co25) : Value).ownBlock ∧ some k_ ≠ ((.slice Ao32 t738.length co32) : Value).ownBlock ∧ some k_ ≠ ((.slice Ao39 t725.length co39) : Value).ownBlock) (.slice Ao126 t750.length co126) t750) ∧ Aside0 (wc.heap[gb703]? = some (.cells #[.int .i64 a0_0, .int .i64 a0_1, (.slice A0_2 l0_2.length c0_2)] 26 (0, 0))) ∧ Aside0 (wc.heap[gb716]? = some (.cells #[.int .i64 t710, .int .i64 t711, (.slice Ao25 t712.length co25)] 34 (0, 0))) ∧ Aside0 (wc.heap[gb722]? = some (.cells #[.int .i64 t717, .int .i64 t718, (.slice Ao32 t738.length co32)] 34 (0, 0))) ∧ Aside0 (wc.heap[gb729]? = some (.cells #[.int .i64 t723, .int .i64 t724, (.slice Ao39 t725.length co39)] 34 (0, 0))) ∧ Aside0 (wc.heap[gb754]? = some (.cells #[.int .i64 t748, .int .i64 t749, (.slice Ao126 t750.length co126)] 34 (0, 0))) ∧ Aside0 (Below w.heap.size w wc))
       case first =>
        have H := HC106.out
        clear HC106
        obtain ⟨t755, A127, H⟩ := sqD H
        by_cases c128 : t755 = true
        ·subst c128
         rw [if_pos rfl] at H
         have H' := Aside0.mk H
         clear H
         have hnb129 := NB754_703.out
         have hnc129 := NB703_754.out
         have hnb130 := NB754_716.out
         have hnc130 := NB716_754.out
         have hnb131 := NB754_722.out
         have hnc131 := NB722_754.out
         have hnb132 := NB754_729.out
         have hnc132 := NB729_754.out
         obtain ⟨hcz133_0, hcz133_1, hcz133_2, hfz133_0, hfz133_1, hfz133_2⟩ := sqY3 BK754
         have hnb134 := NB716_703.out
         have hnc134 := NB703_716.out
         have hnb135 := NB716_722.out
         have hnc135 := NB722_716.out
         have hnb136 := NB716_729.out
         have hnc136 := NB729_716.out
         obtain ⟨hcz137_0, hcz137_1, hcz137_2, hfz137_0, hfz137_1, hfz137_2⟩ := sqY3 BK716
         go_wp2_with (first | ((with_reducible refine gate_callee (f := 18) rfl ?_); refine sqC (some 89) Tryz.func18 #[.agg #[.int .i64 t748, .int .i64 t749, .slice Ao126 t750.length co126], .agg #[.int .i64 t710, .int .i64 t711, .slice Ao25 t712.length co25]] ?_; (with_reducible refine (laws_eqDesk.calls kj62 t748 t749 _ _ t750 t710 t711 _ _ t712 true _ ?side1 ?side2 ?side3 ?side4 A127.out).mono ?_); (case side1 => exact Z120 HO752 BK754); (case side2 => exact Z9 HO752); (case side3 => exact Z121 HO_717002 BK754); (case side4 => exact (Kd.Q_reads' HO_717002.out).2.1); rintro e w138 ⟨rfl, hb⟩; refine ⟨_, rfl, ?_⟩; replace HO_717002 := Aside0.mk (Kd.Q_below (Z106 HO_717002 BK754) hb); replace HO_723002 := Aside0.mk (Kd.R_below (Z105 HO_723002 BK754) hb); replace HO_730002 := Aside0.mk (Kd.R_below (Z105 HO_730002 BK754) hb); replace HO747 := Aside0.mk (Kd.R_below (Z105 HO747 BK754) hb); replace HO752 := Aside0.mk (Kd.R_below (Z105 HO752 BK754) hb); replace BK703 := sqH NB703_754 BK703 hb; replace BK716 := sqH NB716_754 BK716 hb; replace BK722 := sqH NB722_754 BK722 hb; replace BK729 := sqH NB729_754 BK729 hb; replace BK754 := Aside0.mk (blk_below (g := gb754) (o := .cells #[.int .i64 t748, .int .i64 t749, .slice Ao126 t750.length co126] 34 (0, 0)) (Z107 BK754) hb); replace HB := Aside0.mk (below_step (Z49 GE703 GE716 GE722 GE729 GE754) hb); (try clear hb)))
         go_meet
         case rel => exact ⟨_, ((t753.toList != t715.toList)), Z2, H', ⟨by have := HJ13.out; have := HJ62.out; first | omega | exact Nat.le_refl _⟩, ⟨Z108 HO_717002⟩, ⟨Z109 HO_723002⟩, ⟨Z109 HO_730002⟩, ⟨Z110 HO752⟩, ⟨Z111 BK703⟩, ⟨Z111 BK716⟩, ⟨Z111 BK722⟩, ⟨Z111 BK729⟩, ⟨Z111 BK754⟩, ⟨Z49 GE703 GE716 GE722 GE729 GE754⟩⟩
        replace c128 := Bool.eq_false_iff.mpr c128
        subst c128
        rw [if_neg sqF] at H
        have H' := Aside0.mk H
        clear H
        have hnb139 := NB754_703.out
        have hnc139 := NB703_754.out
        have hnb140 := NB754_716.out
        have hnc140 := NB716_754.out
        have hnb141 := NB754_722.out
        have hnc141 := NB722_754.out
        have hnb142 := NB754_729.out
        have hnc142 := NB729_754.out
        obtain ⟨hcz143_0, hcz143_1, hcz143_2, hfz143_0, hfz143_1, hfz143_2⟩ := sqY3 BK754
        have hnb144 := NB716_703.out
        have hnc144 := NB703_716.out
        have hnb145 := NB716_722.out
        have hnc145 := NB722_716.out
        have hnb146 := NB716_729.out
        have hnc146 := NB729_716.out
        obtain ⟨hcz147_0, hcz147_1, hcz147_2, hfz147_0, hfz147_1, hfz147_2⟩ := sqY3 BK716
        go_wp2_with (first | ((with_reducible refine gate_callee (f := 18) rfl ?_); refine sqC (some 89) Tryz.func18 #[.agg #[.int .i64 t748, .int .i64 t749, .slice Ao126 t750.length co126], .agg #[.int .i64 t710, .int .i64 t711, .slice Ao25 t712.length co25]] ?_; (with_reducible refine (laws_eqDesk.calls kj62 t748 t749 _ _ t750 t710 t711 _ _ t712 false _ ?side1 ?side2 ?side3 ?side4 A127.out).mono ?_); (case side1 => exact Z120 HO752 BK754); (case side2 => exact Z9 HO752); (case side3 => exact Z121 HO_717002 BK754); (case side4 => exact (Kd.Q_reads' HO_717002.out).2.1); rintro e w148 ⟨rfl, hb⟩; refine ⟨_, rfl, ?_⟩; replace HO_717002 := Aside0.mk (Kd.Q_below (Z106 HO_717002 BK754) hb); replace HO_723002 := Aside0.mk (Kd.R_below (Z105 HO_723002 BK754) hb); replace HO_730002 := Aside0.mk (Kd.R_below (Z105 HO_730002 BK754) hb); replace HO747 := Aside0.mk (Kd.R_below (Z105 HO747 BK754) hb); replace HO752 := Aside0.mk (Kd.R_below (Z105 HO752 BK754) hb); replace BK703 := sqH NB703_754 BK703 hb; replace BK716 := sqH NB716_754 BK716 hb; replace BK722 := sqH NB722_754 BK722 hb; replace BK729 := sqH NB729_754 BK729 hb; replace BK754 := Aside0.mk (blk_below (g := gb754) (o := .cells #[.int .i64 t748, .int .i64 t749, .slice Ao126 t750.length co126] 34 (0, 0)) (Z107 BK754) hb); replace HB := Aside0.mk (below_step (Z49 GE703 GE716 GE722 GE729 GE754) hb); (try clear hb)))
        go_meet
        case rel => exact ⟨_, (true), Z2, H', ⟨by have := HJ13.out; have := HJ62.out; first | omega | exact Nat.le_refl _⟩, ⟨Z108 HO_717002⟩, ⟨Z109 HO_723002⟩, ⟨Z109 HO_730002⟩, ⟨Z110 HO752⟩, ⟨Z111 BK703⟩, ⟨Z111 BK716⟩, ⟨Z111 BK722⟩, ⟨Z111 BK729⟩, ⟨Z111 BK754⟩, ⟨Z49 GE703 GE716 GE722 GE729 GE754⟩⟩
       case rest =>
        clear HC106
        try clear c1; try clear c2; try clear p2; try clear c3; try clear c3b0; try clear c3b1; try clear c4; try clear c5; try clear c6; try clear c6b0; try clear c7; try clear c8; try clear c12; try clear c15; try clear c18; try clear c19; try clear c23; try clear c29; try clear c30; try clear c35; try clear c36; try clear c37; try clear c40; try clear c41; try clear c42; try clear c43; try clear c44; try clear c46; try clear c47; try clear c50; try clear c51; try clear c52; try clear c54; try clear c55; try clear c58; try clear c61; try clear c68; try clear c69; try clear c70; try clear c73; try clear c73b0; try clear c75; try clear c76; try clear c77; try clear c78; try clear c80; try clear c81; try clear c84; try clear c85; try clear c86; try clear c88; try clear c89; try clear c92; try clear c95; try clear c95b0; try clear c103; try clear c103b0; try clear c103b1; try clear hcz110_0; try clear hcz110_1; try clear hcz110_2; try clear hcz112_0; try clear hcz112_1; try clear hcz112_2; try clear hcz116_0; try clear hcz116_1; try clear hcz116_2; try clear hcz125_0; try clear hcz125_1; try clear hcz125_2; try clear hcz16_0; try clear hcz16_1; try clear hcz16_2; try clear hcz18_0; try clear hcz18_1; try clear hcz18_2; try clear hcz24_0; try clear hcz24_1; try clear hcz24_2; try clear hcz26_0; try clear hcz26_1; try clear hcz26_2; try clear hcz31_0; try clear hcz31_1; try clear hcz31_2; try clear hcz38_0; try clear hcz38_1; try clear hcz38_2; try clear hcz45_0; try clear hcz45_1; try clear hcz45_2; try clear hcz48_0; try clear hcz48_1; try clear hcz48_2; try clear hcz53_0; try clear hcz53_1; try clear hcz53_2; try clear hcz56_0; try clear hcz56_1; try clear hcz56_2; try clear hcz71_0; try clear hcz71_1; try clear hcz71_2; try clear hcz79_0; try clear hcz79_1; try clear hcz79_2; try clear hcz82_0; try clear hcz82_1; try clear hcz82_2; try clear hcz87_0; try clear hcz87_1; try clear hcz87_2; try clear hcz8_0; try clear hcz8_1; try clear hcz8_2; try clear hcz90_0; try clear hcz90_1; try clear hcz90_2; try clear hfz110_0; try clear hfz110_1; try clear hfz110_2; try clear hfz112_0; try clear hfz112_1; try clear hfz112_2; try clear hfz116_0; try clear hfz116_1; try clear hfz116_2; try clear hfz125_0; try clear hfz125_1; try clear hfz125_2; try clear hfz16_0; try clear hfz16_1; try clear hfz16_2; try clear hfz18_0; try clear hfz18_1; try clear hfz18_2; try clear hfz24_0; try clear hfz24_1; try clear hfz24_2; try clear hfz26_0; try clear hfz26_1; try clear hfz26_2; try clear hfz31_0; try clear hfz31_1; try clear hfz31_2; try clear hfz38_0; try clear hfz38_1; try clear hfz38_2; try clear hfz45_0; try clear hfz45_1; try clear hfz45_2; try clear hfz48_0; try clear hfz48_1; try clear hfz48_2; try clear hfz53_0; try clear hfz53_1; try clear hfz53_2; try clear hfz56_0; try clear hfz56_1; try clear hfz56_2; try clear hfz71_0; try clear hfz71_1; try clear hfz71_2; try clear hfz79_0; try clear hfz79_1; try clear hfz79_2; try clear hfz82_0; try clear hfz82_1; try clear hfz82_2; try clear hfz87_0; try clear hfz87_1; try clear hfz87_2; try clear hfz8_0; try clear hfz8_1; try clear hfz8_2; try clear hfz90_0; try clear hfz90_1; try clear hfz90_2; try clear p2
        obtain ⟨kq, x95_105, rfl, HA, HJ105, HO_717002, HO_723002, HO_730002, HO_755002, BK703, BK716, BK722, BK729, BK754, HB⟩ := hcut
        have hl730002_105 := (Kd.R_reads' HO_730002.out).1
        rw [hl730002_105] at HO_730002
        (try simp only [hl730002_105])
        (try simp only [hl730002_105] at BK703)
        (try simp only [hl730002_105] at BK716)
        (try simp only [hl730002_105] at BK722)
        (try simp only [hl730002_105] at BK729)
        (try simp only [hl730002_105] at BK754)
        (try simp only [hl730002_105] at HO_717002)
        (try simp only [hl730002_105] at HO_723002)
        (try simp only [hl730002_105] at HO_755002)
        cases kq with
        | zero => exact absurd HA.out (by simp [laws_FnExactDeskLine.j2])
        | succ kj105 =>
         have H := HA.out
         clear HA
         simp only [laws_FnExactDeskLine.j2] at H
         by_cases c149 : x95_105 = true
         ·subst c149
          rw [if_pos rfl] at H
          obtain rfl := Option.some.inj H
          go_wp2
          go_ret
          exact ⟨Z6, Z49 GE703 GE716 GE722 GE729 GE754⟩
         replace c149 := Bool.eq_false_iff.mpr c149
         subst c149
         rw [if_neg sqF] at H
         obtain ⟨t756, A150, H⟩ := sqD H
         by_cases c151 : t756 < 0
         ·rw [if_pos c151] at H
          exact absurd (Option.some.inj H) (by rw [hT.out]; decide)
         rw [if_neg c151] at H
         have c151b0 : decide (t756 < 0) = false := decide_eq_false c151
         clear c151
         by_cases c158 : t756 = t740
         ·rw [if_pos c158] at H
          have c158b0 : (t756 == t740) = true := beq_iff_eq.mpr c158
          have c158b1 : (t756 != t740) = false := bne_eq_false_iff_eq.mpr c158
          clear c158
          obtain rfl := Option.some.inj H
          have hnb159 := NB729_703.out
          have hnc159 := NB703_729.out
          have hnb160 := NB729_716.out
          have hnc160 := NB716_729.out
          have hnb161 := NB729_722.out
          have hnc161 := NB722_729.out
          have hnb162 := NB729_754.out
          have hnc162 := NB754_729.out
          obtain ⟨hcz163_0, hcz163_1, hcz163_2, hfz163_0, hfz163_1, hfz163_2⟩ := sqY3 BK729
          go_wp2_with (first | ((with_reducible refine gate_callee (f := 20) rfl ?_); refine sqC (some 98) Tryz.func20 #[.agg #[.int .i64 t723, .int .i64 t724, .slice Ao39 t741.length co39], .int .i64 1] ?_; (with_reducible refine (laws_heldDesk.calls kj105 t723 t724 _ _ t741 1 t756 _ ?side1 ?side2 A150.out).mono ?_); (case side1 => exact Z8 HO_730002); (case side2 => exact Z9 HO_730002); rintro e w164 ⟨rfl, hb⟩; refine ⟨_, rfl, ?_⟩; replace HO_717002 := Aside0.mk (Kd.Q_below (Z46 HO_717002) hb); replace HO_723002 := sqU HO_723002 hb; replace HO_730002 := sqU HO_730002 hb; replace HO_755002 := sqU HO_755002 hb; replace BK703 := sqT BK703 hb; replace BK716 := sqT BK716 hb; replace BK722 := sqT BK722 hb; replace BK729 := sqT BK729 hb; replace BK754 := sqT BK754 hb; replace HB := Aside0.mk (below_step (Z49 GE703 GE716 GE722 GE729 GE754) hb); (try clear hb)))
          go_ret
          exact ⟨Z6, Z49 GE703 GE716 GE722 GE729 GE754⟩
         rw [if_neg c158] at H
         exact absurd (Option.some.inj H) (by rw [hT.out]; decide)
      rw [if_neg c103] at H
      exact absurd (Option.some.inj H) (by rw [hT.out]; decide)
   rw [if_neg c61] at H
   exact absurd (Option.some.inj H) (by rw [hT.out]; decide)

end Go.Proofs.YtofmlbgfcohhoaaGreatDoor.PFnExactDeskLine
