/- The walk of the law FnDeskDo, for the answer true: turned by a program of this session from the printed walk. -/
import Derived.Test.YtofmlbgfcohhoaaGreatDoorPFnDeskDox18
namespace Go.Proofs.YtofmlbgfcohhoaaGreatDoor.PFnDeskDo
open Go.RowKit Go.Proofs.YtofmlbgfcohhoaaGreatDoorW.PrintWords Go.Proofs.YtofmlbgfcohhoaaGreatDoorW.PrintLast Go.Proofs.YtofmlbgfcohhoaaGreatDoorW.PrintMore Go.Proofs.YtofmlbgfcohhoaaGreatDoor.Lib
attribute [local go_sem] max2_int min2_int max_two min_two max_three min_three max_four min_four   -- for this text's walks alone
set_option linter.unusedVariables false
set_option linter.unusedSimpArgs false

attribute [local go_sem high] eqA31
/-! ### laws_FnDeskDo: function 4 -/
def laws_FnDeskDo.j0 : Nat → Bool → Bool → Int → Int → List (S31) → Int → ByteArray → Int → Int → List (S31) → Option (Bool)
 | 0, _, _, _, _, _, _, _, _, _, _ => none
 | k + 1, x6, x41, x524000, x524001, x524002, x525000, x525001, x532000, x532001, x532002 => if x41 = true then (some false) else (if x6 = true then ((impl_DeskDo.f k x532000 x532001 x532002 4 (⟨#[]⟩ : ByteArray)).bind fun bt544 => ((impl_BackOf.f k x525001).bind fun t551 => ((impl_DancedFrom.f k x532000 x532001 t551).bind fun bt552 => ((impl_DeskOk.f k x532000 x532001 x532002).bind fun t556 => (if t556 = true then (if x525000 = 4 then (if x525000 = 0 then (if bt552.2.2 = true then (some (bt552.1 == x524000 && (bt552.2.1 == x524001))) else (some false)) else (some true)) else (if (x524002.length : Int) ≥ 8 then (if x525000 = 0 then (if bt552.2.2 = true then (some (bt552.1 == x524000 && (bt552.2.1 == x524001))) else (some false)) else (some true)) else (if bt544.2.2.2 = true then ((laws_sameDesk.f k bt544.1 bt544.2.1 bt544.2.2.1 x524000 x524001 x524002).bind fun t557 => (if t557 = true then (if x525000 = 0 then (if bt552.2.2 = true then (some (bt552.1 == x524000 && (bt552.2.1 == x524001))) else (some false)) else (some true)) else (some false))) else (some false)))) else (some false)))))) else ((laws_sameDesk.f k x532000 x532001 x532002 x524000 x524001 x524002).bind fun t540 => (if t540 = true then ((laws_alive.f k).bind fun t541 => (some t541)) else ((impl_DeskOk.f k x524000 x524001 x524002).bind fun t542 => (if t542 = true then (some false) else ((laws_alive.f k).bind fun t543 => (some t543)))))))
def laws_FnDeskDo.f (k : Nat) (l0 : List Int) : Option (Bool) := if (l0.length : Int) > 1048576 then (some true) else ((spec_DrawDeskDo.f k l0).bind fun bt516 => ((impl_DeskDo.f k bt516.1 bt516.2.1 bt516.2.2.1 bt516.2.2.2.1 bt516.2.2.2.2).bind fun bt525 => ((spec_DeskDo.f k bt516.1 bt516.2.1 bt516.2.2.1 bt516.2.2.2.1 bt516.2.2.2.2).bind fun bt532 => ((laws_sameDesk.f k bt525.1 bt525.2.1 bt525.2.2.1 bt532.1 bt532.2.1 bt532.2.2.1).bind fun t539 => (if t539 = true then (laws_FnDeskDo.j0 k bt525.2.2.2 (bt525.2.2.2 != bt532.2.2.2) bt516.1 bt516.2.1 bt516.2.2.1 bt516.2.2.2.1 bt516.2.2.2.2 bt525.1 bt525.2.1 bt525.2.2.1) else (laws_FnDeskDo.j0 k bt525.2.2.2 true bt516.1 bt516.2.1 bt516.2.2.1 bt516.2.2.2.1 bt516.2.2.2.2 bt525.1 bt525.2.1 bt525.2.2.1))))))
theorem laws_FnDeskDo.mono_l : ∀ k, (∀ y0 y1 y2 y3 y4 y5 y6 y7 y8 y9, LeO (laws_FnDeskDo.j0 k y0 y1 y2 y3 y4 y5 y6 y7 y8 y9) (laws_FnDeskDo.j0 (k + 1) y0 y1 y2 y3 y4 y5 y6 y7 y8 y9))
 | 0 => fun _ _ _ _ _ _ _ _ _ _ r h => by simp [laws_FnDeskDo.j0] at h
 | k + 1 => by
  have ih0 := laws_FnDeskDo.mono_l k
  ·intro y0 y1 y2 y3 y4 y5 y6 y7 y8 y9
   unfold laws_FnDeskDo.j0
   repeat' first
   | (with_reducible exact ih0 _ _ _ _ _ _ _ _ _ _)
   | (with_reducible exact impl_BackOf.mono _ _)
   | (with_reducible exact impl_DancedFrom.mono _ _ _ _)
   | (with_reducible exact impl_DeskDo.mono _ _ _ _ _ _)
   | (with_reducible exact impl_DeskOk.mono _ _ _ _)
   | (with_reducible exact laws_alive.mono _)
   | (with_reducible exact laws_sameDesk.mono _ _ _ _ _ _ _)
   | (with_reducible exact spec_DeskDo.mono _ _ _ _ _ _)
   | (with_reducible exact spec_DrawDeskDo.mono _ _)
   | (with_reducible exact LeO.refl _)
   | (with_reducible exact LeO.none _)
   | (with_reducible refine LeO.ite ?_ ?_)
   | (with_reducible refine LeO.bind ?_ (fun _ => ?_))
theorem laws_FnDeskDo.mono : ∀ a0 k, LeO (laws_FnDeskDo.f k a0) (laws_FnDeskDo.f (k + 1) a0) := by
 intro a0 k
 have ih0 := laws_FnDeskDo.mono_l k
 unfold laws_FnDeskDo.f
 repeat' first
   | (with_reducible exact ih0 _ _ _ _ _ _ _ _ _ _)
   | (with_reducible exact impl_BackOf.mono _ _)
   | (with_reducible exact impl_DancedFrom.mono _ _ _ _)
   | (with_reducible exact impl_DeskDo.mono _ _ _ _ _ _)
   | (with_reducible exact impl_DeskOk.mono _ _ _ _)
   | (with_reducible exact laws_alive.mono _)
   | (with_reducible exact laws_sameDesk.mono _ _ _ _ _ _ _)
   | (with_reducible exact spec_DeskDo.mono _ _ _ _ _ _)
   | (with_reducible exact spec_DrawDeskDo.mono _ _)
   | (with_reducible exact LeO.refl _)
   | (with_reducible exact LeO.none _)
   | (with_reducible refine LeO.ite ?_ ?_)
   | (with_reducible refine LeO.bind ?_ (fun _ => ?_))
def laws_FnDeskDo.T11 : Bool × List (List Nat × List Nat) := (true, [([], []), ([0], [0]), ([], []), ([2], [2]), ([3], [3]), ([1, 4, 4], [1, 4]), ([5], [5]), ([6], [6]), ([6], [6]), ([], []), ([9, 7, 5, 0, 1, 2, 3, 4, 5, 6, 7, 9], [7, 9]), ([8, 10, 0, 1, 2, 3, 4, 5, 6, 7, 8, 9, 10], [8])])
def laws_FnDeskDo.B11 : List Nat := [0, 1, 0, 4, 12, 31, 63, 127, 127, 0, 767, 2047]
theorem laws_FnDeskDo.tab11 : rtab .any (opsOf Tryz.f4 11) = laws_FnDeskDo.T11 := by kernel_rfl
theorem laws_FnDeskDo.bits11 : waitsOk laws_FnDeskDo.T11.2 laws_FnDeskDo.B11 = true := by kernel_rfl
set_option maxHeartbeats 8000000 in
set_option maxRecDepth 100000 in
theorem laws_FnDeskDo.calls (k : Nat) (A0 : Option Addr) (c0 : Nat) (l0 : List Int) (r : Bool) (w : World) (hG : Glob w) (hr0 : Kd.C (Kd.int .u8) w A0 l0.length l0) (hc0 : l0.length ≤ c0) (hT : Aside0 (r = true)) (h : laws_FnDeskDo.f k l0 = some r) :
  Calls Tryz.prog 4 #[.slice A0 l0.length c0] w fun e w' => e = .returned (.bool r) ∧ Below w.heap.size w w' := by
 have hu34 := Tryz.underlying34
 have hu38 := Tryz.underlying38
 have hu31 := Tryz.underlying31
 have HR0 := Aside0.mk hr0
 have HC0 := Aside0.mk hc0
 clear hr0 hc0
 have HB := Aside0.mk (Below.refl w.heap.size w)
 have H : (if (l0.length : Int) > 1048576 then (some true) else ((spec_DrawDeskDo.f k l0).bind fun bt516 => ((impl_DeskDo.f k bt516.1 bt516.2.1 bt516.2.2.1 bt516.2.2.2.1 bt516.2.2.2.2).bind fun bt525 => ((spec_DeskDo.f k bt516.1 bt516.2.1 bt516.2.2.1 bt516.2.2.2.1 bt516.2.2.2.2).bind fun bt532 => ((laws_sameDesk.f k bt525.1 bt525.2.1 bt525.2.2.1 bt532.1 bt532.2.1 bt532.2.2.1).bind fun t539 => (if t539 = true then (laws_FnDeskDo.j0 k bt525.2.2.2 (bt525.2.2.2 != bt532.2.2.2) bt516.1 bt516.2.1 bt516.2.2.1 bt516.2.2.2.1 bt516.2.2.2.2 bt525.1 bt525.2.1 bt525.2.2.1) else (laws_FnDeskDo.j0 k bt525.2.2.2 true bt516.1 bt516.2.1 bt516.2.2.1 bt516.2.2.2.1 bt516.2.2.2.2 bt525.1 bt525.2.1 bt525.2.2.1))))))) = some r := h
 clear h
 by_cases c2 : (l0.length : Int) > 1048576
 ·rw [if_pos c2] at H
  have c2b0 : decide (1048576 < (l0.length : Int)) = true := decide_eq_true c2
  have c2b1 : decide (1048576 < l0.length) = true := decide_eq_true (by omega)
  clear c2
  obtain rfl := Option.some.inj H
  go_enter Tryz.func4, Tryz.ntmps4
  go_wp2
  go_ret
  exact ⟨Z3, sqB HB⟩
 rw [if_neg c2] at H
 have c2b0 : decide (1048576 < (l0.length : Int)) = false := decide_eq_false c2
 have c2b1 : decide (1048576 < l0.length) = false := decide_eq_false (by omega)
 clear c2
 obtain ⟨⟨t516, t517, t518, t521, t522⟩, A3, H⟩ := sqD H
 try dsimp only at H
 obtain ⟨⟨t525, t526, t527, t530⟩, A4, H⟩ := sqD H
 try dsimp only at H
 obtain ⟨⟨t532, t533, t534, t537⟩, A5, H⟩ := sqD H
 try dsimp only at H
 have HC6 := Aside0.mk H
 clear H
 go_enter Tryz.func4, Tryz.ntmps4
 go_upto_region 6 with (first | ((with_reducible refine gate_callee (f := 21) rfl ?_); refine goesL_ (some 18) rfl rfl Tryz.func21 (by kernel_rfl) rfl #[.slice A0 l0.length c0] rfl sqA ?_; (with_reducible refine (spec_DrawDeskDo.calls k _ _ l0 t516 t517 t518 t521 t522 _ ?side1 ?side2 A3.out).mono ?_); (case side1 => exact Z5 HR0); (case side2 => exact HC0.out); rintro e w7 ⟨v519, rfl, ho0, hb⟩; refine ⟨_, rfl, ?_⟩; have HO520 := Aside0.mk (Kd.Q_lower ho0 (below_size (sqB HB))); replace HB := sqS (sqB HB) hb; (try clear hb); (try clear ho0)) | ((with_reducible refine gate_dst (N := 3) rfl ?_); (try (refine gate_guard (by rfl) ?_; dsimp only)); refine sqBox (N := 3) (cs := #[.int .i64 0, .int .i64 0, .slice none 0 0]) (t := 34) ?_; intro gb523 hg w8 BK523 hb; replace HO520 := Aside0.mk (Kd.Q_below (Z29 HO520) hb); have GW523 := Aside0.mk ((sqG hg (sqB HB))); have GE523 := GW523; replace HB := sqS (sqB HB) hb; clear hb hg) | ((with_reducible refine gate_dst (N := 4) rfl ?_); (try (refine gate_guard (by rfl) ?_; dsimp only)); refine sqBox (N := 4) (cs := #[.int .i64 0, .string (⟨#[]⟩ : ByteArray)]) (t := 38) ?_; intro gb524 hg w9 BK524 hb; replace HO520 := Aside0.mk (Kd.Q_below (Z29 HO520) hb); have GW524 := Aside0.mk ((sqG hg (sqB1 HB GE523))); have GE524 := GW524; replace HB := sqS (sqB1 HB GE523) hb; obtain ⟨NB523_524, NB524_523⟩ := sqM hg BK523; replace BK523 := sqT BK523 hb; clear hb hg; have hnb10 := NB523_524.out; have hnc10 := NB524_523.out; obtain ⟨hcz11_0, hcz11_1, hcz11_2, hfz11_0, hfz11_1, hfz11_2⟩ := sqY3 BK523; obtain ⟨Ao12, co12, eo12, _⟩ := Kd.Q_slice HO520.out; subst eo12; obtain ⟨hcz13_0, hcz13_1, hfz13_0, hfz13_1⟩ := sqY2 BK524) | ((with_reducible refine gate_callee (f := 17) rfl ?_); refine goesL_ (some 24) rfl rfl Tryz.func17 (by kernel_rfl) rfl #[.agg #[.int .i64 t516, .int .i64 t517, .slice Ao12 t518.length co12], .agg #[.int .i64 t521, .string t522]] rfl sqA ?_; (with_reducible refine (impl_DeskDo.calls k t516 t517 _ _ t518 t521 t522 t525 t526 t527 t530 _ ?sideG ?side1 ?side2 A4.out).mono ?_); (case sideG => exact Glob.below hG (sqB2 HB GE523 GE524)); (case side1 => refine (Kd.Q_reads' (e := 31) (base := w.heap.size) (ok := fun k_ => True) (n := t518.length) (c := co12) ?_).2.2; exact (Z76 HO520 BK523 BK524)); (case side2 => exact Z28 HO520); rintro e w14 ⟨v528, rfl, ho0, hb⟩; refine ⟨_, rfl, ?_⟩; have HO529 := Aside0.mk (Kd.R_lower (Kd.R_new' ho0 (Kd.Q_lt (Z76 HO520 BK523 BK524))) (below_size (sqB2 HB GE523 GE524))); replace HO520 := Aside0.mk (Kd.Q_elder' (Z76 HO520 BK523 BK524) (Kd.R_base ho0) hb); replace BK523 := Aside0.mk (blk_below (g := gb523) (o := .cells #[.int .i64 t516, .int .i64 t517, .slice Ao12 t518.length co12] 34 (0, 0)) (by refine sqFar ?_ NB523_524; refine sqFar ?_ NB523_524; refine sqPut (cs := #[.int .i64 t516, .int .i64 t517, .slice none 0 0]) ?_ 2; refine sqPut (cs := #[.int .i64 t516, .int .i64 0, .slice none 0 0]) ?_ 1; refine sqPut (cs := #[.int .i64 0, .int .i64 0, .slice none 0 0]) ?_ 0; exact sqK BK523) hb); replace BK524 := Aside0.mk (blk_below (g := gb524) (o := .cells #[.int .i64 t521, .string t522] 38 (0, 0)) (by refine sqPut (cs := #[.int .i64 t521, .string (⟨#[]⟩ : ByteArray)]) ?_ 1; refine sqPut (cs := #[.int .i64 0, .string (⟨#[]⟩ : ByteArray)]) ?_ 0; refine sqFar ?_ NB524_523; refine sqFar ?_ NB524_523; refine sqFar ?_ NB524_523; exact sqK BK524) hb); replace HB := sqS (sqB2 HB GE523 GE524) hb; (try clear hb); (try clear ho0)) | ((with_reducible refine gate_dst (N := 5) rfl ?_); (try (refine gate_guard (by rfl) ?_; dsimp only)); refine sqBox (N := 5) (cs := #[.int .i64 0, .int .i64 0, .slice none 0 0]) (t := 34) ?_; intro gb531 hg w15 BK531 hb; replace HO520 := Aside0.mk (Kd.Q_below (Z29 HO520) hb); replace HO529 := sqU HO529 hb; have GW531 := Aside0.mk ((sqG hg (sqB2 HB GE523 GE524))); have GE531 := GW531; replace HB := sqS (sqB2 HB GE523 GE524) hb; obtain ⟨NB523_531, NB531_523⟩ := sqM hg BK523; replace BK523 := sqT BK523 hb; obtain ⟨NB524_531, NB531_524⟩ := sqM hg BK524; replace BK524 := sqT BK524 hb; clear hb hg; have hnb16 := NB531_523.out; have hnc16 := NB523_531.out; have hnb17 := NB531_524.out; have hnc17 := NB524_531.out; obtain ⟨hcz18_0, hcz18_1, hcz18_2, hfz18_0, hfz18_1, hfz18_2⟩ := sqY3 BK531; obtain ⟨Ao19, co19, eo19⟩ := Kd.R_slice HO529.out; subst eo19; obtain ⟨hcz20_0, hcz20_1, hcz20_2, hfz20_0, hfz20_1, hfz20_2⟩ := sqY3 BK523; obtain ⟨hcz21_0, hcz21_1, hfz21_0, hfz21_1⟩ := sqY2 BK524) | ((with_reducible refine gate_callee (f := 14) rfl ?_); refine goesL_ (some 30) rfl rfl Tryz.func14 (by kernel_rfl) rfl #[.agg #[.int .i64 t516, .int .i64 t517, .slice Ao12 t518.length co12], .agg #[.int .i64 t521, .string t522]] rfl sqA ?_; (with_reducible refine (spec_DeskDo.calls k t516 t517 _ _ t518 t521 t522 t532 t533 t534 t537 _ ?side1 ?side2 A5.out).mono ?_); (case side1 => refine (Kd.Q_reads' (e := 31) (base := w.heap.size) (ok := fun k_ => (True ∧ some k_ ≠ (.slice Ao19 t527.length co19 : Value).ownBlock)) (n := t518.length) (c := co12) ?_).2.2; exact (Z77 HO520 BK531)); (case side2 => exact Z28 HO520); rintro e w22 ⟨v535, rfl, ho0, hb⟩; refine ⟨_, rfl, ?_⟩; have HO536 := Aside0.mk (Kd.Q_lower (Kd.Q_new' (Kd.Q_new' ho0 (Kd.Q_lt (Z77 HO520 BK531))) (Kd.R_lt (Z78 HO529 BK531))) (below_size (sqB3 HB GE523 GE524 GE531))); replace HO520 := Aside0.mk (Kd.Q_elder' (Z77 HO520 BK531) (Kd.Q_base ho0) hb); replace HO529 := Aside0.mk (Kd.R_elder' (Z78 HO529 BK531) (Kd.Q_base ho0) hb); replace BK523 := Aside0.mk (blk_below (g := gb523) (o := .cells #[.int .i64 t516, .int .i64 t517, .slice Ao12 t518.length co12] 34 (0, 0)) (Z20 NB523_531 BK523) hb); replace BK524 := Aside0.mk (blk_below (g := gb524) (o := .cells #[.int .i64 t521, .string t522] 38 (0, 0)) (Z20 NB524_531 BK524) hb); replace BK531 := Aside0.mk (blk_below (g := gb531) (o := .cells #[.int .i64 t525, .int .i64 t526, .slice Ao19 t527.length co19] 34 (0, 0)) (by refine sqPut (cs := #[.int .i64 t525, .int .i64 t526, .slice none 0 0]) ?_ 2; refine sqPut (cs := #[.int .i64 t525, .int .i64 0, .slice none 0 0]) ?_ 1; refine sqPut (cs := #[.int .i64 0, .int .i64 0, .slice none 0 0]) ?_ 0; exact sqK BK531) hb); replace HB := sqS (sqB3 HB GE523 GE524 GE531) hb; (try clear hb); (try clear ho0)) | ((with_reducible refine gate_dst (N := 7) rfl ?_); (try (refine gate_guard (by rfl) ?_; dsimp only)); refine sqBox (N := 7) (cs := #[.int .i64 0, .int .i64 0, .slice none 0 0]) (t := 34) ?_; intro gb538 hg w23 BK538 hb; replace HO520 := Aside0.mk (Kd.Q_below (Z29 HO520) hb); replace HO529 := sqU HO529 hb; replace HO536 := Aside0.mk (Kd.Q_below (Z29 HO536) hb); have GW538 := Aside0.mk ((sqG hg (sqB3 HB GE523 GE524 GE531))); have GE538 := GW538; replace HB := sqS (sqB3 HB GE523 GE524 GE531) hb; obtain ⟨NB523_538, NB538_523⟩ := sqM hg BK523; replace BK523 := sqT BK523 hb; obtain ⟨NB524_538, NB538_524⟩ := sqM hg BK524; replace BK524 := sqT BK524 hb; obtain ⟨NB531_538, NB538_531⟩ := sqM hg BK531; replace BK531 := sqT BK531 hb; clear hb hg; have hnb24 := NB538_523.out; have hnc24 := NB523_538.out; have hnb25 := NB538_524.out; have hnc25 := NB524_538.out; have hnb26 := NB538_531.out; have hnc26 := NB531_538.out; obtain ⟨hcz27_0, hcz27_1, hcz27_2, hfz27_0, hfz27_1, hfz27_2⟩ := sqY3 BK538; obtain ⟨Ao28, co28, eo28, _⟩ := Kd.Q_slice HO536.out; subst eo28))
 (try simp only [Act.put, List.setIfInBounds_toArray, List.set_cons_zero, List.set_cons_succ])
 go_cut [41] (fun v41 wc => ∃ (kq : Nat) (x41_5 : Bool), v41 = .bool x41_5 ∧ Aside0 (laws_FnDeskDo.j0 kq t530 x41_5 t516 t517 t518 t521 t522 t525 t526 t527 = some r) ∧ Aside0 (kq ≤ k) ∧ Aside0 (Kd.Q k31 31 wc w.heap.size (fun k_ => some k_ ≠ ((.slice Ao19 t527.length co19) : Value).ownBlock ∧ some k_ ≠ ((.slice Ao28 t534.length co28) : Value).ownBlock) (.slice Ao12 t518.length co12) t518) ∧ Aside0 (Kd.R k31 31 wc w.heap.size (fun k_ => some k_ ≠ ((.slice Ao12 t518.length co12) : Value).ownBlock ∧ some k_ ≠ ((.slice Ao28 t534.length co28) : Value).ownBlock) (.slice Ao19 t527.length co19) t527) ∧ Aside0 (Kd.Q k31 31 wc w.heap.size (fun k_ => some k_ ≠ ((.slice Ao12 t518.length co12) : Value).ownBlock ∧ some k_ ≠ ((.slice Ao19 t527.length co19) : Value).ownBlock) (.slice Ao28 t534.length co28) t534) ∧ Aside0 (wc.heap[gb523]? = some (.cells #[.int .i64 t516, .int .i64 t517, (.slice Ao12 t518.length co12)] 34 (0, 0))) ∧ Aside0 (wc.heap[gb524]? = some (.cells #[.int .i64 t521, .string t522] 38 (0, 0))) ∧ Aside0 (wc.heap[gb531]? = some (.cells #[.int .i64 t525, .int .i64 t526, (.slice Ao19 t527.length co19)] 34 (0, 0))) ∧ Aside0 (wc.heap[gb538]? = some (.cells #[.int .i64 t532, .int .i64 t533, (.slice Ao28 t534.length co28)] 34 (0, 0))) ∧ Aside0 (Below w.heap.size w wc))
 case first =>
  have H := HC6.out
  clear HC6
  obtain ⟨t539, A29, H⟩ := sqD H
  by_cases c30 : t539 = true
  ·subst c30
   rw [if_pos rfl] at H
   have H' := Aside0.mk H
   clear H
   have hnb31 := NB531_523.out
   have hnc31 := NB523_531.out
   have hnb32 := NB531_524.out
   have hnc32 := NB524_531.out
   have hnb33 := NB531_538.out
   have hnc33 := NB538_531.out
   obtain ⟨hcz34_0, hcz34_1, hcz34_2, hfz34_0, hfz34_1, hfz34_2⟩ := sqY3 BK531
   have hnb35 := NB538_523.out
   have hnc35 := NB523_538.out
   have hnb36 := NB538_524.out
   have hnc36 := NB524_538.out
   obtain ⟨hcz37_0, hcz37_1, hcz37_2, hfz37_0, hfz37_1, hfz37_2⟩ := sqY3 BK538
   go_wp2_with (first | ((with_reducible refine gate_callee (f := 22) rfl ?_); refine goesL_ (some 35) rfl rfl Tryz.func22 (by kernel_rfl) rfl #[.agg #[.int .i64 t525, .int .i64 t526, .slice Ao19 t527.length co19], .agg #[.int .i64 t532, .int .i64 t533, .slice Ao28 t534.length co28]] rfl sqA ?_; (with_reducible refine (laws_sameDesk.calls k t525 t526 _ _ t527 t532 t533 _ _ t534 true _ ?side1 ?side2 ?side3 ?side4 A29.out).mono ?_); (case side1 => exact Z113 HO529 BK538); (case side2 => exact Z31 HO529); (case side3 => exact Z114 HO536 BK538); (case side4 => exact Z28 HO536); rintro e w38 ⟨rfl, hb⟩; refine ⟨_, rfl, ?_⟩; replace HO520 := Aside0.mk (Kd.Q_below (Z80 HO520 BK538) hb); replace HO529 := Aside0.mk (Kd.R_below (Z79 HO529 BK538) hb); replace HO536 := Aside0.mk (Kd.Q_below (Z80 HO536 BK538) hb); replace BK523 := Aside0.mk (blk_below (g := gb523) (o := .cells #[.int .i64 t516, .int .i64 t517, .slice Ao12 t518.length co12] 34 (0, 0)) (Z20 NB523_538 BK523) hb); replace BK524 := Aside0.mk (blk_below (g := gb524) (o := .cells #[.int .i64 t521, .string t522] 38 (0, 0)) (Z20 NB524_538 BK524) hb); replace BK531 := Aside0.mk (blk_below (g := gb531) (o := .cells #[.int .i64 t525, .int .i64 t526, .slice Ao19 t527.length co19] 34 (0, 0)) (Z20 NB531_538 BK531) hb); replace BK538 := Aside0.mk (blk_below (g := gb538) (o := .cells #[.int .i64 t532, .int .i64 t533, .slice Ao28 t534.length co28] 34 (0, 0)) (Z81 BK538) hb); replace HB := sqS (sqB4 HB GE523 GE524 GE531 GE538) hb; (try clear hb)))
   go_meet
   case rel => exact ⟨_, ((t530 != t537)), Z1, H', ⟨Z16⟩, ⟨Z82 HO520⟩, ⟨Z83 HO529⟩, ⟨Z82 HO536⟩, ⟨sqK BK523⟩, ⟨sqK BK524⟩, ⟨sqK BK531⟩, ⟨sqK BK538⟩, ⟨sqB4 HB GE523 GE524 GE531 GE538⟩⟩
  replace c30 := Bool.eq_false_iff.mpr c30
  subst c30
  rw [if_neg sqF] at H
  have H' := Aside0.mk H
  clear H
  have hnb39 := NB531_523.out
  have hnc39 := NB523_531.out
  have hnb40 := NB531_524.out
  have hnc40 := NB524_531.out
  have hnb41 := NB531_538.out
  have hnc41 := NB538_531.out
  obtain ⟨hcz42_0, hcz42_1, hcz42_2, hfz42_0, hfz42_1, hfz42_2⟩ := sqY3 BK531
  have hnb43 := NB538_523.out
  have hnc43 := NB523_538.out
  have hnb44 := NB538_524.out
  have hnc44 := NB524_538.out
  obtain ⟨hcz45_0, hcz45_1, hcz45_2, hfz45_0, hfz45_1, hfz45_2⟩ := sqY3 BK538
  go_wp2_with (first | ((with_reducible refine gate_callee (f := 22) rfl ?_); refine goesL_ (some 35) rfl rfl Tryz.func22 (by kernel_rfl) rfl #[.agg #[.int .i64 t525, .int .i64 t526, .slice Ao19 t527.length co19], .agg #[.int .i64 t532, .int .i64 t533, .slice Ao28 t534.length co28]] rfl sqA ?_; (with_reducible refine (laws_sameDesk.calls k t525 t526 _ _ t527 t532 t533 _ _ t534 false _ ?side1 ?side2 ?side3 ?side4 A29.out).mono ?_); (case side1 => exact Z113 HO529 BK538); (case side2 => exact Z31 HO529); (case side3 => exact Z114 HO536 BK538); (case side4 => exact Z28 HO536); rintro e w46 ⟨rfl, hb⟩; refine ⟨_, rfl, ?_⟩; replace HO520 := Aside0.mk (Kd.Q_below (Z80 HO520 BK538) hb); replace HO529 := Aside0.mk (Kd.R_below (Z79 HO529 BK538) hb); replace HO536 := Aside0.mk (Kd.Q_below (Z80 HO536 BK538) hb); replace BK523 := Aside0.mk (blk_below (g := gb523) (o := .cells #[.int .i64 t516, .int .i64 t517, .slice Ao12 t518.length co12] 34 (0, 0)) (Z20 NB523_538 BK523) hb); replace BK524 := Aside0.mk (blk_below (g := gb524) (o := .cells #[.int .i64 t521, .string t522] 38 (0, 0)) (Z20 NB524_538 BK524) hb); replace BK531 := Aside0.mk (blk_below (g := gb531) (o := .cells #[.int .i64 t525, .int .i64 t526, .slice Ao19 t527.length co19] 34 (0, 0)) (Z20 NB531_538 BK531) hb); replace BK538 := Aside0.mk (blk_below (g := gb538) (o := .cells #[.int .i64 t532, .int .i64 t533, .slice Ao28 t534.length co28] 34 (0, 0)) (Z81 BK538) hb); replace HB := sqS (sqB4 HB GE523 GE524 GE531 GE538) hb; (try clear hb)))
  go_meet
  case rel => exact ⟨_, (true), Z1, H', ⟨Z16⟩, ⟨Z82 HO520⟩, ⟨Z83 HO529⟩, ⟨Z82 HO536⟩, ⟨sqK BK523⟩, ⟨sqK BK524⟩, ⟨sqK BK531⟩, ⟨sqK BK538⟩, ⟨sqB4 HB GE523 GE524 GE531 GE538⟩⟩
 case rest =>
  clear HC6
  try clear c1; try clear c2; try clear c2b0; try clear c2b1; try clear p2; try clear c3; try clear c4; try clear c10; try clear c14; try clear c16; try clear c17; try clear c21; try clear c22; try clear c24; try clear c25; try clear c26; try clear c30; try clear c31; try clear c32; try clear c33; try clear c35; try clear c36; try clear c39; try clear c40; try clear c41; try clear c43; try clear c44; try clear hcz11_0; try clear hcz11_1; try clear hcz11_2; try clear hcz13_0; try clear hcz13_1; try clear hcz18_0; try clear hcz18_1; try clear hcz18_2; try clear hcz20_0; try clear hcz20_1; try clear hcz20_2; try clear hcz21_0; try clear hcz21_1; try clear hcz27_0; try clear hcz27_1; try clear hcz27_2; try clear hcz34_0; try clear hcz34_1; try clear hcz34_2; try clear hcz37_0; try clear hcz37_1; try clear hcz37_2; try clear hcz42_0; try clear hcz42_1; try clear hcz42_2; try clear hcz45_0; try clear hcz45_1; try clear hcz45_2; try clear hfz11_0; try clear hfz11_1; try clear hfz11_2; try clear hfz13_0; try clear hfz13_1; try clear hfz18_0; try clear hfz18_1; try clear hfz18_2; try clear hfz20_0; try clear hfz20_1; try clear hfz20_2; try clear hfz21_0; try clear hfz21_1; try clear hfz27_0; try clear hfz27_1; try clear hfz27_2; try clear hfz34_0; try clear hfz34_1; try clear hfz34_2; try clear hfz37_0; try clear hfz37_1; try clear hfz37_2; try clear hfz42_0; try clear hfz42_1; try clear hfz42_2; try clear hfz45_0; try clear hfz45_1; try clear hfz45_2
  obtain ⟨kq, x41_5, rfl, HA, HJ5, HO_524002, HO_532002, HO_539002, BK523, BK524, BK531, BK538, HB⟩ := hcut
  cases kq with
  | zero => exact absurd HA.out (by simp [laws_FnDeskDo.j0])
  | succ kj5 =>
   have H := HA.out
   clear HA
   simp only [laws_FnDeskDo.j0] at H
   by_cases c47 : x41_5 = true
   ·subst c47
    rw [if_pos rfl] at H
    obtain rfl := Option.some.inj H
    go_wp2
    go_ret
    exact ⟨Z3, sqB4 HB GE523 GE524 GE531 GE538⟩
   replace c47 := Bool.eq_false_iff.mpr c47
   subst c47
   rw [if_neg sqF] at H
   by_cases c48 : t530 = true
   ·subst c48
    rw [if_pos rfl] at H
    obtain ⟨⟨t544, t545, t546, t549⟩, A49, H⟩ := sqD H
    try dsimp only at H
    obtain ⟨t551, A50, H⟩ := sqD H
    obtain ⟨⟨t552, t553, t554⟩, A51, H⟩ := sqD H
    try dsimp only at H
    obtain ⟨t556, A52, H⟩ := sqD H
    by_cases c53 : t556 = true
    ·subst c53
     rw [if_pos rfl] at H
     by_cases c54 : t521 = 4
     ·rw [if_pos c54] at H
      have c54b0 : (t521 == 4) = true := beq_iff_eq.mpr c54
      have c54b1 : (t521 != 4) = false := bne_eq_false_iff_eq.mpr c54
      clear c54
      by_cases c55 : t521 = 0
      ·rw [if_pos c55] at H
       have c55b0 : (t521 == 0) = true := beq_iff_eq.mpr c55
       have c55b1 : (t521 != 0) = false := bne_eq_false_iff_eq.mpr c55
       clear c55
       by_cases c56 : t554 = true
       ·subst c56
        rw [if_pos rfl] at H
        obtain rfl := Option.some.inj H
        have hnb57 := NB531_523.out
        have hnc57 := NB523_531.out
        have hnb58 := NB531_524.out
        have hnc58 := NB524_531.out
        have hnb59 := NB531_538.out
        have hnc59 := NB538_531.out
        obtain ⟨hcz60_0, hcz60_1, hcz60_2, hfz60_0, hfz60_1, hfz60_2⟩ := sqY3 BK531
        try go_wp2_with (first | ((with_reducible refine gate_callee (f := 17) rfl ?_); refine goesL_ (some 58) rfl rfl Tryz.func17 (by kernel_rfl) rfl #[.agg #[.int .i64 t525, .int .i64 t526, .slice Ao19 t527.length co19], .agg #[.int .i64 4, .string (⟨#[]⟩ : ByteArray)]] rfl sqA ?_; (with_reducible refine (impl_DeskDo.calls kj5 t525 t526 _ _ t527 4 (⟨#[]⟩ : ByteArray) t544 t545 t546 t549 _ ?sideG ?side1 ?side2 A49.out).mono ?_); (case sideG => exact Glob.below hG (sqB4 HB GE523 GE524 GE531 GE538)); (case side1 => exact Z30 HO_532002); (case side2 => exact Z31 HO_532002); rintro e w61 ⟨v547, rfl, ho0, hb⟩; refine ⟨_, rfl, ?_⟩; have HO548 := Aside0.mk (Kd.R_lower (Kd.R_new' (Kd.R_new' (Kd.R_new' ho0 (Kd.Q_lt (Z29 HO_524002))) (Kd.R_lt (sqR HO_532002))) (Kd.Q_lt (Z29 HO_539002))) (below_size (sqB4 HB GE523 GE524 GE531 GE538))); replace HO_524002 := Aside0.mk (Kd.Q_elder' (Z29 HO_524002) (Kd.R_base ho0) hb); replace HO_532002 := Aside0.mk (Kd.R_elder' (sqR HO_532002) (Kd.R_base ho0) hb); replace HO_539002 := Aside0.mk (Kd.Q_elder' (Z29 HO_539002) (Kd.R_base ho0) hb); replace BK523 := sqT BK523 hb; replace BK524 := sqT BK524 hb; replace BK531 := sqT BK531 hb; replace BK538 := sqT BK538 hb; replace HB := sqS (sqB4 HB GE523 GE524 GE531 GE538) hb; (try clear hb); (try clear ho0)) | ((with_reducible refine gate_dst (N := 9) rfl ?_); (try (refine gate_guard (by rfl) ?_; dsimp only)); refine sqBox (N := 9) (cs := #[.int .i64 0, .int .i64 0, .slice none 0 0]) (t := 34) ?_; intro gb550 hg w62 BK550 hb; replace HO_524002 := Aside0.mk (Kd.Q_below (Z29 HO_524002) hb); replace HO_532002 := sqU HO_532002 hb; replace HO_539002 := Aside0.mk (Kd.Q_below (Z29 HO_539002) hb); replace HO548 := sqU HO548 hb; have GW550 := Aside0.mk ((sqG hg (sqB4 HB GE523 GE524 GE531 GE538))); have GE550 := GW550; replace HB := sqS (sqB4 HB GE523 GE524 GE531 GE538) hb; obtain ⟨NB523_550, NB550_523⟩ := sqM hg BK523; replace BK523 := sqT BK523 hb; obtain ⟨NB524_550, NB550_524⟩ := sqM hg BK524; replace BK524 := sqT BK524 hb; obtain ⟨NB531_550, NB550_531⟩ := sqM hg BK531; replace BK531 := sqT BK531 hb; obtain ⟨NB538_550, NB550_538⟩ := sqM hg BK538; replace BK538 := sqT BK538 hb; clear hb hg; have hnb63 := NB550_523.out; have hnc63 := NB523_550.out; have hnb64 := NB550_524.out; have hnc64 := NB524_550.out; have hnb65 := NB550_531.out; have hnc65 := NB531_550.out; have hnb66 := NB550_538.out; have hnc66 := NB538_550.out; obtain ⟨hcz67_0, hcz67_1, hcz67_2, hfz67_0, hfz67_1, hfz67_2⟩ := sqY3 BK550; obtain ⟨Ao68, co68, eo68⟩ := Kd.R_slice HO548.out; subst eo68))
        obtain ⟨w69, hw_⟩ : ∃ w_, ((w62.setCell ⟨gb550, 0, none⟩ (.int .i64 t544)).setCell ⟨gb550, 1, none⟩ (.int .i64 t545)).setCell ⟨gb550, 2, none⟩ (.slice Ao68 t546.length co68) = w_ := ⟨_, rfl⟩
        replace HO_524002 : Aside0 (Kd.Q k31 31 w69 w.heap.size (fun k_ => some k_ ≠ (.slice Ao19 t527.length co19 : Value).ownBlock ∧ some k_ ≠ (.slice Ao28 t534.length co28 : Value).ownBlock ∧ some k_ ≠ (.slice Ao68 t546.length co68 : Value).ownBlock) (.slice Ao12 t518.length co12) t518) := by rw [← hw_]; exact ⟨Z84 HO_524002 BK550⟩
        replace HO_532002 : Aside0 (Kd.R k31 31 w69 w.heap.size (fun k_ => some k_ ≠ (.slice Ao12 t518.length co12 : Value).ownBlock ∧ some k_ ≠ (.slice Ao28 t534.length co28 : Value).ownBlock ∧ some k_ ≠ (.slice Ao68 t546.length co68 : Value).ownBlock) (.slice Ao19 t527.length co19) t527) := by rw [← hw_]; exact ⟨by (with_reducible repeat (first | apply Kd.R_alloc | apply Kd.R_drewN | apply Kd.R_drew)); exact Kd.R_mono (Kd.R_far (p := ⟨gb550, 2, none⟩) (Kd.R_far (p := ⟨gb550, 1, none⟩) (Kd.R_far (p := ⟨gb550, 0, none⟩) (Kd.R_types HO_532002.out BK550.out (by decide)) (fun _ hk => hk.2) (.int .i64 t544)) (fun _ hk => hk.2) (.int .i64 t545)) (fun _ hk => hk.2) (.slice Ao68 t546.length co68)) (fun _ hk => ⟨hk.1.1.1, ⟨hk.1.1.2, hk.1.2⟩⟩)⟩
        replace HO_539002 : Aside0 (Kd.Q k31 31 w69 w.heap.size (fun k_ => some k_ ≠ (.slice Ao12 t518.length co12 : Value).ownBlock ∧ some k_ ≠ (.slice Ao19 t527.length co19 : Value).ownBlock ∧ some k_ ≠ (.slice Ao68 t546.length co68 : Value).ownBlock) (.slice Ao28 t534.length co28) t534) := by rw [← hw_]; exact ⟨Z84 HO_539002 BK550⟩
        replace HO548 : Aside0 (Kd.R k31 31 w69 w.heap.size (fun k_ => some k_ ≠ (.slice Ao12 t518.length co12 : Value).ownBlock ∧ some k_ ≠ (.slice Ao19 t527.length co19 : Value).ownBlock ∧ some k_ ≠ (.slice Ao28 t534.length co28 : Value).ownBlock) (.slice Ao68 t546.length co68) t546) := by rw [← hw_]; exact ⟨by (with_reducible repeat (first | apply Kd.R_alloc | apply Kd.R_drewN | apply Kd.R_drew)); exact Kd.R_mono (Kd.R_far (p := ⟨gb550, 2, none⟩) (Kd.R_far (p := ⟨gb550, 1, none⟩) (Kd.R_far (p := ⟨gb550, 0, none⟩) (Kd.R_types HO548.out BK550.out (by decide)) (fun _ hk => hk.2) (.int .i64 t544)) (fun _ hk => hk.2) (.int .i64 t545)) (fun _ hk => hk.2) (.slice Ao68 t546.length co68)) (fun _ hk => ⟨hk.1.1.1.2, ⟨hk.1.1.2, hk.1.2⟩⟩)⟩
        replace BK523 : Aside0 (w69.heap[gb523]? = some (.cells #[.int .i64 t516, .int .i64 t517, .slice Ao12 t518.length co12] 34 (0, 0))) := by rw [← hw_]; exact ⟨Z20 NB523_550 BK523⟩
        replace BK524 : Aside0 (w69.heap[gb524]? = some (.cells #[.int .i64 t521, .string t522] 38 (0, 0))) := by rw [← hw_]; exact ⟨Z20 NB524_550 BK524⟩
        replace BK531 : Aside0 (w69.heap[gb531]? = some (.cells #[.int .i64 t525, .int .i64 t526, .slice Ao19 t527.length co19] 34 (0, 0))) := by rw [← hw_]; exact ⟨Z20 NB531_550 BK531⟩
        replace BK538 : Aside0 (w69.heap[gb538]? = some (.cells #[.int .i64 t532, .int .i64 t533, .slice Ao28 t534.length co28] 34 (0, 0))) := by rw [← hw_]; exact ⟨Z20 NB538_550 BK538⟩
        replace BK550 : Aside0 (w69.heap[gb550]? = some (.cells #[.int .i64 t544, .int .i64 t545, .slice Ao68 t546.length co68] 34 (0, 0))) := by rw [← hw_]; exact ⟨Z85 BK550⟩
        replace HB : Aside0 (Below w.heap.size w w69) := by rw [← hw_]; exact ⟨Z26 GE523 GE524 GE531 GE538 GE550⟩
        rw [hw_]; clear hw_
        replace HO_524002 := Aside0.mk (Kd.Q_drew HO_524002.out)
        replace HO_532002 := Aside0.mk (Kd.R_drew HO_532002.out)
        replace HO_539002 := Aside0.mk (Kd.Q_drew HO_539002.out)
        replace HO548 := Aside0.mk (Kd.R_drew HO548.out)
        replace BK523 := Aside0.mk (blk_drew BK523.out)
        replace BK524 := Aside0.mk (blk_drew BK524.out)
        replace BK531 := Aside0.mk (blk_drew BK531.out)
        replace BK538 := Aside0.mk (blk_drew BK538.out)
        replace BK550 := Aside0.mk (blk_drew BK550.out)
        replace HB := Aside0.mk (below_drew1 HB.out)
        refine start_ (n := 12) (S := fun w' => w'.cell? ⟨gb531, 0, none⟩ = some (.int .i64 t525) ∧ w'.cell? ⟨gb531, 1, none⟩ = some (.int .i64 t526) ∧ w'.cell? ⟨gb531, 2, none⟩ = some (.slice Ao19 t527.length co19) ∧ w'.cell? ⟨gb524, 0, none⟩ = some (.int .i64 t521) ∧ w'.cell? ⟨gb524, 1, none⟩ = some (.string t522)) (ds := []) #[false, false, false, false, false, false, false, false, false, false, false, false] (by kernel_rfl) rfl rfl ⟨(blk_cell BK531.out 0).trans rfl, (blk_cell BK531.out 1).trans rfl, (blk_cell BK531.out 2).trans rfl, (blk_cell BK524.out 0).trans rfl, (blk_cell BK524.out 1).trans rfl⟩ (fun hHeld => ?_); refine with_tabW laws_FnDeskDo.tab11 laws_FnDeskDo.bits11 (fun HT_ HW_ => ?_)
        generalize w69.drew = w70 at HO_524002 HO_532002 HO_539002 HO548 BK523 BK524 BK531 BK538 BK550 HB hHeld ⊢
        refine sqP (i := 0) (N := some 62) (h := ?_)
        refine sqP (i := 2) (N := some 64) (h := ?_)
        refine sqQ (i := 1) (N := some 63) hHeld (h := ?_)
        refine sqQ (i := 3) (N := some 65) hHeld (h := ?_)
        refine join_ (σ := Nat) 2 #[true, true, true, true, true, true, true, true, true, true, false, false] (fun s_ => [(66, .string t551), (67, .tuple #[.agg #[.int .i64 t552, .int .i64 t553], .bool true]), (11, .pointer (some ⟨s_, 0, none⟩)), (61, .tuple #[.agg #[.int .i64 t552, .int .i64 t553], .bool true]), (68, .agg #[.int .i64 t552, .int .i64 t553]), (69, .bool true)]) (fun s_ w' => (w'.cell? ⟨gb531, 0, none⟩ = some (.int .i64 t525) ∧ w'.cell? ⟨gb531, 1, none⟩ = some (.int .i64 t526) ∧ w'.cell? ⟨gb531, 2, none⟩ = some (.slice Ao19 t527.length co19) ∧ w'.cell? ⟨gb524, 0, none⟩ = some (.int .i64 t521) ∧ w'.cell? ⟨gb524, 1, none⟩ = some (.string t522)) ∧ (Kd.R k31 31 w' w.heap.size (fun k_ => some k_ ≠ (.slice Ao12 t518.length co12 : Value).ownBlock ∧ some k_ ≠ (.slice Ao19 t527.length co19 : Value).ownBlock ∧ some k_ ≠ (.slice Ao28 t534.length co28 : Value).ownBlock ∧ k_ ≠ s_) (.slice Ao68 t546.length co68) t546) ∧ (Kd.Q k31 31 w' w.heap.size (fun k_ => some k_ ≠ (.slice Ao68 t546.length co68 : Value).ownBlock ∧ some k_ ≠ (.slice Ao19 t527.length co19 : Value).ownBlock ∧ some k_ ≠ (.slice Ao28 t534.length co28 : Value).ownBlock ∧ k_ ≠ s_) (.slice Ao12 t518.length co12) t518) ∧ (Kd.R k31 31 w' w.heap.size (fun k_ => some k_ ≠ (.slice Ao68 t546.length co68 : Value).ownBlock ∧ some k_ ≠ (.slice Ao12 t518.length co12 : Value).ownBlock ∧ some k_ ≠ (.slice Ao28 t534.length co28 : Value).ownBlock ∧ k_ ≠ s_) (.slice Ao19 t527.length co19) t527) ∧ (Kd.Q k31 31 w' w.heap.size (fun k_ => some k_ ≠ (.slice Ao68 t546.length co68 : Value).ownBlock ∧ some k_ ≠ (.slice Ao12 t518.length co12 : Value).ownBlock ∧ some k_ ≠ (.slice Ao19 t527.length co19 : Value).ownBlock ∧ k_ ≠ s_) (.slice Ao28 t534.length co28) t534) ∧ (w'.heap[gb523]? = some (.cells #[.int .i64 t516, .int .i64 t517, .slice Ao12 t518.length co12] 34 (0, 0))) ∧ (w'.heap[gb524]? = some (.cells #[.int .i64 t521, .string t522] 38 (0, 0))) ∧ (w'.heap[gb531]? = some (.cells #[.int .i64 t525, .int .i64 t526, .slice Ao19 t527.length co19] 34 (0, 0))) ∧ (w'.heap[gb538]? = some (.cells #[.int .i64 t532, .int .i64 t533, .slice Ao28 t534.length co28] 34 (0, 0))) ∧ (w'.heap[gb550]? = some (.cells #[.int .i64 t544, .int .i64 t545, .slice Ao68 t546.length co68] 34 (0, 0))) ∧ (w'.heap[s_]? = some (.cells #[.int .i64 0, .int .i64 0] 31 (0, 0))) ∧ (w.heap.size ≤ s_) ∧ (w.heap.size ≤ s_) ∧ (gb523 ≠ s_) ∧ (s_ ≠ gb523) ∧ (gb524 ≠ s_) ∧ (s_ ≠ gb524) ∧ (gb531 ≠ s_) ∧ (s_ ≠ gb531) ∧ (gb538 ≠ s_) ∧ (s_ ≠ gb538) ∧ (gb550 ≠ s_) ∧ (s_ ≠ gb550) ∧ (Below w.heap.size w w')) ?_ ?_
        rotate_left
        ·intro hCont
         refine two_ (i := 4) (j := 9) (Ni := some 66) (Nj := some 11) #[true, true, true, true, true, false, false, false, false, false, false, false] #[true, true, true, true, false, false, false, false, false, true, false, false] rfl rfl rfl rfl (two_of HT_.out (by kernel_rfl)) (by decide) (by decide) (fun K hK => ?_) (fun K hK => ?_)
         ·skip
          refine goes_ Tryz.func26 (by kernel_rfl) rfl #[.string t522] (by rfl) rfl rfl sqA ?_
          with_reducible refine (impl_BackOf.calls kj5 t522 t551 _ A50.out).mono ?_
          rintro e w71 ⟨rfl, hb⟩
          refine ⟨_, rfl, ?_⟩
          replace HO_524002 := Aside0.mk (Kd.Q_below (Z29 HO_524002) hb)
          replace HO_532002 := sqU HO_532002 hb
          replace HO_539002 := Aside0.mk (Kd.Q_below (Z29 HO_539002) hb)
          replace HO548 := sqU HO548 hb
          replace BK523 := sqT BK523 hb
          replace BK524 := sqT BK524 hb
          replace BK531 := sqT BK531 hb
          replace BK538 := sqT BK538 hb
          replace BK550 := sqT BK550 hb
          replace HB := Aside0.mk (below_step (Z26 GE523 GE524 GE531 GE538 GE550) hb)
          (try clear hb)
          (try clear hb2)
          (try clear hk)
          (try clear hi)
          refine hK.out _ _ ⟨(blk_cell BK531.out 0).trans rfl, (blk_cell BK531.out 1).trans rfl, (blk_cell BK531.out 2).trans rfl, (blk_cell BK524.out 0).trans rfl, (blk_cell BK524.out 1).trans rfl⟩ (fun hHeld => ?_)
          clear hK K
          refine sqN (some 66) ?_
          refine two_ (i := 5) (j := 9) (Ni := some 67) (Nj := some 11) #[true, true, true, true, true, true, false, false, false, false, false, false] #[true, true, true, true, true, false, false, false, false, true, false, false] rfl rfl rfl rfl (two_of HT_.out (by kernel_rfl)) (by decide) (by decide) (fun K hK => ?_) (fun K hK => ?_)
          ·skip
           refine goes_ Tryz.func25 (by kernel_rfl) rfl #[.agg #[.int .i64 t525, .int .i64 t526], .string t551] (by rfl) rfl rfl sqA ?_
           with_reducible refine (impl_DancedFrom.calls kj5 t525 t526 t551 t552 t553 true _ A51.out).mono ?_
           rintro e w72 ⟨rfl, hb⟩
           refine ⟨_, rfl, ?_⟩
           replace HO_524002 := Aside0.mk (Kd.Q_below (Z29 HO_524002) hb)
           replace HO_532002 := sqU HO_532002 hb
           replace HO_539002 := Aside0.mk (Kd.Q_below (Z29 HO_539002) hb)
           replace HO548 := sqU HO548 hb
           replace BK523 := sqT BK523 hb
           replace BK524 := sqT BK524 hb
           replace BK531 := sqT BK531 hb
           replace BK538 := sqT BK538 hb
           replace BK550 := sqT BK550 hb
           replace HB := Aside0.mk (below_step (Z26 GE523 GE524 GE531 GE538 GE550) hb)
           (try clear hb)
           (try clear hb2)
           (try clear hk)
           (try clear hi)
           refine hK.out _ _ ⟨(blk_cell BK531.out 0).trans rfl, (blk_cell BK531.out 1).trans rfl, (blk_cell BK531.out 2).trans rfl, (blk_cell BK524.out 0).trans rfl, (blk_cell BK524.out 1).trans rfl⟩ (fun hHeld => ?_)
           clear hK K
           refine sqN (some 67) ?_
           refine sqP (i := 6) (N := some 61) (h := ?_)
           refine sqP (i := 7) (N := some 68) (h := ?_)
           refine sqP (i := 8) (N := some 69) (h := ?_)
           refine one_ (i := 9) (N := some 11) #[true, true, true, true, true, true, true, true, true, true, false, false] rfl rfl (one_of HT_.out (by kernel_rfl)) (by decide) (fun K hK => ?_)
           refine box_step ?hg (N := 11) ?hd (cs := #[.int .i64 0, .int .i64 0]) (t := 31) ?hr ?_; (case hd => rfl); (case hg => rfl); (case hr => exact Z7)
           intro gb555 hg w73 hbox hb
           replace HO_524002 := Aside0.mk (Kd.Q_below (Kd.Q_elderB (Z29 HO_524002) gb555 (Nat.le_of_eq hg.symm)) hb)
           replace HO_532002 := Aside0.mk (Kd.R_below (Kd.R_elderB (sqR HO_532002) gb555 (Nat.le_of_eq hg.symm)) hb)
           replace HO_539002 := Aside0.mk (Kd.Q_below (Kd.Q_elderB (Z29 HO_539002) gb555 (Nat.le_of_eq hg.symm)) hb)
           replace HO548 := Aside0.mk (Kd.R_below (Kd.R_elderB (sqR HO548) gb555 (Nat.le_of_eq hg.symm)) hb)
           have BK555 := Aside0.mk (hbox)
           have GW555 := Aside0.mk ((Z115 GE523 GE524 GE531 GE538 GE550 : w.heap.size ≤ gb555))
           have GE555 := Aside0.mk ((Z115 GE523 GE524 GE531 GE538 GE550 : w.heap.size ≤ gb555))
           replace HB := Aside0.mk (below_step (Z26 GE523 GE524 GE531 GE538 GE550) hb)
           obtain ⟨NB523_555, NB555_523⟩ := sqM hg BK523
           replace BK523 := sqT BK523 hb
           obtain ⟨NB524_555, NB555_524⟩ := sqM hg BK524
           replace BK524 := sqT BK524 hb
           obtain ⟨NB531_555, NB555_531⟩ := sqM hg BK531
           replace BK531 := sqT BK531 hb
           obtain ⟨NB538_555, NB555_538⟩ := sqM hg BK538
           replace BK538 := sqT BK538 hb
           obtain ⟨NB550_555, NB555_550⟩ := sqM hg BK550
           replace BK550 := sqT BK550 hb
           clear hb hbox hg
           refine hK.out _ _ ⟨(blk_cell BK531.out 0).trans rfl, (blk_cell BK531.out 1).trans rfl, (blk_cell BK531.out 2).trans rfl, (blk_cell BK524.out 0).trans rfl, (blk_cell BK524.out 1).trans rfl⟩ (fun hHeld => ?_)
           clear hK K
           refine sqN (some 11) ?_
           exact norm_ Z51 (hCont (gb555) _ ⟨hHeld, (Z86 HO548), (Z87 HO_524002), (Z88 HO_532002), (Z87 HO_539002), (sqK BK523), (sqK BK524), (sqK BK531), (sqK BK538), (sqK BK550), (sqK BK555), GW555.out, GE555.out, NB523_555.out, NB555_523.out, NB524_555.out, NB555_524.out, NB531_555.out, NB555_531.out, NB538_555.out, NB555_538.out, NB550_555.out, NB555_550.out, (Z89 GE523 GE524 GE531 GE538 GE550 GE555)⟩)
          ·skip
           refine box_step ?hg (N := 11) ?hd (cs := #[.int .i64 0, .int .i64 0]) (t := 31) ?hr ?_; (case hd => rfl); (case hg => rfl); (case hr => exact Z7)
           intro gb555 hg w72 hbox hb
           replace HO_524002 := Aside0.mk (Kd.Q_below (Kd.Q_elderB (Z29 HO_524002) gb555 (Nat.le_of_eq hg.symm)) hb)
           replace HO_532002 := Aside0.mk (Kd.R_below (Kd.R_elderB (sqR HO_532002) gb555 (Nat.le_of_eq hg.symm)) hb)
           replace HO_539002 := Aside0.mk (Kd.Q_below (Kd.Q_elderB (Z29 HO_539002) gb555 (Nat.le_of_eq hg.symm)) hb)
           replace HO548 := Aside0.mk (Kd.R_below (Kd.R_elderB (sqR HO548) gb555 (Nat.le_of_eq hg.symm)) hb)
           have BK555 := Aside0.mk (hbox)
           have GW555 := Aside0.mk ((Z115 GE523 GE524 GE531 GE538 GE550 : w.heap.size ≤ gb555))
           have GE555 := Aside0.mk ((Z115 GE523 GE524 GE531 GE538 GE550 : w.heap.size ≤ gb555))
           replace HB := Aside0.mk (below_step (Z26 GE523 GE524 GE531 GE538 GE550) hb)
           obtain ⟨NB523_555, NB555_523⟩ := sqM hg BK523
           replace BK523 := sqT BK523 hb
           obtain ⟨NB524_555, NB555_524⟩ := sqM hg BK524
           replace BK524 := sqT BK524 hb
           obtain ⟨NB531_555, NB555_531⟩ := sqM hg BK531
           replace BK531 := sqT BK531 hb
           obtain ⟨NB538_555, NB555_538⟩ := sqM hg BK538
           replace BK538 := sqT BK538 hb
           obtain ⟨NB550_555, NB555_550⟩ := sqM hg BK550
           replace BK550 := sqT BK550 hb
           clear hb hbox hg
           refine hK.out _ _ ⟨(blk_cell BK531.out 0).trans rfl, (blk_cell BK531.out 1).trans rfl, (blk_cell BK531.out 2).trans rfl, (blk_cell BK524.out 0).trans rfl, (blk_cell BK524.out 1).trans rfl⟩ (fun hHeld => ?_)
           clear hK K
           refine sqN (some 11) ?_
           refine one_ (i := 5) (N := some 67) #[true, true, true, true, true, true, false, false, false, true, false, false] rfl rfl (one_of HT_.out (by kernel_rfl)) (by decide) (fun K hK => ?_)
           refine goes_ Tryz.func25 (by kernel_rfl) rfl #[.agg #[.int .i64 t525, .int .i64 t526], .string t551] (by rfl) rfl rfl sqA ?_
           with_reducible refine (impl_DancedFrom.calls kj5 t525 t526 t551 t552 t553 true _ A51.out).mono ?_
           rintro e w73 ⟨rfl, hb⟩
           refine ⟨_, rfl, ?_⟩
           replace HO_524002 := Aside0.mk (Kd.Q_below (Z29 HO_524002) hb)
           replace HO_532002 := sqU HO_532002 hb
           replace HO_539002 := Aside0.mk (Kd.Q_below (Z29 HO_539002) hb)
           replace HO548 := sqU HO548 hb
           replace BK523 := sqT BK523 hb
           replace BK524 := sqT BK524 hb
           replace BK531 := sqT BK531 hb
           replace BK538 := sqT BK538 hb
           replace BK550 := sqT BK550 hb
           replace BK555 := sqT BK555 hb
           replace HB := Aside0.mk (below_step (Z89 GE523 GE524 GE531 GE538 GE550 GE555) hb)
           (try clear hb)
           (try clear hb2)
           (try clear hk)
           (try clear hi)
           refine hK.out _ _ ⟨(blk_cell BK531.out 0).trans rfl, (blk_cell BK531.out 1).trans rfl, (blk_cell BK531.out 2).trans rfl, (blk_cell BK524.out 0).trans rfl, (blk_cell BK524.out 1).trans rfl⟩ (fun hHeld => ?_)
           clear hK K
           refine sqN (some 67) ?_
           refine sqP (i := 6) (N := some 61) (h := ?_)
           refine sqP (i := 7) (N := some 68) (h := ?_)
           refine sqP (i := 8) (N := some 69) (h := ?_)
           exact norm_ Z51 (hCont (gb555) _ ⟨hHeld, (Z86 HO548), (Z87 HO_524002), (Z88 HO_532002), (Z87 HO_539002), (sqK BK523), (sqK BK524), (sqK BK531), (sqK BK538), (sqK BK550), (sqK BK555), GW555.out, GE555.out, NB523_555.out, NB555_523.out, NB524_555.out, NB555_524.out, NB531_555.out, NB555_531.out, NB538_555.out, NB555_538.out, NB550_555.out, NB555_550.out, (Z89 GE523 GE524 GE531 GE538 GE550 GE555)⟩)
         ·skip
          refine box_step ?hg (N := 11) ?hd (cs := #[.int .i64 0, .int .i64 0]) (t := 31) ?hr ?_; (case hd => rfl); (case hg => rfl); (case hr => exact Z7)
          intro gb555 hg w71 hbox hb
          replace HO_524002 := Aside0.mk (Kd.Q_below (Kd.Q_elderB (Z29 HO_524002) gb555 (Nat.le_of_eq hg.symm)) hb)
          replace HO_532002 := Aside0.mk (Kd.R_below (Kd.R_elderB (sqR HO_532002) gb555 (Nat.le_of_eq hg.symm)) hb)
          replace HO_539002 := Aside0.mk (Kd.Q_below (Kd.Q_elderB (Z29 HO_539002) gb555 (Nat.le_of_eq hg.symm)) hb)
          replace HO548 := Aside0.mk (Kd.R_below (Kd.R_elderB (sqR HO548) gb555 (Nat.le_of_eq hg.symm)) hb)
          have BK555 := Aside0.mk (hbox)
          have GW555 := Aside0.mk ((Z115 GE523 GE524 GE531 GE538 GE550 : w.heap.size ≤ gb555))
          have GE555 := Aside0.mk ((Z115 GE523 GE524 GE531 GE538 GE550 : w.heap.size ≤ gb555))
          replace HB := Aside0.mk (below_step (Z26 GE523 GE524 GE531 GE538 GE550) hb)
          obtain ⟨NB523_555, NB555_523⟩ := sqM hg BK523
          replace BK523 := sqT BK523 hb
          obtain ⟨NB524_555, NB555_524⟩ := sqM hg BK524
          replace BK524 := sqT BK524 hb
          obtain ⟨NB531_555, NB555_531⟩ := sqM hg BK531
          replace BK531 := sqT BK531 hb
          obtain ⟨NB538_555, NB555_538⟩ := sqM hg BK538
          replace BK538 := sqT BK538 hb
          obtain ⟨NB550_555, NB555_550⟩ := sqM hg BK550
          replace BK550 := sqT BK550 hb
          clear hb hbox hg
          refine hK.out _ _ ⟨(blk_cell BK531.out 0).trans rfl, (blk_cell BK531.out 1).trans rfl, (blk_cell BK531.out 2).trans rfl, (blk_cell BK524.out 0).trans rfl, (blk_cell BK524.out 1).trans rfl⟩ (fun hHeld => ?_)
          clear hK K
          refine sqN (some 11) ?_
          refine one_ (i := 4) (N := some 66) #[true, true, true, true, true, false, false, false, false, true, false, false] rfl rfl (one_of HT_.out (by kernel_rfl)) (by decide) (fun K hK => ?_)
          refine goes_ Tryz.func26 (by kernel_rfl) rfl #[.string t522] (by rfl) rfl rfl sqA ?_
          with_reducible refine (impl_BackOf.calls kj5 t522 t551 _ A50.out).mono ?_
          rintro e w72 ⟨rfl, hb⟩
          refine ⟨_, rfl, ?_⟩
          replace HO_524002 := Aside0.mk (Kd.Q_below (Z29 HO_524002) hb)
          replace HO_532002 := sqU HO_532002 hb
          replace HO_539002 := Aside0.mk (Kd.Q_below (Z29 HO_539002) hb)
          replace HO548 := sqU HO548 hb
          replace BK523 := sqT BK523 hb
          replace BK524 := sqT BK524 hb
          replace BK531 := sqT BK531 hb
          replace BK538 := sqT BK538 hb
          replace BK550 := sqT BK550 hb
          replace BK555 := sqT BK555 hb
          replace HB := Aside0.mk (below_step (Z89 GE523 GE524 GE531 GE538 GE550 GE555) hb)
          (try clear hb)
          (try clear hb2)
          (try clear hk)
          (try clear hi)
          refine hK.out _ _ ⟨(blk_cell BK531.out 0).trans rfl, (blk_cell BK531.out 1).trans rfl, (blk_cell BK531.out 2).trans rfl, (blk_cell BK524.out 0).trans rfl, (blk_cell BK524.out 1).trans rfl⟩ (fun hHeld => ?_)
          clear hK K
          refine sqN (some 66) ?_
          refine one_ (i := 5) (N := some 67) #[true, true, true, true, true, true, false, false, false, true, false, false] rfl rfl (one_of HT_.out (by kernel_rfl)) (by decide) (fun K hK => ?_)
          refine goes_ Tryz.func25 (by kernel_rfl) rfl #[.agg #[.int .i64 t525, .int .i64 t526], .string t551] (by rfl) rfl rfl sqA ?_
          with_reducible refine (impl_DancedFrom.calls kj5 t525 t526 t551 t552 t553 true _ A51.out).mono ?_
          rintro e w73 ⟨rfl, hb⟩
          refine ⟨_, rfl, ?_⟩
          replace HO_524002 := Aside0.mk (Kd.Q_below (Z29 HO_524002) hb)
          replace HO_532002 := sqU HO_532002 hb
          replace HO_539002 := Aside0.mk (Kd.Q_below (Z29 HO_539002) hb)
          replace HO548 := sqU HO548 hb
          replace BK523 := sqT BK523 hb
          replace BK524 := sqT BK524 hb
          replace BK531 := sqT BK531 hb
          replace BK538 := sqT BK538 hb
          replace BK550 := sqT BK550 hb
          replace BK555 := sqT BK555 hb
          replace HB := Aside0.mk (below_step (Z89 GE523 GE524 GE531 GE538 GE550 GE555) hb)
          (try clear hb)
          (try clear hb2)
          (try clear hk)
          (try clear hi)
          refine hK.out _ _ ⟨(blk_cell BK531.out 0).trans rfl, (blk_cell BK531.out 1).trans rfl, (blk_cell BK531.out 2).trans rfl, (blk_cell BK524.out 0).trans rfl, (blk_cell BK524.out 1).trans rfl⟩ (fun hHeld => ?_)
          clear hK K
          refine sqN (some 67) ?_
          refine sqP (i := 6) (N := some 61) (h := ?_)
          refine sqP (i := 7) (N := some 68) (h := ?_)
          refine sqP (i := 8) (N := some 69) (h := ?_)
          exact norm_ Z51 (hCont (gb555) _ ⟨hHeld, (Z86 HO548), (Z87 HO_524002), (Z88 HO_532002), (Z87 HO_539002), (sqK BK523), (sqK BK524), (sqK BK531), (sqK BK538), (sqK BK550), (sqK BK555), GW555.out, GE555.out, NB523_555.out, NB555_523.out, NB524_555.out, NB555_524.out, NB531_555.out, NB555_531.out, NB538_555.out, NB555_538.out, NB550_555.out, NB555_550.out, (Z89 GE523 GE524 GE531 GE538 GE550 GE555)⟩)
        rintro gb555 w74 ⟨hS_, h0_, h1_, h2_, h3_, h4_, h5_, h6_, h7_, h8_, h9_, h10_, h11_, h12_, h13_, h14_, h15_, h16_, h17_, h18_, h19_, h20_, h21_, h22_⟩
        replace HO548 := Aside0.mk h0_
        replace HO_524002 := Aside0.mk h1_
        replace HO_532002 := Aside0.mk h2_
        replace HO_539002 := Aside0.mk h3_
        replace BK523 := Aside0.mk h4_
        replace BK524 := Aside0.mk h5_
        replace BK531 := Aside0.mk h6_
        replace BK538 := Aside0.mk h7_
        replace BK550 := Aside0.mk h8_
        replace BK555 := Aside0.mk h9_
        replace GW555 := Aside0.mk h10_
        replace GE555 := Aside0.mk h11_
        replace NB523_555 := Aside0.mk h12_
        replace NB555_523 := Aside0.mk h13_
        replace NB524_555 := Aside0.mk h14_
        replace NB555_524 := Aside0.mk h15_
        replace NB531_555 := Aside0.mk h16_
        replace NB555_531 := Aside0.mk h17_
        replace NB538_555 := Aside0.mk h18_
        replace NB555_538 := Aside0.mk h19_
        replace NB550_555 := Aside0.mk h20_
        replace NB555_550 := Aside0.mk h21_
        replace HB := Aside0.mk h22_
        clear h0_ h1_ h2_ h3_ h4_ h5_ h6_ h7_ h8_ h9_ h10_ h11_ h12_ h13_ h14_ h15_ h16_ h17_ h18_ h19_ h20_ h21_ h22_
        have hHeld : w74.cell? ⟨gb531, 0, none⟩ = some (.int .i64 t525) ∧ w74.cell? ⟨gb531, 1, none⟩ = some (.int .i64 t526) ∧ w74.cell? ⟨gb531, 2, none⟩ = some (.slice Ao19 t527.length co19) ∧ w74.cell? ⟨gb524, 0, none⟩ = some (.int .i64 t521) ∧ w74.cell? ⟨gb524, 1, none⟩ = some (.string t522) := hS_
        refine norm_ (a' := ?_) ?_ ?_
        rotate_left
        ·simp only [putAll, Act.put, List.setIfInBounds_toArray, List.set_cons_zero, List.set_cons_succ]
         rfl
        refine one_ (i := 10) (N := none) #[true, true, true, true, true, true, true, true, true, true, true, false] rfl rfl (one_of HT_.out (by kernel_rfl)) (by decide) (fun K hK => ?_)
        have hs75 : w74.cell? ⟨gb555, 0, none⟩ = some (.int .i64 0) := (blk_cell BK555.out 0).trans rfl
        have hfs75 := blk_frozen BK555.out 0
        have hns75_0 := NB523_555.out
        have hns75_1 := NB524_555.out
        have hns75_2 := NB531_555.out
        have hns75_3 := NB538_555.out
        have hns75_4 := NB550_555.out
        have hms75_0 := NB555_523.out
        have hms75_1 := NB555_524.out
        have hms75_2 := NB555_531.out
        have hms75_3 := NB555_538.out
        have hms75_4 := NB555_550.out
        have hs76 : w74.cell? ⟨gb555, 1, none⟩ = some (.int .i64 0) := (blk_cell BK555.out 1).trans rfl
        have hfs76 := blk_frozen BK555.out 1
        have hns76_0 := NB523_555.out
        have hns76_1 := NB524_555.out
        have hns76_2 := NB531_555.out
        have hns76_3 := NB538_555.out
        have hns76_4 := NB550_555.out
        have hms76_0 := NB555_523.out
        have hms76_1 := NB555_524.out
        have hms76_2 := NB555_531.out
        have hms76_3 := NB555_538.out
        have hms76_4 := NB555_550.out
        refine skip_ (w1 := ?_) (by rfl) rfl ?_ ?_
        rotate_left
        ·go_simp
         rfl
        refine hK.out _ _ ⟨((cell_far (p := ⟨gb555, _, none⟩) NB531_555.out _).trans (((cell_far (p := ⟨gb555, _, none⟩) NB531_555.out _).trans (hHeld.1)))), ((cell_far (p := ⟨gb555, _, none⟩) NB531_555.out _).trans (((cell_far (p := ⟨gb555, _, none⟩) NB531_555.out _).trans (hHeld.2.1)))), ((cell_far (p := ⟨gb555, _, none⟩) NB531_555.out _).trans (((cell_far (p := ⟨gb555, _, none⟩) NB531_555.out _).trans (hHeld.2.2.1)))), ((cell_far (p := ⟨gb555, _, none⟩) NB524_555.out _).trans (((cell_far (p := ⟨gb555, _, none⟩) NB524_555.out _).trans (hHeld.2.2.2.1)))), ((cell_far (p := ⟨gb555, _, none⟩) NB524_555.out _).trans (((cell_far (p := ⟨gb555, _, none⟩) NB524_555.out _).trans (hHeld.2.2.2.2))))⟩ (fun hHeld => ?_)
        clear hK K
        refine sqP (i := 11) (N := some 12) (h := ?_)
        refine done_ (done_of HT_.out (by kernel_rfl)) ?_
        have hnb77 := NB531_555.out
        have hnc77 := NB555_531.out
        obtain ⟨hcz78_0, hcz78_1, hcz78_2, hfz78_0, hfz78_1, hfz78_2⟩ := sqY3 BK531
        try go_wp2_with (first | ((with_reducible refine gate_callee (f := 23) rfl ?_); refine goesL_ (some 71) rfl rfl Tryz.func23 (by kernel_rfl) rfl #[.agg #[.int .i64 t525, .int .i64 t526, .slice Ao19 t527.length co19]] rfl sqA ?_; (with_reducible refine (impl_DeskOk.calls kj5 t525 t526 _ _ t527 true _ ?side1 ?side2 A52.out).mono ?_); (case side1 => refine (Kd.R_reads' (e := 31) (base := w.heap.size) (ok := fun k_ => (some k_ ≠ (.slice Ao68 t546.length co68 : Value).ownBlock ∧ (some k_ ≠ (.slice Ao12 t518.length co12 : Value).ownBlock ∧ (some k_ ≠ (.slice Ao28 t534.length co28 : Value).ownBlock ∧ k_ ≠ gb555)))) (n := t527.length) (c := co19) ?_).2.2; exact (Z90 HO_532002)); (case side2 => exact Z31 HO_532002); rintro e w79 ⟨rfl, hb⟩; refine ⟨_, rfl, ?_⟩; replace HO_524002 := Aside0.mk (Kd.Q_below (Z91 HO_524002) hb); replace HO_532002 := Aside0.mk (Kd.R_below (Z90 HO_532002) hb); replace HO_539002 := Aside0.mk (Kd.Q_below (Z91 HO_539002) hb); replace HO548 := Aside0.mk (Kd.R_below (Z90 HO548) hb); replace BK523 := Aside0.mk (blk_below (g := gb523) (o := .cells #[.int .i64 t516, .int .i64 t517, .slice Ao12 t518.length co12] 34 (0, 0)) (Z14 NB523_555 BK523) hb); replace BK524 := Aside0.mk (blk_below (g := gb524) (o := .cells #[.int .i64 t521, .string t522] 38 (0, 0)) (Z14 NB524_555 BK524) hb); replace BK531 := Aside0.mk (blk_below (g := gb531) (o := .cells #[.int .i64 t525, .int .i64 t526, .slice Ao19 t527.length co19] 34 (0, 0)) (Z14 NB531_555 BK531) hb); replace BK538 := Aside0.mk (blk_below (g := gb538) (o := .cells #[.int .i64 t532, .int .i64 t533, .slice Ao28 t534.length co28] 34 (0, 0)) (Z14 NB538_555 BK538) hb); replace BK550 := Aside0.mk (blk_below (g := gb550) (o := .cells #[.int .i64 t544, .int .i64 t545, .slice Ao68 t546.length co68] 34 (0, 0)) (Z14 NB550_555 BK550) hb); replace BK555 := Aside0.mk (blk_below (g := gb555) (o := .cells #[.int .i64 t552, .int .i64 t553] 31 (0, 0)) (Z92 BK555) hb); replace HB := Aside0.mk (below_step (Z89 GE523 GE524 GE531 GE538 GE550 GE555) hb); (try clear hb); have hnb80 := NB524_523.out; have hnc80 := NB523_524.out; have hnb81 := NB524_538.out; have hnc81 := NB538_524.out; have hnb82 := NB524_555.out; have hnc82 := NB555_524.out; obtain ⟨hcz83_0, hcz83_1, hfz83_0, hfz83_1⟩ := sqY2 BK524; have hnb84 := NB555_523.out; have hnc84 := NB523_555.out; have hnb85 := NB555_538.out; have hnc85 := NB538_555.out; have hnb86 := NB555_550.out; have hnc86 := NB550_555.out; obtain ⟨hcz87_0, hcz87_1, hfz87_0, hfz87_1⟩ := sqY2 BK555; have hnb88 := NB523_538.out; have hnc88 := NB538_523.out; obtain ⟨hcz89_0, hcz89_1, hcz89_2, hfz89_0, hfz89_1, hfz89_2⟩ := sqY3 BK523))
        go_ret
        exact ⟨Z3, Z89 GE523 GE524 GE531 GE538 GE550 GE555⟩
       rw [if_neg c56] at H
       exact absurd (Option.some.inj H) Z93
      rw [if_neg c55] at H
      have c55b0 : (t521 == 0) = false := beq_eq_false_iff_ne.mpr c55
      have c55b1 : (t521 != 0) = true := bne_iff_ne.mpr c55
      obtain rfl := Option.some.inj H
      have hnb117 := NB531_523.out
      have hnc117 := NB523_531.out
      have hnb118 := NB531_524.out
      have hnc118 := NB524_531.out
      have hnb119 := NB531_538.out
      have hnc119 := NB538_531.out
      obtain ⟨hcz120_0, hcz120_1, hcz120_2, hfz120_0, hfz120_1, hfz120_2⟩ := sqY3 BK531
      try go_wp2_with (first | ((with_reducible refine gate_callee (f := 17) rfl ?_); refine goesL_ (some 58) rfl rfl Tryz.func17 (by kernel_rfl) rfl #[.agg #[.int .i64 t525, .int .i64 t526, .slice Ao19 t527.length co19], .agg #[.int .i64 4, .string (⟨#[]⟩ : ByteArray)]] rfl sqA ?_; (with_reducible refine (impl_DeskDo.calls kj5 t525 t526 _ _ t527 4 (⟨#[]⟩ : ByteArray) t544 t545 t546 t549 _ ?sideG ?side1 ?side2 A49.out).mono ?_); (case sideG => exact Glob.below hG (sqB4 HB GE523 GE524 GE531 GE538)); (case side1 => exact Z30 HO_532002); (case side2 => exact Z31 HO_532002); rintro e w121 ⟨v547, rfl, ho0, hb⟩; refine ⟨_, rfl, ?_⟩; have HO548 := Aside0.mk (Kd.R_lower (Kd.R_new' (Kd.R_new' (Kd.R_new' ho0 (Kd.Q_lt (Z29 HO_524002))) (Kd.R_lt (sqR HO_532002))) (Kd.Q_lt (Z29 HO_539002))) (below_size (sqB4 HB GE523 GE524 GE531 GE538))); replace HO_524002 := Aside0.mk (Kd.Q_elder' (Z29 HO_524002) (Kd.R_base ho0) hb); replace HO_532002 := Aside0.mk (Kd.R_elder' (sqR HO_532002) (Kd.R_base ho0) hb); replace HO_539002 := Aside0.mk (Kd.Q_elder' (Z29 HO_539002) (Kd.R_base ho0) hb); replace BK523 := sqT BK523 hb; replace BK524 := sqT BK524 hb; replace BK531 := sqT BK531 hb; replace BK538 := sqT BK538 hb; replace HB := sqS (sqB4 HB GE523 GE524 GE531 GE538) hb; (try clear hb); (try clear ho0)) | ((with_reducible refine gate_dst (N := 9) rfl ?_); (try (refine gate_guard (by rfl) ?_; dsimp only)); refine sqBox (N := 9) (cs := #[.int .i64 0, .int .i64 0, .slice none 0 0]) (t := 34) ?_; intro gb550 hg w122 BK550 hb; replace HO_524002 := Aside0.mk (Kd.Q_below (Z29 HO_524002) hb); replace HO_532002 := sqU HO_532002 hb; replace HO_539002 := Aside0.mk (Kd.Q_below (Z29 HO_539002) hb); replace HO548 := sqU HO548 hb; have GW550 := Aside0.mk ((sqG hg (sqB4 HB GE523 GE524 GE531 GE538))); have GE550 := GW550; replace HB := sqS (sqB4 HB GE523 GE524 GE531 GE538) hb; obtain ⟨NB523_550, NB550_523⟩ := sqM hg BK523; replace BK523 := sqT BK523 hb; obtain ⟨NB524_550, NB550_524⟩ := sqM hg BK524; replace BK524 := sqT BK524 hb; obtain ⟨NB531_550, NB550_531⟩ := sqM hg BK531; replace BK531 := sqT BK531 hb; obtain ⟨NB538_550, NB550_538⟩ := sqM hg BK538; replace BK538 := sqT BK538 hb; clear hb hg; have hnb123 := NB550_523.out; have hnc123 := NB523_550.out; have hnb124 := NB550_524.out; have hnc124 := NB524_550.out; have hnb125 := NB550_531.out; have hnc125 := NB531_550.out; have hnb126 := NB550_538.out; have hnc126 := NB538_550.out; obtain ⟨hcz127_0, hcz127_1, hcz127_2, hfz127_0, hfz127_1, hfz127_2⟩ := sqY3 BK550; obtain ⟨Ao128, co128, eo128⟩ := Kd.R_slice HO548.out; subst eo128))
      obtain ⟨w129, hw_⟩ : ∃ w_, ((w122.setCell ⟨gb550, 0, none⟩ (.int .i64 t544)).setCell ⟨gb550, 1, none⟩ (.int .i64 t545)).setCell ⟨gb550, 2, none⟩ (.slice Ao128 t546.length co128) = w_ := ⟨_, rfl⟩
      replace HO_524002 : Aside0 (Kd.Q k31 31 w129 w.heap.size (fun k_ => some k_ ≠ (.slice Ao19 t527.length co19 : Value).ownBlock ∧ some k_ ≠ (.slice Ao28 t534.length co28 : Value).ownBlock ∧ some k_ ≠ (.slice Ao128 t546.length co128 : Value).ownBlock) (.slice Ao12 t518.length co12) t518) := by rw [← hw_]; exact ⟨Z94 HO_524002 BK550⟩
      replace HO_532002 : Aside0 (Kd.R k31 31 w129 w.heap.size (fun k_ => some k_ ≠ (.slice Ao12 t518.length co12 : Value).ownBlock ∧ some k_ ≠ (.slice Ao28 t534.length co28 : Value).ownBlock ∧ some k_ ≠ (.slice Ao128 t546.length co128 : Value).ownBlock) (.slice Ao19 t527.length co19) t527) := by rw [← hw_]; exact ⟨by (with_reducible repeat (first | apply Kd.R_alloc | apply Kd.R_drewN | apply Kd.R_drew)); exact Kd.R_mono (Kd.R_far (p := ⟨gb550, 2, none⟩) (Kd.R_far (p := ⟨gb550, 1, none⟩) (Kd.R_far (p := ⟨gb550, 0, none⟩) (Kd.R_types HO_532002.out BK550.out (by decide)) (fun _ hk => hk.2) (.int .i64 t544)) (fun _ hk => hk.2) (.int .i64 t545)) (fun _ hk => hk.2) (.slice Ao128 t546.length co128)) (fun _ hk => ⟨hk.1.1.1, ⟨hk.1.1.2, hk.1.2⟩⟩)⟩
      replace HO_539002 : Aside0 (Kd.Q k31 31 w129 w.heap.size (fun k_ => some k_ ≠ (.slice Ao12 t518.length co12 : Value).ownBlock ∧ some k_ ≠ (.slice Ao19 t527.length co19 : Value).ownBlock ∧ some k_ ≠ (.slice Ao128 t546.length co128 : Value).ownBlock) (.slice Ao28 t534.length co28) t534) := by rw [← hw_]; exact ⟨Z94 HO_539002 BK550⟩
      replace HO548 : Aside0 (Kd.R k31 31 w129 w.heap.size (fun k_ => some k_ ≠ (.slice Ao12 t518.length co12 : Value).ownBlock ∧ some k_ ≠ (.slice Ao19 t527.length co19 : Value).ownBlock ∧ some k_ ≠ (.slice Ao28 t534.length co28 : Value).ownBlock) (.slice Ao128 t546.length co128) t546) := by rw [← hw_]; exact ⟨by (with_reducible repeat (first | apply Kd.R_alloc | apply Kd.R_drewN | apply Kd.R_drew)); exact Kd.R_mono (Kd.R_far (p := ⟨gb550, 2, none⟩) (Kd.R_far (p := ⟨gb550, 1, none⟩) (Kd.R_far (p := ⟨gb550, 0, none⟩) (Kd.R_types HO548.out BK550.out (by decide)) (fun _ hk => hk.2) (.int .i64 t544)) (fun _ hk => hk.2) (.int .i64 t545)) (fun _ hk => hk.2) (.slice Ao128 t546.length co128)) (fun _ hk => ⟨hk.1.1.1.2, ⟨hk.1.1.2, hk.1.2⟩⟩)⟩
      replace BK523 : Aside0 (w129.heap[gb523]? = some (.cells #[.int .i64 t516, .int .i64 t517, .slice Ao12 t518.length co12] 34 (0, 0))) := by rw [← hw_]; exact ⟨Z20 NB523_550 BK523⟩
      replace BK524 : Aside0 (w129.heap[gb524]? = some (.cells #[.int .i64 t521, .string t522] 38 (0, 0))) := by rw [← hw_]; exact ⟨Z20 NB524_550 BK524⟩
      replace BK531 : Aside0 (w129.heap[gb531]? = some (.cells #[.int .i64 t525, .int .i64 t526, .slice Ao19 t527.length co19] 34 (0, 0))) := by rw [← hw_]; exact ⟨Z20 NB531_550 BK531⟩
      replace BK538 : Aside0 (w129.heap[gb538]? = some (.cells #[.int .i64 t532, .int .i64 t533, .slice Ao28 t534.length co28] 34 (0, 0))) := by rw [← hw_]; exact ⟨Z20 NB538_550 BK538⟩
      replace BK550 : Aside0 (w129.heap[gb550]? = some (.cells #[.int .i64 t544, .int .i64 t545, .slice Ao128 t546.length co128] 34 (0, 0))) := by rw [← hw_]; exact ⟨Z85 BK550⟩
      replace HB : Aside0 (Below w.heap.size w w129) := by rw [← hw_]; exact ⟨Z26 GE523 GE524 GE531 GE538 GE550⟩
      rw [hw_]; clear hw_
      replace HO_524002 := Aside0.mk (Kd.Q_drew HO_524002.out)
      replace HO_532002 := Aside0.mk (Kd.R_drew HO_532002.out)
      replace HO_539002 := Aside0.mk (Kd.Q_drew HO_539002.out)
      replace HO548 := Aside0.mk (Kd.R_drew HO548.out)
      replace BK523 := Aside0.mk (blk_drew BK523.out)
      replace BK524 := Aside0.mk (blk_drew BK524.out)
      replace BK531 := Aside0.mk (blk_drew BK531.out)
      replace BK538 := Aside0.mk (blk_drew BK538.out)
      replace BK550 := Aside0.mk (blk_drew BK550.out)
      replace HB := Aside0.mk (below_drew1 HB.out)
      refine start_ (n := 12) (S := fun w' => w'.cell? ⟨gb531, 0, none⟩ = some (.int .i64 t525) ∧ w'.cell? ⟨gb531, 1, none⟩ = some (.int .i64 t526) ∧ w'.cell? ⟨gb531, 2, none⟩ = some (.slice Ao19 t527.length co19) ∧ w'.cell? ⟨gb524, 0, none⟩ = some (.int .i64 t521) ∧ w'.cell? ⟨gb524, 1, none⟩ = some (.string t522)) (ds := []) #[false, false, false, false, false, false, false, false, false, false, false, false] (by kernel_rfl) rfl rfl ⟨(blk_cell BK531.out 0).trans rfl, (blk_cell BK531.out 1).trans rfl, (blk_cell BK531.out 2).trans rfl, (blk_cell BK524.out 0).trans rfl, (blk_cell BK524.out 1).trans rfl⟩ (fun hHeld => ?_); refine with_tabW laws_FnDeskDo.tab11 laws_FnDeskDo.bits11 (fun HT_ HW_ => ?_)
      generalize w129.drew = w130 at HO_524002 HO_532002 HO_539002 HO548 BK523 BK524 BK531 BK538 BK550 HB hHeld ⊢
      refine sqP (i := 0) (N := some 62) (h := ?_)
      refine sqP (i := 2) (N := some 64) (h := ?_)
      refine sqQ (i := 1) (N := some 63) hHeld (h := ?_)
      refine sqQ (i := 3) (N := some 65) hHeld (h := ?_)
      refine join_ (σ := Nat) 2 #[true, true, true, true, true, true, true, true, true, true, false, false] (fun s_ => [(66, .string t551), (67, .tuple #[.agg #[.int .i64 t552, .int .i64 t553], .bool t554]), (11, .pointer (some ⟨s_, 0, none⟩)), (61, .tuple #[.agg #[.int .i64 t552, .int .i64 t553], .bool t554]), (68, .agg #[.int .i64 t552, .int .i64 t553]), (69, .bool t554)]) (fun s_ w' => (w'.cell? ⟨gb531, 0, none⟩ = some (.int .i64 t525) ∧ w'.cell? ⟨gb531, 1, none⟩ = some (.int .i64 t526) ∧ w'.cell? ⟨gb531, 2, none⟩ = some (.slice Ao19 t527.length co19) ∧ w'.cell? ⟨gb524, 0, none⟩ = some (.int .i64 t521) ∧ w'.cell? ⟨gb524, 1, none⟩ = some (.string t522)) ∧ (Kd.R k31 31 w' w.heap.size (fun k_ => some k_ ≠ (.slice Ao12 t518.length co12 : Value).ownBlock ∧ some k_ ≠ (.slice Ao19 t527.length co19 : Value).ownBlock ∧ some k_ ≠ (.slice Ao28 t534.length co28 : Value).ownBlock ∧ k_ ≠ s_) (.slice Ao128 t546.length co128) t546) ∧ (Kd.Q k31 31 w' w.heap.size (fun k_ => some k_ ≠ (.slice Ao128 t546.length co128 : Value).ownBlock ∧ some k_ ≠ (.slice Ao19 t527.length co19 : Value).ownBlock ∧ some k_ ≠ (.slice Ao28 t534.length co28 : Value).ownBlock ∧ k_ ≠ s_) (.slice Ao12 t518.length co12) t518) ∧ (Kd.R k31 31 w' w.heap.size (fun k_ => some k_ ≠ (.slice Ao128 t546.length co128 : Value).ownBlock ∧ some k_ ≠ (.slice Ao12 t518.length co12 : Value).ownBlock ∧ some k_ ≠ (.slice Ao28 t534.length co28 : Value).ownBlock ∧ k_ ≠ s_) (.slice Ao19 t527.length co19) t527) ∧ (Kd.Q k31 31 w' w.heap.size (fun k_ => some k_ ≠ (.slice Ao128 t546.length co128 : Value).ownBlock ∧ some k_ ≠ (.slice Ao12 t518.length co12 : Value).ownBlock ∧ some k_ ≠ (.slice Ao19 t527.length co19 : Value).ownBlock ∧ k_ ≠ s_) (.slice Ao28 t534.length co28) t534) ∧ (w'.heap[gb523]? = some (.cells #[.int .i64 t516, .int .i64 t517, .slice Ao12 t518.length co12] 34 (0, 0))) ∧ (w'.heap[gb524]? = some (.cells #[.int .i64 t521, .string t522] 38 (0, 0))) ∧ (w'.heap[gb531]? = some (.cells #[.int .i64 t525, .int .i64 t526, .slice Ao19 t527.length co19] 34 (0, 0))) ∧ (w'.heap[gb538]? = some (.cells #[.int .i64 t532, .int .i64 t533, .slice Ao28 t534.length co28] 34 (0, 0))) ∧ (w'.heap[gb550]? = some (.cells #[.int .i64 t544, .int .i64 t545, .slice Ao128 t546.length co128] 34 (0, 0))) ∧ (w'.heap[s_]? = some (.cells #[.int .i64 0, .int .i64 0] 31 (0, 0))) ∧ (w.heap.size ≤ s_) ∧ (w.heap.size ≤ s_) ∧ (gb523 ≠ s_) ∧ (s_ ≠ gb523) ∧ (gb524 ≠ s_) ∧ (s_ ≠ gb524) ∧ (gb531 ≠ s_) ∧ (s_ ≠ gb531) ∧ (gb538 ≠ s_) ∧ (s_ ≠ gb538) ∧ (gb550 ≠ s_) ∧ (s_ ≠ gb550) ∧ (Below w.heap.size w w')) ?_ ?_
      rotate_left
      ·intro hCont
       refine two_ (i := 4) (j := 9) (Ni := some 66) (Nj := some 11) #[true, true, true, true, true, false, false, false, false, false, false, false] #[true, true, true, true, false, false, false, false, false, true, false, false] rfl rfl rfl rfl (two_of HT_.out (by kernel_rfl)) (by decide) (by decide) (fun K hK => ?_) (fun K hK => ?_)
       ·skip
        refine goes_ Tryz.func26 (by kernel_rfl) rfl #[.string t522] (by rfl) rfl rfl sqA ?_
        with_reducible refine (impl_BackOf.calls kj5 t522 t551 _ A50.out).mono ?_
        rintro e w131 ⟨rfl, hb⟩
        refine ⟨_, rfl, ?_⟩
        replace HO_524002 := Aside0.mk (Kd.Q_below (Z29 HO_524002) hb)
        replace HO_532002 := sqU HO_532002 hb
        replace HO_539002 := Aside0.mk (Kd.Q_below (Z29 HO_539002) hb)
        replace HO548 := sqU HO548 hb
        replace BK523 := sqT BK523 hb
        replace BK524 := sqT BK524 hb
        replace BK531 := sqT BK531 hb
        replace BK538 := sqT BK538 hb
        replace BK550 := sqT BK550 hb
        replace HB := Aside0.mk (below_step (Z26 GE523 GE524 GE531 GE538 GE550) hb)
        (try clear hb)
        (try clear hb2)
        (try clear hk)
        (try clear hi)
        refine hK.out _ _ ⟨(blk_cell BK531.out 0).trans rfl, (blk_cell BK531.out 1).trans rfl, (blk_cell BK531.out 2).trans rfl, (blk_cell BK524.out 0).trans rfl, (blk_cell BK524.out 1).trans rfl⟩ (fun hHeld => ?_)
        clear hK K
        refine sqN (some 66) ?_
        refine two_ (i := 5) (j := 9) (Ni := some 67) (Nj := some 11) #[true, true, true, true, true, true, false, false, false, false, false, false] #[true, true, true, true, true, false, false, false, false, true, false, false] rfl rfl rfl rfl (two_of HT_.out (by kernel_rfl)) (by decide) (by decide) (fun K hK => ?_) (fun K hK => ?_)
        ·skip
         refine goes_ Tryz.func25 (by kernel_rfl) rfl #[.agg #[.int .i64 t525, .int .i64 t526], .string t551] (by rfl) rfl rfl sqA ?_
         with_reducible refine (impl_DancedFrom.calls kj5 t525 t526 t551 t552 t553 t554 _ A51.out).mono ?_
         rintro e w132 ⟨rfl, hb⟩
         refine ⟨_, rfl, ?_⟩
         replace HO_524002 := Aside0.mk (Kd.Q_below (Z29 HO_524002) hb)
         replace HO_532002 := sqU HO_532002 hb
         replace HO_539002 := Aside0.mk (Kd.Q_below (Z29 HO_539002) hb)
         replace HO548 := sqU HO548 hb
         replace BK523 := sqT BK523 hb
         replace BK524 := sqT BK524 hb
         replace BK531 := sqT BK531 hb
         replace BK538 := sqT BK538 hb
         replace BK550 := sqT BK550 hb
         replace HB := Aside0.mk (below_step (Z26 GE523 GE524 GE531 GE538 GE550) hb)
         (try clear hb)
         (try clear hb2)
         (try clear hk)
         (try clear hi)
         refine hK.out _ _ ⟨(blk_cell BK531.out 0).trans rfl, (blk_cell BK531.out 1).trans rfl, (blk_cell BK531.out 2).trans rfl, (blk_cell BK524.out 0).trans rfl, (blk_cell BK524.out 1).trans rfl⟩ (fun hHeld => ?_)
         clear hK K
         refine sqN (some 67) ?_
         refine sqP (i := 6) (N := some 61) (h := ?_)
         refine sqP (i := 7) (N := some 68) (h := ?_)
         refine sqP (i := 8) (N := some 69) (h := ?_)
         refine one_ (i := 9) (N := some 11) #[true, true, true, true, true, true, true, true, true, true, false, false] rfl rfl (one_of HT_.out (by kernel_rfl)) (by decide) (fun K hK => ?_)
         refine box_step ?hg (N := 11) ?hd (cs := #[.int .i64 0, .int .i64 0]) (t := 31) ?hr ?_; (case hd => rfl); (case hg => rfl); (case hr => exact Z7)
         intro gb555 hg w133 hbox hb
         replace HO_524002 := Aside0.mk (Kd.Q_below (Kd.Q_elderB (Z29 HO_524002) gb555 (Nat.le_of_eq hg.symm)) hb)
         replace HO_532002 := Aside0.mk (Kd.R_below (Kd.R_elderB (sqR HO_532002) gb555 (Nat.le_of_eq hg.symm)) hb)
         replace HO_539002 := Aside0.mk (Kd.Q_below (Kd.Q_elderB (Z29 HO_539002) gb555 (Nat.le_of_eq hg.symm)) hb)
         replace HO548 := Aside0.mk (Kd.R_below (Kd.R_elderB (sqR HO548) gb555 (Nat.le_of_eq hg.symm)) hb)
         have BK555 := Aside0.mk (hbox)
         have GW555 := Aside0.mk ((Z115 GE523 GE524 GE531 GE538 GE550 : w.heap.size ≤ gb555))
         have GE555 := Aside0.mk ((Z115 GE523 GE524 GE531 GE538 GE550 : w.heap.size ≤ gb555))
         replace HB := Aside0.mk (below_step (Z26 GE523 GE524 GE531 GE538 GE550) hb)
         obtain ⟨NB523_555, NB555_523⟩ := sqM hg BK523
         replace BK523 := sqT BK523 hb
         obtain ⟨NB524_555, NB555_524⟩ := sqM hg BK524
         replace BK524 := sqT BK524 hb
         obtain ⟨NB531_555, NB555_531⟩ := sqM hg BK531
         replace BK531 := sqT BK531 hb
         obtain ⟨NB538_555, NB555_538⟩ := sqM hg BK538
         replace BK538 := sqT BK538 hb
         obtain ⟨NB550_555, NB555_550⟩ := sqM hg BK550
         replace BK550 := sqT BK550 hb
         clear hb hbox hg
         refine hK.out _ _ ⟨(blk_cell BK531.out 0).trans rfl, (blk_cell BK531.out 1).trans rfl, (blk_cell BK531.out 2).trans rfl, (blk_cell BK524.out 0).trans rfl, (blk_cell BK524.out 1).trans rfl⟩ (fun hHeld => ?_)
         clear hK K
         refine sqN (some 11) ?_
         exact norm_ Z51 (hCont (gb555) _ ⟨hHeld, (Z86 HO548), (Z87 HO_524002), (Z88 HO_532002), (Z87 HO_539002), (sqK BK523), (sqK BK524), (sqK BK531), (sqK BK538), (sqK BK550), (sqK BK555), GW555.out, GE555.out, NB523_555.out, NB555_523.out, NB524_555.out, NB555_524.out, NB531_555.out, NB555_531.out, NB538_555.out, NB555_538.out, NB550_555.out, NB555_550.out, (Z89 GE523 GE524 GE531 GE538 GE550 GE555)⟩)
        ·skip
         refine box_step ?hg (N := 11) ?hd (cs := #[.int .i64 0, .int .i64 0]) (t := 31) ?hr ?_; (case hd => rfl); (case hg => rfl); (case hr => exact Z7)
         intro gb555 hg w132 hbox hb
         replace HO_524002 := Aside0.mk (Kd.Q_below (Kd.Q_elderB (Z29 HO_524002) gb555 (Nat.le_of_eq hg.symm)) hb)
         replace HO_532002 := Aside0.mk (Kd.R_below (Kd.R_elderB (sqR HO_532002) gb555 (Nat.le_of_eq hg.symm)) hb)
         replace HO_539002 := Aside0.mk (Kd.Q_below (Kd.Q_elderB (Z29 HO_539002) gb555 (Nat.le_of_eq hg.symm)) hb)
         replace HO548 := Aside0.mk (Kd.R_below (Kd.R_elderB (sqR HO548) gb555 (Nat.le_of_eq hg.symm)) hb)
         have BK555 := Aside0.mk (hbox)
         have GW555 := Aside0.mk ((Z115 GE523 GE524 GE531 GE538 GE550 : w.heap.size ≤ gb555))
         have GE555 := Aside0.mk ((Z115 GE523 GE524 GE531 GE538 GE550 : w.heap.size ≤ gb555))
         replace HB := Aside0.mk (below_step (Z26 GE523 GE524 GE531 GE538 GE550) hb)
         obtain ⟨NB523_555, NB555_523⟩ := sqM hg BK523
         replace BK523 := sqT BK523 hb
         obtain ⟨NB524_555, NB555_524⟩ := sqM hg BK524
         replace BK524 := sqT BK524 hb
         obtain ⟨NB531_555, NB555_531⟩ := sqM hg BK531
         replace BK531 := sqT BK531 hb
         obtain ⟨NB538_555, NB555_538⟩ := sqM hg BK538
         replace BK538 := sqT BK538 hb
         obtain ⟨NB550_555, NB555_550⟩ := sqM hg BK550
         replace BK550 := sqT BK550 hb
         clear hb hbox hg
         refine hK.out _ _ ⟨(blk_cell BK531.out 0).trans rfl, (blk_cell BK531.out 1).trans rfl, (blk_cell BK531.out 2).trans rfl, (blk_cell BK524.out 0).trans rfl, (blk_cell BK524.out 1).trans rfl⟩ (fun hHeld => ?_)
         clear hK K
         refine sqN (some 11) ?_
         refine one_ (i := 5) (N := some 67) #[true, true, true, true, true, true, false, false, false, true, false, false] rfl rfl (one_of HT_.out (by kernel_rfl)) (by decide) (fun K hK => ?_)
         refine goes_ Tryz.func25 (by kernel_rfl) rfl #[.agg #[.int .i64 t525, .int .i64 t526], .string t551] (by rfl) rfl rfl sqA ?_
         with_reducible refine (impl_DancedFrom.calls kj5 t525 t526 t551 t552 t553 t554 _ A51.out).mono ?_
         rintro e w133 ⟨rfl, hb⟩
         refine ⟨_, rfl, ?_⟩
         replace HO_524002 := Aside0.mk (Kd.Q_below (Z29 HO_524002) hb)
         replace HO_532002 := sqU HO_532002 hb
         replace HO_539002 := Aside0.mk (Kd.Q_below (Z29 HO_539002) hb)
         replace HO548 := sqU HO548 hb
         replace BK523 := sqT BK523 hb
         replace BK524 := sqT BK524 hb
         replace BK531 := sqT BK531 hb
         replace BK538 := sqT BK538 hb
         replace BK550 := sqT BK550 hb
         replace BK555 := sqT BK555 hb
         replace HB := Aside0.mk (below_step (Z89 GE523 GE524 GE531 GE538 GE550 GE555) hb)
         (try clear hb)
         (try clear hb2)
         (try clear hk)
         (try clear hi)
         refine hK.out _ _ ⟨(blk_cell BK531.out 0).trans rfl, (blk_cell BK531.out 1).trans rfl, (blk_cell BK531.out 2).trans rfl, (blk_cell BK524.out 0).trans rfl, (blk_cell BK524.out 1).trans rfl⟩ (fun hHeld => ?_)
         clear hK K
         refine sqN (some 67) ?_
         refine sqP (i := 6) (N := some 61) (h := ?_)
         refine sqP (i := 7) (N := some 68) (h := ?_)
         refine sqP (i := 8) (N := some 69) (h := ?_)
         exact norm_ Z51 (hCont (gb555) _ ⟨hHeld, (Z86 HO548), (Z87 HO_524002), (Z88 HO_532002), (Z87 HO_539002), (sqK BK523), (sqK BK524), (sqK BK531), (sqK BK538), (sqK BK550), (sqK BK555), GW555.out, GE555.out, NB523_555.out, NB555_523.out, NB524_555.out, NB555_524.out, NB531_555.out, NB555_531.out, NB538_555.out, NB555_538.out, NB550_555.out, NB555_550.out, (Z89 GE523 GE524 GE531 GE538 GE550 GE555)⟩)
       ·skip
        refine box_step ?hg (N := 11) ?hd (cs := #[.int .i64 0, .int .i64 0]) (t := 31) ?hr ?_; (case hd => rfl); (case hg => rfl); (case hr => exact Z7)
        intro gb555 hg w131 hbox hb
        replace HO_524002 := Aside0.mk (Kd.Q_below (Kd.Q_elderB (Z29 HO_524002) gb555 (Nat.le_of_eq hg.symm)) hb)
        replace HO_532002 := Aside0.mk (Kd.R_below (Kd.R_elderB (sqR HO_532002) gb555 (Nat.le_of_eq hg.symm)) hb)
        replace HO_539002 := Aside0.mk (Kd.Q_below (Kd.Q_elderB (Z29 HO_539002) gb555 (Nat.le_of_eq hg.symm)) hb)
        replace HO548 := Aside0.mk (Kd.R_below (Kd.R_elderB (sqR HO548) gb555 (Nat.le_of_eq hg.symm)) hb)
        have BK555 := Aside0.mk (hbox)
        have GW555 := Aside0.mk ((Z115 GE523 GE524 GE531 GE538 GE550 : w.heap.size ≤ gb555))
        have GE555 := Aside0.mk ((Z115 GE523 GE524 GE531 GE538 GE550 : w.heap.size ≤ gb555))
        replace HB := Aside0.mk (below_step (Z26 GE523 GE524 GE531 GE538 GE550) hb)
        obtain ⟨NB523_555, NB555_523⟩ := sqM hg BK523
        replace BK523 := sqT BK523 hb
        obtain ⟨NB524_555, NB555_524⟩ := sqM hg BK524
        replace BK524 := sqT BK524 hb
        obtain ⟨NB531_555, NB555_531⟩ := sqM hg BK531
        replace BK531 := sqT BK531 hb
        obtain ⟨NB538_555, NB555_538⟩ := sqM hg BK538
        replace BK538 := sqT BK538 hb
        obtain ⟨NB550_555, NB555_550⟩ := sqM hg BK550
        replace BK550 := sqT BK550 hb
        clear hb hbox hg
        refine hK.out _ _ ⟨(blk_cell BK531.out 0).trans rfl, (blk_cell BK531.out 1).trans rfl, (blk_cell BK531.out 2).trans rfl, (blk_cell BK524.out 0).trans rfl, (blk_cell BK524.out 1).trans rfl⟩ (fun hHeld => ?_)
        clear hK K
        refine sqN (some 11) ?_
        refine one_ (i := 4) (N := some 66) #[true, true, true, true, true, false, false, false, false, true, false, false] rfl rfl (one_of HT_.out (by kernel_rfl)) (by decide) (fun K hK => ?_)
        refine goes_ Tryz.func26 (by kernel_rfl) rfl #[.string t522] (by rfl) rfl rfl sqA ?_
        with_reducible refine (impl_BackOf.calls kj5 t522 t551 _ A50.out).mono ?_
        rintro e w132 ⟨rfl, hb⟩
        refine ⟨_, rfl, ?_⟩
        replace HO_524002 := Aside0.mk (Kd.Q_below (Z29 HO_524002) hb)
        replace HO_532002 := sqU HO_532002 hb
        replace HO_539002 := Aside0.mk (Kd.Q_below (Z29 HO_539002) hb)
        replace HO548 := sqU HO548 hb
        replace BK523 := sqT BK523 hb
        replace BK524 := sqT BK524 hb
        replace BK531 := sqT BK531 hb
        replace BK538 := sqT BK538 hb
        replace BK550 := sqT BK550 hb
        replace BK555 := sqT BK555 hb
        replace HB := Aside0.mk (below_step (Z89 GE523 GE524 GE531 GE538 GE550 GE555) hb)
        (try clear hb)
        (try clear hb2)
        (try clear hk)
        (try clear hi)
        refine hK.out _ _ ⟨(blk_cell BK531.out 0).trans rfl, (blk_cell BK531.out 1).trans rfl, (blk_cell BK531.out 2).trans rfl, (blk_cell BK524.out 0).trans rfl, (blk_cell BK524.out 1).trans rfl⟩ (fun hHeld => ?_)
        clear hK K
        refine sqN (some 66) ?_
        refine one_ (i := 5) (N := some 67) #[true, true, true, true, true, true, false, false, false, true, false, false] rfl rfl (one_of HT_.out (by kernel_rfl)) (by decide) (fun K hK => ?_)
        refine goes_ Tryz.func25 (by kernel_rfl) rfl #[.agg #[.int .i64 t525, .int .i64 t526], .string t551] (by rfl) rfl rfl sqA ?_
        with_reducible refine (impl_DancedFrom.calls kj5 t525 t526 t551 t552 t553 t554 _ A51.out).mono ?_
        rintro e w133 ⟨rfl, hb⟩
        refine ⟨_, rfl, ?_⟩
        replace HO_524002 := Aside0.mk (Kd.Q_below (Z29 HO_524002) hb)
        replace HO_532002 := sqU HO_532002 hb
        replace HO_539002 := Aside0.mk (Kd.Q_below (Z29 HO_539002) hb)
        replace HO548 := sqU HO548 hb
        replace BK523 := sqT BK523 hb
        replace BK524 := sqT BK524 hb
        replace BK531 := sqT BK531 hb
        replace BK538 := sqT BK538 hb
        replace BK550 := sqT BK550 hb
        replace BK555 := sqT BK555 hb
        replace HB := Aside0.mk (below_step (Z89 GE523 GE524 GE531 GE538 GE550 GE555) hb)
        (try clear hb)
        (try clear hb2)
        (try clear hk)
        (try clear hi)
        refine hK.out _ _ ⟨(blk_cell BK531.out 0).trans rfl, (blk_cell BK531.out 1).trans rfl, (blk_cell BK531.out 2).trans rfl, (blk_cell BK524.out 0).trans rfl, (blk_cell BK524.out 1).trans rfl⟩ (fun hHeld => ?_)
        clear hK K
        refine sqN (some 67) ?_
        refine sqP (i := 6) (N := some 61) (h := ?_)
        refine sqP (i := 7) (N := some 68) (h := ?_)
        refine sqP (i := 8) (N := some 69) (h := ?_)
        exact norm_ Z51 (hCont (gb555) _ ⟨hHeld, (Z86 HO548), (Z87 HO_524002), (Z88 HO_532002), (Z87 HO_539002), (sqK BK523), (sqK BK524), (sqK BK531), (sqK BK538), (sqK BK550), (sqK BK555), GW555.out, GE555.out, NB523_555.out, NB555_523.out, NB524_555.out, NB555_524.out, NB531_555.out, NB555_531.out, NB538_555.out, NB555_538.out, NB550_555.out, NB555_550.out, (Z89 GE523 GE524 GE531 GE538 GE550 GE555)⟩)
      rintro gb555 w134 ⟨hS_, h0_, h1_, h2_, h3_, h4_, h5_, h6_, h7_, h8_, h9_, h10_, h11_, h12_, h13_, h14_, h15_, h16_, h17_, h18_, h19_, h20_, h21_, h22_⟩
      replace HO548 := Aside0.mk h0_
      replace HO_524002 := Aside0.mk h1_
      replace HO_532002 := Aside0.mk h2_
      replace HO_539002 := Aside0.mk h3_
      replace BK523 := Aside0.mk h4_
      replace BK524 := Aside0.mk h5_
      replace BK531 := Aside0.mk h6_
      replace BK538 := Aside0.mk h7_
      replace BK550 := Aside0.mk h8_
      replace BK555 := Aside0.mk h9_
      replace GW555 := Aside0.mk h10_
      replace GE555 := Aside0.mk h11_
      replace NB523_555 := Aside0.mk h12_
      replace NB555_523 := Aside0.mk h13_
      replace NB524_555 := Aside0.mk h14_
      replace NB555_524 := Aside0.mk h15_
      replace NB531_555 := Aside0.mk h16_
      replace NB555_531 := Aside0.mk h17_
      replace NB538_555 := Aside0.mk h18_
      replace NB555_538 := Aside0.mk h19_
      replace NB550_555 := Aside0.mk h20_
      replace NB555_550 := Aside0.mk h21_
      replace HB := Aside0.mk h22_
      clear h0_ h1_ h2_ h3_ h4_ h5_ h6_ h7_ h8_ h9_ h10_ h11_ h12_ h13_ h14_ h15_ h16_ h17_ h18_ h19_ h20_ h21_ h22_
      have hHeld : w134.cell? ⟨gb531, 0, none⟩ = some (.int .i64 t525) ∧ w134.cell? ⟨gb531, 1, none⟩ = some (.int .i64 t526) ∧ w134.cell? ⟨gb531, 2, none⟩ = some (.slice Ao19 t527.length co19) ∧ w134.cell? ⟨gb524, 0, none⟩ = some (.int .i64 t521) ∧ w134.cell? ⟨gb524, 1, none⟩ = some (.string t522) := hS_
      refine norm_ (a' := ?_) ?_ ?_
      rotate_left
      ·simp only [putAll, Act.put, List.setIfInBounds_toArray, List.set_cons_zero, List.set_cons_succ]
       rfl
      refine one_ (i := 10) (N := none) #[true, true, true, true, true, true, true, true, true, true, true, false] rfl rfl (one_of HT_.out (by kernel_rfl)) (by decide) (fun K hK => ?_)
      have hs135 : w134.cell? ⟨gb555, 0, none⟩ = some (.int .i64 0) := (blk_cell BK555.out 0).trans rfl
      have hfs135 := blk_frozen BK555.out 0
      have hns135_0 := NB523_555.out
      have hns135_1 := NB524_555.out
      have hns135_2 := NB531_555.out
      have hns135_3 := NB538_555.out
      have hns135_4 := NB550_555.out
      have hms135_0 := NB555_523.out
      have hms135_1 := NB555_524.out
      have hms135_2 := NB555_531.out
      have hms135_3 := NB555_538.out
      have hms135_4 := NB555_550.out
      have hs136 : w134.cell? ⟨gb555, 1, none⟩ = some (.int .i64 0) := (blk_cell BK555.out 1).trans rfl
      have hfs136 := blk_frozen BK555.out 1
      have hns136_0 := NB523_555.out
      have hns136_1 := NB524_555.out
      have hns136_2 := NB531_555.out
      have hns136_3 := NB538_555.out
      have hns136_4 := NB550_555.out
      have hms136_0 := NB555_523.out
      have hms136_1 := NB555_524.out
      have hms136_2 := NB555_531.out
      have hms136_3 := NB555_538.out
      have hms136_4 := NB555_550.out
      refine skip_ (w1 := ?_) (by rfl) rfl ?_ ?_
      rotate_left
      ·go_simp
       rfl
      refine hK.out _ _ ⟨((cell_far (p := ⟨gb555, _, none⟩) NB531_555.out _).trans (((cell_far (p := ⟨gb555, _, none⟩) NB531_555.out _).trans (hHeld.1)))), ((cell_far (p := ⟨gb555, _, none⟩) NB531_555.out _).trans (((cell_far (p := ⟨gb555, _, none⟩) NB531_555.out _).trans (hHeld.2.1)))), ((cell_far (p := ⟨gb555, _, none⟩) NB531_555.out _).trans (((cell_far (p := ⟨gb555, _, none⟩) NB531_555.out _).trans (hHeld.2.2.1)))), ((cell_far (p := ⟨gb555, _, none⟩) NB524_555.out _).trans (((cell_far (p := ⟨gb555, _, none⟩) NB524_555.out _).trans (hHeld.2.2.2.1)))), ((cell_far (p := ⟨gb555, _, none⟩) NB524_555.out _).trans (((cell_far (p := ⟨gb555, _, none⟩) NB524_555.out _).trans (hHeld.2.2.2.2))))⟩ (fun hHeld => ?_)
      clear hK K
      refine sqP (i := 11) (N := some 12) (h := ?_)
      refine done_ (done_of HT_.out (by kernel_rfl)) ?_
      have hnb137 := NB531_555.out
      have hnc137 := NB555_531.out
      obtain ⟨hcz138_0, hcz138_1, hcz138_2, hfz138_0, hfz138_1, hfz138_2⟩ := sqY3 BK531
      try go_wp2_with (first | ((with_reducible refine gate_callee (f := 23) rfl ?_); refine goesL_ (some 71) rfl rfl Tryz.func23 (by kernel_rfl) rfl #[.agg #[.int .i64 t525, .int .i64 t526, .slice Ao19 t527.length co19]] rfl sqA ?_; (with_reducible refine (impl_DeskOk.calls kj5 t525 t526 _ _ t527 true _ ?side1 ?side2 A52.out).mono ?_); (case side1 => refine (Kd.R_reads' (e := 31) (base := w.heap.size) (ok := fun k_ => (some k_ ≠ (.slice Ao128 t546.length co128 : Value).ownBlock ∧ (some k_ ≠ (.slice Ao12 t518.length co12 : Value).ownBlock ∧ (some k_ ≠ (.slice Ao28 t534.length co28 : Value).ownBlock ∧ k_ ≠ gb555)))) (n := t527.length) (c := co19) ?_).2.2; exact (Z90 HO_532002)); (case side2 => exact Z31 HO_532002); rintro e w139 ⟨rfl, hb⟩; refine ⟨_, rfl, ?_⟩; replace HO_524002 := Aside0.mk (Kd.Q_below (Z91 HO_524002) hb); replace HO_532002 := Aside0.mk (Kd.R_below (Z90 HO_532002) hb); replace HO_539002 := Aside0.mk (Kd.Q_below (Z91 HO_539002) hb); replace HO548 := Aside0.mk (Kd.R_below (Z90 HO548) hb); replace BK523 := Aside0.mk (blk_below (g := gb523) (o := .cells #[.int .i64 t516, .int .i64 t517, .slice Ao12 t518.length co12] 34 (0, 0)) (Z14 NB523_555 BK523) hb); replace BK524 := Aside0.mk (blk_below (g := gb524) (o := .cells #[.int .i64 t521, .string t522] 38 (0, 0)) (Z14 NB524_555 BK524) hb); replace BK531 := Aside0.mk (blk_below (g := gb531) (o := .cells #[.int .i64 t525, .int .i64 t526, .slice Ao19 t527.length co19] 34 (0, 0)) (Z14 NB531_555 BK531) hb); replace BK538 := Aside0.mk (blk_below (g := gb538) (o := .cells #[.int .i64 t532, .int .i64 t533, .slice Ao28 t534.length co28] 34 (0, 0)) (Z14 NB538_555 BK538) hb); replace BK550 := Aside0.mk (blk_below (g := gb550) (o := .cells #[.int .i64 t544, .int .i64 t545, .slice Ao128 t546.length co128] 34 (0, 0)) (Z14 NB550_555 BK550) hb); replace BK555 := Aside0.mk (blk_below (g := gb555) (o := .cells #[.int .i64 t552, .int .i64 t553] 31 (0, 0)) (Z92 BK555) hb); replace HB := Aside0.mk (below_step (Z89 GE523 GE524 GE531 GE538 GE550 GE555) hb); (try clear hb); have hnb140 := NB524_523.out; have hnc140 := NB523_524.out; have hnb141 := NB524_538.out; have hnc141 := NB538_524.out; have hnb142 := NB524_555.out; have hnc142 := NB555_524.out; obtain ⟨hcz143_0, hcz143_1, hfz143_0, hfz143_1⟩ := sqY2 BK524))
      go_ret
      exact ⟨Z3, Z89 GE523 GE524 GE531 GE538 GE550 GE555⟩
     rw [if_neg c54] at H
     have c54b0 : (t521 == 4) = false := beq_eq_false_iff_ne.mpr c54
     have c54b1 : (t521 != 4) = true := bne_iff_ne.mpr c54
     by_cases c144 : (t518.length : Int) ≥ 8
     ·rw [if_pos c144] at H
      have c144b0 : decide (8 ≤ (t518.length : Int)) = true := decide_eq_true c144
      have c144b1 : decide (8 ≤ t518.length) = true := decide_eq_true (by omega)
      clear c144
      by_cases c145 : t521 = 0
      ·rw [if_pos c145] at H
       have c145b0 : (t521 == 0) = true := beq_iff_eq.mpr c145
       have c145b1 : (t521 != 0) = false := bne_eq_false_iff_eq.mpr c145
       clear c145
       by_cases c146 : t554 = true
       ·subst c146
        rw [if_pos rfl] at H
        obtain rfl := Option.some.inj H
        have hnb147 := NB531_523.out
        have hnc147 := NB523_531.out
        have hnb148 := NB531_524.out
        have hnc148 := NB524_531.out
        have hnb149 := NB531_538.out
        have hnc149 := NB538_531.out
        obtain ⟨hcz150_0, hcz150_1, hcz150_2, hfz150_0, hfz150_1, hfz150_2⟩ := sqY3 BK531
        try go_wp2_with (first | ((with_reducible refine gate_callee (f := 17) rfl ?_); refine goesL_ (some 58) rfl rfl Tryz.func17 (by kernel_rfl) rfl #[.agg #[.int .i64 t525, .int .i64 t526, .slice Ao19 t527.length co19], .agg #[.int .i64 4, .string (⟨#[]⟩ : ByteArray)]] rfl sqA ?_; (with_reducible refine (impl_DeskDo.calls kj5 t525 t526 _ _ t527 4 (⟨#[]⟩ : ByteArray) t544 t545 t546 t549 _ ?sideG ?side1 ?side2 A49.out).mono ?_); (case sideG => exact Glob.below hG (sqB4 HB GE523 GE524 GE531 GE538)); (case side1 => exact Z30 HO_532002); (case side2 => exact Z31 HO_532002); rintro e w151 ⟨v547, rfl, ho0, hb⟩; refine ⟨_, rfl, ?_⟩; have HO548 := Aside0.mk (Kd.R_lower (Kd.R_new' (Kd.R_new' (Kd.R_new' ho0 (Kd.Q_lt (Z29 HO_524002))) (Kd.R_lt (sqR HO_532002))) (Kd.Q_lt (Z29 HO_539002))) (below_size (sqB4 HB GE523 GE524 GE531 GE538))); replace HO_524002 := Aside0.mk (Kd.Q_elder' (Z29 HO_524002) (Kd.R_base ho0) hb); replace HO_532002 := Aside0.mk (Kd.R_elder' (sqR HO_532002) (Kd.R_base ho0) hb); replace HO_539002 := Aside0.mk (Kd.Q_elder' (Z29 HO_539002) (Kd.R_base ho0) hb); replace BK523 := sqT BK523 hb; replace BK524 := sqT BK524 hb; replace BK531 := sqT BK531 hb; replace BK538 := sqT BK538 hb; replace HB := sqS (sqB4 HB GE523 GE524 GE531 GE538) hb; (try clear hb); (try clear ho0)) | ((with_reducible refine gate_dst (N := 9) rfl ?_); (try (refine gate_guard (by rfl) ?_; dsimp only)); refine sqBox (N := 9) (cs := #[.int .i64 0, .int .i64 0, .slice none 0 0]) (t := 34) ?_; intro gb550 hg w152 BK550 hb; replace HO_524002 := Aside0.mk (Kd.Q_below (Z29 HO_524002) hb); replace HO_532002 := sqU HO_532002 hb; replace HO_539002 := Aside0.mk (Kd.Q_below (Z29 HO_539002) hb); replace HO548 := sqU HO548 hb; have GW550 := Aside0.mk ((sqG hg (sqB4 HB GE523 GE524 GE531 GE538))); have GE550 := GW550; replace HB := sqS (sqB4 HB GE523 GE524 GE531 GE538) hb; obtain ⟨NB523_550, NB550_523⟩ := sqM hg BK523; replace BK523 := sqT BK523 hb; obtain ⟨NB524_550, NB550_524⟩ := sqM hg BK524; replace BK524 := sqT BK524 hb; obtain ⟨NB531_550, NB550_531⟩ := sqM hg BK531; replace BK531 := sqT BK531 hb; obtain ⟨NB538_550, NB550_538⟩ := sqM hg BK538; replace BK538 := sqT BK538 hb; clear hb hg; have hnb153 := NB550_523.out; have hnc153 := NB523_550.out; have hnb154 := NB550_524.out; have hnc154 := NB524_550.out; have hnb155 := NB550_531.out; have hnc155 := NB531_550.out; have hnb156 := NB550_538.out; have hnc156 := NB538_550.out; obtain ⟨hcz157_0, hcz157_1, hcz157_2, hfz157_0, hfz157_1, hfz157_2⟩ := sqY3 BK550; obtain ⟨Ao158, co158, eo158⟩ := Kd.R_slice HO548.out; subst eo158))
        obtain ⟨w159, hw_⟩ : ∃ w_, ((w152.setCell ⟨gb550, 0, none⟩ (.int .i64 t544)).setCell ⟨gb550, 1, none⟩ (.int .i64 t545)).setCell ⟨gb550, 2, none⟩ (.slice Ao158 t546.length co158) = w_ := ⟨_, rfl⟩
        replace HO_524002 : Aside0 (Kd.Q k31 31 w159 w.heap.size (fun k_ => some k_ ≠ (.slice Ao19 t527.length co19 : Value).ownBlock ∧ some k_ ≠ (.slice Ao28 t534.length co28 : Value).ownBlock ∧ some k_ ≠ (.slice Ao158 t546.length co158 : Value).ownBlock) (.slice Ao12 t518.length co12) t518) := by rw [← hw_]; exact ⟨Z95 HO_524002 BK550⟩
        replace HO_532002 : Aside0 (Kd.R k31 31 w159 w.heap.size (fun k_ => some k_ ≠ (.slice Ao12 t518.length co12 : Value).ownBlock ∧ some k_ ≠ (.slice Ao28 t534.length co28 : Value).ownBlock ∧ some k_ ≠ (.slice Ao158 t546.length co158 : Value).ownBlock) (.slice Ao19 t527.length co19) t527) := by rw [← hw_]; exact ⟨by (with_reducible repeat (first | apply Kd.R_alloc | apply Kd.R_drewN | apply Kd.R_drew)); exact Kd.R_mono (Kd.R_far (p := ⟨gb550, 2, none⟩) (Kd.R_far (p := ⟨gb550, 1, none⟩) (Kd.R_far (p := ⟨gb550, 0, none⟩) (Kd.R_types HO_532002.out BK550.out (by decide)) (fun _ hk => hk.2) (.int .i64 t544)) (fun _ hk => hk.2) (.int .i64 t545)) (fun _ hk => hk.2) (.slice Ao158 t546.length co158)) (fun _ hk => ⟨hk.1.1.1, ⟨hk.1.1.2, hk.1.2⟩⟩)⟩
        replace HO_539002 : Aside0 (Kd.Q k31 31 w159 w.heap.size (fun k_ => some k_ ≠ (.slice Ao12 t518.length co12 : Value).ownBlock ∧ some k_ ≠ (.slice Ao19 t527.length co19 : Value).ownBlock ∧ some k_ ≠ (.slice Ao158 t546.length co158 : Value).ownBlock) (.slice Ao28 t534.length co28) t534) := by rw [← hw_]; exact ⟨Z95 HO_539002 BK550⟩
        replace HO548 : Aside0 (Kd.R k31 31 w159 w.heap.size (fun k_ => some k_ ≠ (.slice Ao12 t518.length co12 : Value).ownBlock ∧ some k_ ≠ (.slice Ao19 t527.length co19 : Value).ownBlock ∧ some k_ ≠ (.slice Ao28 t534.length co28 : Value).ownBlock) (.slice Ao158 t546.length co158) t546) := by rw [← hw_]; exact ⟨by (with_reducible repeat (first | apply Kd.R_alloc | apply Kd.R_drewN | apply Kd.R_drew)); exact Kd.R_mono (Kd.R_far (p := ⟨gb550, 2, none⟩) (Kd.R_far (p := ⟨gb550, 1, none⟩) (Kd.R_far (p := ⟨gb550, 0, none⟩) (Kd.R_types HO548.out BK550.out (by decide)) (fun _ hk => hk.2) (.int .i64 t544)) (fun _ hk => hk.2) (.int .i64 t545)) (fun _ hk => hk.2) (.slice Ao158 t546.length co158)) (fun _ hk => ⟨hk.1.1.1.2, ⟨hk.1.1.2, hk.1.2⟩⟩)⟩
        replace BK523 : Aside0 (w159.heap[gb523]? = some (.cells #[.int .i64 t516, .int .i64 t517, .slice Ao12 t518.length co12] 34 (0, 0))) := by rw [← hw_]; exact ⟨Z20 NB523_550 BK523⟩
        replace BK524 : Aside0 (w159.heap[gb524]? = some (.cells #[.int .i64 t521, .string t522] 38 (0, 0))) := by rw [← hw_]; exact ⟨Z20 NB524_550 BK524⟩
        replace BK531 : Aside0 (w159.heap[gb531]? = some (.cells #[.int .i64 t525, .int .i64 t526, .slice Ao19 t527.length co19] 34 (0, 0))) := by rw [← hw_]; exact ⟨Z20 NB531_550 BK531⟩
        replace BK538 : Aside0 (w159.heap[gb538]? = some (.cells #[.int .i64 t532, .int .i64 t533, .slice Ao28 t534.length co28] 34 (0, 0))) := by rw [← hw_]; exact ⟨Z20 NB538_550 BK538⟩
        replace BK550 : Aside0 (w159.heap[gb550]? = some (.cells #[.int .i64 t544, .int .i64 t545, .slice Ao158 t546.length co158] 34 (0, 0))) := by rw [← hw_]; exact ⟨Z85 BK550⟩
        replace HB : Aside0 (Below w.heap.size w w159) := by rw [← hw_]; exact ⟨Z26 GE523 GE524 GE531 GE538 GE550⟩
        rw [hw_]; clear hw_
        replace HO_524002 := Aside0.mk (Kd.Q_drew HO_524002.out)
        replace HO_532002 := Aside0.mk (Kd.R_drew HO_532002.out)
        replace HO_539002 := Aside0.mk (Kd.Q_drew HO_539002.out)
        replace HO548 := Aside0.mk (Kd.R_drew HO548.out)
        replace BK523 := Aside0.mk (blk_drew BK523.out)
        replace BK524 := Aside0.mk (blk_drew BK524.out)
        replace BK531 := Aside0.mk (blk_drew BK531.out)
        replace BK538 := Aside0.mk (blk_drew BK538.out)
        replace BK550 := Aside0.mk (blk_drew BK550.out)
        replace HB := Aside0.mk (below_drew1 HB.out)
        refine start_ (n := 12) (S := fun w' => w'.cell? ⟨gb531, 0, none⟩ = some (.int .i64 t525) ∧ w'.cell? ⟨gb531, 1, none⟩ = some (.int .i64 t526) ∧ w'.cell? ⟨gb531, 2, none⟩ = some (.slice Ao19 t527.length co19) ∧ w'.cell? ⟨gb524, 0, none⟩ = some (.int .i64 t521) ∧ w'.cell? ⟨gb524, 1, none⟩ = some (.string t522)) (ds := []) #[false, false, false, false, false, false, false, false, false, false, false, false] (by kernel_rfl) rfl rfl ⟨(blk_cell BK531.out 0).trans rfl, (blk_cell BK531.out 1).trans rfl, (blk_cell BK531.out 2).trans rfl, (blk_cell BK524.out 0).trans rfl, (blk_cell BK524.out 1).trans rfl⟩ (fun hHeld => ?_); refine with_tabW laws_FnDeskDo.tab11 laws_FnDeskDo.bits11 (fun HT_ HW_ => ?_)
        generalize w159.drew = w160 at HO_524002 HO_532002 HO_539002 HO548 BK523 BK524 BK531 BK538 BK550 HB hHeld ⊢
        refine sqP (i := 0) (N := some 62) (h := ?_)
        refine sqP (i := 2) (N := some 64) (h := ?_)
        refine sqQ (i := 1) (N := some 63) hHeld (h := ?_)
        refine sqQ (i := 3) (N := some 65) hHeld (h := ?_)
        refine join_ (σ := Nat) 2 #[true, true, true, true, true, true, true, true, true, true, false, false] (fun s_ => [(66, .string t551), (67, .tuple #[.agg #[.int .i64 t552, .int .i64 t553], .bool true]), (11, .pointer (some ⟨s_, 0, none⟩)), (61, .tuple #[.agg #[.int .i64 t552, .int .i64 t553], .bool true]), (68, .agg #[.int .i64 t552, .int .i64 t553]), (69, .bool true)]) (fun s_ w' => (w'.cell? ⟨gb531, 0, none⟩ = some (.int .i64 t525) ∧ w'.cell? ⟨gb531, 1, none⟩ = some (.int .i64 t526) ∧ w'.cell? ⟨gb531, 2, none⟩ = some (.slice Ao19 t527.length co19) ∧ w'.cell? ⟨gb524, 0, none⟩ = some (.int .i64 t521) ∧ w'.cell? ⟨gb524, 1, none⟩ = some (.string t522)) ∧ (Kd.R k31 31 w' w.heap.size (fun k_ => some k_ ≠ (.slice Ao12 t518.length co12 : Value).ownBlock ∧ some k_ ≠ (.slice Ao19 t527.length co19 : Value).ownBlock ∧ some k_ ≠ (.slice Ao28 t534.length co28 : Value).ownBlock ∧ k_ ≠ s_) (.slice Ao158 t546.length co158) t546) ∧ (Kd.Q k31 31 w' w.heap.size (fun k_ => some k_ ≠ (.slice Ao158 t546.length co158 : Value).ownBlock ∧ some k_ ≠ (.slice Ao19 t527.length co19 : Value).ownBlock ∧ some k_ ≠ (.slice Ao28 t534.length co28 : Value).ownBlock ∧ k_ ≠ s_) (.slice Ao12 t518.length co12) t518) ∧ (Kd.R k31 31 w' w.heap.size (fun k_ => some k_ ≠ (.slice Ao158 t546.length co158 : Value).ownBlock ∧ some k_ ≠ (.slice Ao12 t518.length co12 : Value).ownBlock ∧ some k_ ≠ (.slice Ao28 t534.length co28 : Value).ownBlock ∧ k_ ≠ s_) (.slice Ao19 t527.length co19) t527) ∧ (Kd.Q k31 31 w' w.heap.size (fun k_ => some k_ ≠ (.slice Ao158 t546.length co158 : Value).ownBlock ∧ some k_ ≠ (.slice Ao12 t518.length co12 : Value).ownBlock ∧ some k_ ≠ (.slice Ao19 t527.length co19 : Value).ownBlock ∧ k_ ≠ s_) (.slice Ao28 t534.length co28) t534) ∧ (w'.heap[gb523]? = some (.cells #[.int .i64 t516, .int .i64 t517, .slice Ao12 t518.length co12] 34 (0, 0))) ∧ (w'.heap[gb524]? = some (.cells #[.int .i64 t521, .string t522] 38 (0, 0))) ∧ (w'.heap[gb531]? = some (.cells #[.int .i64 t525, .int .i64 t526, .slice Ao19 t527.length co19] 34 (0, 0))) ∧ (w'.heap[gb538]? = some (.cells #[.int .i64 t532, .int .i64 t533, .slice Ao28 t534.length co28] 34 (0, 0))) ∧ (w'.heap[gb550]? = some (.cells #[.int .i64 t544, .int .i64 t545, .slice Ao158 t546.length co158] 34 (0, 0))) ∧ (w'.heap[s_]? = some (.cells #[.int .i64 0, .int .i64 0] 31 (0, 0))) ∧ (w.heap.size ≤ s_) ∧ (w.heap.size ≤ s_) ∧ (gb523 ≠ s_) ∧ (s_ ≠ gb523) ∧ (gb524 ≠ s_) ∧ (s_ ≠ gb524) ∧ (gb531 ≠ s_) ∧ (s_ ≠ gb531) ∧ (gb538 ≠ s_) ∧ (s_ ≠ gb538) ∧ (gb550 ≠ s_) ∧ (s_ ≠ gb550) ∧ (Below w.heap.size w w')) ?_ ?_
        rotate_left
        ·intro hCont
         refine two_ (i := 4) (j := 9) (Ni := some 66) (Nj := some 11) #[true, true, true, true, true, false, false, false, false, false, false, false] #[true, true, true, true, false, false, false, false, false, true, false, false] rfl rfl rfl rfl (two_of HT_.out (by kernel_rfl)) (by decide) (by decide) (fun K hK => ?_) (fun K hK => ?_)
         ·skip
          refine goes_ Tryz.func26 (by kernel_rfl) rfl #[.string t522] (by rfl) rfl rfl sqA ?_
          with_reducible refine (impl_BackOf.calls kj5 t522 t551 _ A50.out).mono ?_
          rintro e w161 ⟨rfl, hb⟩
          refine ⟨_, rfl, ?_⟩
          replace HO_524002 := Aside0.mk (Kd.Q_below (Z29 HO_524002) hb)
          replace HO_532002 := sqU HO_532002 hb
          replace HO_539002 := Aside0.mk (Kd.Q_below (Z29 HO_539002) hb)
          replace HO548 := sqU HO548 hb
          replace BK523 := sqT BK523 hb
          replace BK524 := sqT BK524 hb
          replace BK531 := sqT BK531 hb
          replace BK538 := sqT BK538 hb
          replace BK550 := sqT BK550 hb
          replace HB := Aside0.mk (below_step (Z26 GE523 GE524 GE531 GE538 GE550) hb)
          (try clear hb)
          (try clear hb2)
          (try clear hk)
          (try clear hi)
          refine hK.out _ _ ⟨(blk_cell BK531.out 0).trans rfl, (blk_cell BK531.out 1).trans rfl, (blk_cell BK531.out 2).trans rfl, (blk_cell BK524.out 0).trans rfl, (blk_cell BK524.out 1).trans rfl⟩ (fun hHeld => ?_)
          clear hK K
          refine sqN (some 66) ?_
          refine two_ (i := 5) (j := 9) (Ni := some 67) (Nj := some 11) #[true, true, true, true, true, true, false, false, false, false, false, false] #[true, true, true, true, true, false, false, false, false, true, false, false] rfl rfl rfl rfl (two_of HT_.out (by kernel_rfl)) (by decide) (by decide) (fun K hK => ?_) (fun K hK => ?_)
          ·skip
           refine goes_ Tryz.func25 (by kernel_rfl) rfl #[.agg #[.int .i64 t525, .int .i64 t526], .string t551] (by rfl) rfl rfl sqA ?_
           with_reducible refine (impl_DancedFrom.calls kj5 t525 t526 t551 t552 t553 true _ A51.out).mono ?_
           rintro e w162 ⟨rfl, hb⟩
           refine ⟨_, rfl, ?_⟩
           replace HO_524002 := Aside0.mk (Kd.Q_below (Z29 HO_524002) hb)
           replace HO_532002 := sqU HO_532002 hb
           replace HO_539002 := Aside0.mk (Kd.Q_below (Z29 HO_539002) hb)
           replace HO548 := sqU HO548 hb
           replace BK523 := sqT BK523 hb
           replace BK524 := sqT BK524 hb
           replace BK531 := sqT BK531 hb
           replace BK538 := sqT BK538 hb
           replace BK550 := sqT BK550 hb
           replace HB := Aside0.mk (below_step (Z26 GE523 GE524 GE531 GE538 GE550) hb)
           (try clear hb)
           (try clear hb2)
           (try clear hk)
           (try clear hi)
           refine hK.out _ _ ⟨(blk_cell BK531.out 0).trans rfl, (blk_cell BK531.out 1).trans rfl, (blk_cell BK531.out 2).trans rfl, (blk_cell BK524.out 0).trans rfl, (blk_cell BK524.out 1).trans rfl⟩ (fun hHeld => ?_)
           clear hK K
           refine sqN (some 67) ?_
           refine sqP (i := 6) (N := some 61) (h := ?_)
           refine sqP (i := 7) (N := some 68) (h := ?_)
           refine sqP (i := 8) (N := some 69) (h := ?_)
           refine one_ (i := 9) (N := some 11) #[true, true, true, true, true, true, true, true, true, true, false, false] rfl rfl (one_of HT_.out (by kernel_rfl)) (by decide) (fun K hK => ?_)
           refine box_step ?hg (N := 11) ?hd (cs := #[.int .i64 0, .int .i64 0]) (t := 31) ?hr ?_; (case hd => rfl); (case hg => rfl); (case hr => exact Z7)
           intro gb555 hg w163 hbox hb
           replace HO_524002 := Aside0.mk (Kd.Q_below (Kd.Q_elderB (Z29 HO_524002) gb555 (Nat.le_of_eq hg.symm)) hb)
           replace HO_532002 := Aside0.mk (Kd.R_below (Kd.R_elderB (sqR HO_532002) gb555 (Nat.le_of_eq hg.symm)) hb)
           replace HO_539002 := Aside0.mk (Kd.Q_below (Kd.Q_elderB (Z29 HO_539002) gb555 (Nat.le_of_eq hg.symm)) hb)
           replace HO548 := Aside0.mk (Kd.R_below (Kd.R_elderB (sqR HO548) gb555 (Nat.le_of_eq hg.symm)) hb)
           have BK555 := Aside0.mk (hbox)
           have GW555 := Aside0.mk ((Z115 GE523 GE524 GE531 GE538 GE550 : w.heap.size ≤ gb555))
           have GE555 := Aside0.mk ((Z115 GE523 GE524 GE531 GE538 GE550 : w.heap.size ≤ gb555))
           replace HB := Aside0.mk (below_step (Z26 GE523 GE524 GE531 GE538 GE550) hb)
           obtain ⟨NB523_555, NB555_523⟩ := sqM hg BK523
           replace BK523 := sqT BK523 hb
           obtain ⟨NB524_555, NB555_524⟩ := sqM hg BK524
           replace BK524 := sqT BK524 hb
           obtain ⟨NB531_555, NB555_531⟩ := sqM hg BK531
           replace BK531 := sqT BK531 hb
           obtain ⟨NB538_555, NB555_538⟩ := sqM hg BK538
           replace BK538 := sqT BK538 hb
           obtain ⟨NB550_555, NB555_550⟩ := sqM hg BK550
           replace BK550 := sqT BK550 hb
           clear hb hbox hg
           refine hK.out _ _ ⟨(blk_cell BK531.out 0).trans rfl, (blk_cell BK531.out 1).trans rfl, (blk_cell BK531.out 2).trans rfl, (blk_cell BK524.out 0).trans rfl, (blk_cell BK524.out 1).trans rfl⟩ (fun hHeld => ?_)
           clear hK K
           refine sqN (some 11) ?_
           exact norm_ Z51 (hCont (gb555) _ ⟨hHeld, (Z86 HO548), (Z87 HO_524002), (Z88 HO_532002), (Z87 HO_539002), (sqK BK523), (sqK BK524), (sqK BK531), (sqK BK538), (sqK BK550), (sqK BK555), GW555.out, GE555.out, NB523_555.out, NB555_523.out, NB524_555.out, NB555_524.out, NB531_555.out, NB555_531.out, NB538_555.out, NB555_538.out, NB550_555.out, NB555_550.out, (Z89 GE523 GE524 GE531 GE538 GE550 GE555)⟩)
          ·skip
           refine box_step ?hg (N := 11) ?hd (cs := #[.int .i64 0, .int .i64 0]) (t := 31) ?hr ?_; (case hd => rfl); (case hg => rfl); (case hr => exact Z7)
           intro gb555 hg w162 hbox hb
           replace HO_524002 := Aside0.mk (Kd.Q_below (Kd.Q_elderB (Z29 HO_524002) gb555 (Nat.le_of_eq hg.symm)) hb)
           replace HO_532002 := Aside0.mk (Kd.R_below (Kd.R_elderB (sqR HO_532002) gb555 (Nat.le_of_eq hg.symm)) hb)
           replace HO_539002 := Aside0.mk (Kd.Q_below (Kd.Q_elderB (Z29 HO_539002) gb555 (Nat.le_of_eq hg.symm)) hb)
           replace HO548 := Aside0.mk (Kd.R_below (Kd.R_elderB (sqR HO548) gb555 (Nat.le_of_eq hg.symm)) hb)
           have BK555 := Aside0.mk (hbox)
           have GW555 := Aside0.mk ((Z115 GE523 GE524 GE531 GE538 GE550 : w.heap.size ≤ gb555))
           have GE555 := Aside0.mk ((Z115 GE523 GE524 GE531 GE538 GE550 : w.heap.size ≤ gb555))
           replace HB := Aside0.mk (below_step (Z26 GE523 GE524 GE531 GE538 GE550) hb)
           obtain ⟨NB523_555, NB555_523⟩ := sqM hg BK523
           replace BK523 := sqT BK523 hb
           obtain ⟨NB524_555, NB555_524⟩ := sqM hg BK524
           replace BK524 := sqT BK524 hb
           obtain ⟨NB531_555, NB555_531⟩ := sqM hg BK531
           replace BK531 := sqT BK531 hb
           obtain ⟨NB538_555, NB555_538⟩ := sqM hg BK538
           replace BK538 := sqT BK538 hb
           obtain ⟨NB550_555, NB555_550⟩ := sqM hg BK550
           replace BK550 := sqT BK550 hb
           clear hb hbox hg
           refine hK.out _ _ ⟨(blk_cell BK531.out 0).trans rfl, (blk_cell BK531.out 1).trans rfl, (blk_cell BK531.out 2).trans rfl, (blk_cell BK524.out 0).trans rfl, (blk_cell BK524.out 1).trans rfl⟩ (fun hHeld => ?_)
           clear hK K
           refine sqN (some 11) ?_
           refine one_ (i := 5) (N := some 67) #[true, true, true, true, true, true, false, false, false, true, false, false] rfl rfl (one_of HT_.out (by kernel_rfl)) (by decide) (fun K hK => ?_)
           refine goes_ Tryz.func25 (by kernel_rfl) rfl #[.agg #[.int .i64 t525, .int .i64 t526], .string t551] (by rfl) rfl rfl sqA ?_
           with_reducible refine (impl_DancedFrom.calls kj5 t525 t526 t551 t552 t553 true _ A51.out).mono ?_
           rintro e w163 ⟨rfl, hb⟩
           refine ⟨_, rfl, ?_⟩
           replace HO_524002 := Aside0.mk (Kd.Q_below (Z29 HO_524002) hb)
           replace HO_532002 := sqU HO_532002 hb
           replace HO_539002 := Aside0.mk (Kd.Q_below (Z29 HO_539002) hb)
           replace HO548 := sqU HO548 hb
           replace BK523 := sqT BK523 hb
           replace BK524 := sqT BK524 hb
           replace BK531 := sqT BK531 hb
           replace BK538 := sqT BK538 hb
           replace BK550 := sqT BK550 hb
           replace BK555 := sqT BK555 hb
           replace HB := Aside0.mk (below_step (Z89 GE523 GE524 GE531 GE538 GE550 GE555) hb)
           (try clear hb)
           (try clear hb2)
           (try clear hk)
           (try clear hi)
           refine hK.out _ _ ⟨(blk_cell BK531.out 0).trans rfl, (blk_cell BK531.out 1).trans rfl, (blk_cell BK531.out 2).trans rfl, (blk_cell BK524.out 0).trans rfl, (blk_cell BK524.out 1).trans rfl⟩ (fun hHeld => ?_)
           clear hK K
           refine sqN (some 67) ?_
           refine sqP (i := 6) (N := some 61) (h := ?_)
           refine sqP (i := 7) (N := some 68) (h := ?_)
           refine sqP (i := 8) (N := some 69) (h := ?_)
           exact norm_ Z51 (hCont (gb555) _ ⟨hHeld, (Z86 HO548), (Z87 HO_524002), (Z88 HO_532002), (Z87 HO_539002), (sqK BK523), (sqK BK524), (sqK BK531), (sqK BK538), (sqK BK550), (sqK BK555), GW555.out, GE555.out, NB523_555.out, NB555_523.out, NB524_555.out, NB555_524.out, NB531_555.out, NB555_531.out, NB538_555.out, NB555_538.out, NB550_555.out, NB555_550.out, (Z89 GE523 GE524 GE531 GE538 GE550 GE555)⟩)
         ·skip
          refine box_step ?hg (N := 11) ?hd (cs := #[.int .i64 0, .int .i64 0]) (t := 31) ?hr ?_; (case hd => rfl); (case hg => rfl); (case hr => exact Z7)
          intro gb555 hg w161 hbox hb
          replace HO_524002 := Aside0.mk (Kd.Q_below (Kd.Q_elderB (Z29 HO_524002) gb555 (Nat.le_of_eq hg.symm)) hb)
          replace HO_532002 := Aside0.mk (Kd.R_below (Kd.R_elderB (sqR HO_532002) gb555 (Nat.le_of_eq hg.symm)) hb)
          replace HO_539002 := Aside0.mk (Kd.Q_below (Kd.Q_elderB (Z29 HO_539002) gb555 (Nat.le_of_eq hg.symm)) hb)
          replace HO548 := Aside0.mk (Kd.R_below (Kd.R_elderB (sqR HO548) gb555 (Nat.le_of_eq hg.symm)) hb)
          have BK555 := Aside0.mk (hbox)
          have GW555 := Aside0.mk ((Z115 GE523 GE524 GE531 GE538 GE550 : w.heap.size ≤ gb555))
          have GE555 := Aside0.mk ((Z115 GE523 GE524 GE531 GE538 GE550 : w.heap.size ≤ gb555))
          replace HB := Aside0.mk (below_step (Z26 GE523 GE524 GE531 GE538 GE550) hb)
          obtain ⟨NB523_555, NB555_523⟩ := sqM hg BK523
          replace BK523 := sqT BK523 hb
          obtain ⟨NB524_555, NB555_524⟩ := sqM hg BK524
          replace BK524 := sqT BK524 hb
          obtain ⟨NB531_555, NB555_531⟩ := sqM hg BK531
          replace BK531 := sqT BK531 hb
          obtain ⟨NB538_555, NB555_538⟩ := sqM hg BK538
          replace BK538 := sqT BK538 hb
          obtain ⟨NB550_555, NB555_550⟩ := sqM hg BK550
          replace BK550 := sqT BK550 hb
          clear hb hbox hg
          refine hK.out _ _ ⟨(blk_cell BK531.out 0).trans rfl, (blk_cell BK531.out 1).trans rfl, (blk_cell BK531.out 2).trans rfl, (blk_cell BK524.out 0).trans rfl, (blk_cell BK524.out 1).trans rfl⟩ (fun hHeld => ?_)
          clear hK K
          refine sqN (some 11) ?_
          refine one_ (i := 4) (N := some 66) #[true, true, true, true, true, false, false, false, false, true, false, false] rfl rfl (one_of HT_.out (by kernel_rfl)) (by decide) (fun K hK => ?_)
          refine goes_ Tryz.func26 (by kernel_rfl) rfl #[.string t522] (by rfl) rfl rfl sqA ?_
          with_reducible refine (impl_BackOf.calls kj5 t522 t551 _ A50.out).mono ?_
          rintro e w162 ⟨rfl, hb⟩
          refine ⟨_, rfl, ?_⟩
          replace HO_524002 := Aside0.mk (Kd.Q_below (Z29 HO_524002) hb)
          replace HO_532002 := sqU HO_532002 hb
          replace HO_539002 := Aside0.mk (Kd.Q_below (Z29 HO_539002) hb)
          replace HO548 := sqU HO548 hb
          replace BK523 := sqT BK523 hb
          replace BK524 := sqT BK524 hb
          replace BK531 := sqT BK531 hb
          replace BK538 := sqT BK538 hb
          replace BK550 := sqT BK550 hb
          replace BK555 := sqT BK555 hb
          replace HB := Aside0.mk (below_step (Z89 GE523 GE524 GE531 GE538 GE550 GE555) hb)
          (try clear hb)
          (try clear hb2)
          (try clear hk)
          (try clear hi)
          refine hK.out _ _ ⟨(blk_cell BK531.out 0).trans rfl, (blk_cell BK531.out 1).trans rfl, (blk_cell BK531.out 2).trans rfl, (blk_cell BK524.out 0).trans rfl, (blk_cell BK524.out 1).trans rfl⟩ (fun hHeld => ?_)
          clear hK K
          refine sqN (some 66) ?_
          refine one_ (i := 5) (N := some 67) #[true, true, true, true, true, true, false, false, false, true, false, false] rfl rfl (one_of HT_.out (by kernel_rfl)) (by decide) (fun K hK => ?_)
          refine goes_ Tryz.func25 (by kernel_rfl) rfl #[.agg #[.int .i64 t525, .int .i64 t526], .string t551] (by rfl) rfl rfl sqA ?_
          with_reducible refine (impl_DancedFrom.calls kj5 t525 t526 t551 t552 t553 true _ A51.out).mono ?_
          rintro e w163 ⟨rfl, hb⟩
          refine ⟨_, rfl, ?_⟩
          replace HO_524002 := Aside0.mk (Kd.Q_below (Z29 HO_524002) hb)
          replace HO_532002 := sqU HO_532002 hb
          replace HO_539002 := Aside0.mk (Kd.Q_below (Z29 HO_539002) hb)
          replace HO548 := sqU HO548 hb
          replace BK523 := sqT BK523 hb
          replace BK524 := sqT BK524 hb
          replace BK531 := sqT BK531 hb
          replace BK538 := sqT BK538 hb
          replace BK550 := sqT BK550 hb
          replace BK555 := sqT BK555 hb
          replace HB := Aside0.mk (below_step (Z89 GE523 GE524 GE531 GE538 GE550 GE555) hb)
          (try clear hb)
          (try clear hb2)
          (try clear hk)
          (try clear hi)
          refine hK.out _ _ ⟨(blk_cell BK531.out 0).trans rfl, (blk_cell BK531.out 1).trans rfl, (blk_cell BK531.out 2).trans rfl, (blk_cell BK524.out 0).trans rfl, (blk_cell BK524.out 1).trans rfl⟩ (fun hHeld => ?_)
          clear hK K
          refine sqN (some 67) ?_
          refine sqP (i := 6) (N := some 61) (h := ?_)
          refine sqP (i := 7) (N := some 68) (h := ?_)
          refine sqP (i := 8) (N := some 69) (h := ?_)
          exact norm_ Z51 (hCont (gb555) _ ⟨hHeld, (Z86 HO548), (Z87 HO_524002), (Z88 HO_532002), (Z87 HO_539002), (sqK BK523), (sqK BK524), (sqK BK531), (sqK BK538), (sqK BK550), (sqK BK555), GW555.out, GE555.out, NB523_555.out, NB555_523.out, NB524_555.out, NB555_524.out, NB531_555.out, NB555_531.out, NB538_555.out, NB555_538.out, NB550_555.out, NB555_550.out, (Z89 GE523 GE524 GE531 GE538 GE550 GE555)⟩)
        rintro gb555 w164 ⟨hS_, h0_, h1_, h2_, h3_, h4_, h5_, h6_, h7_, h8_, h9_, h10_, h11_, h12_, h13_, h14_, h15_, h16_, h17_, h18_, h19_, h20_, h21_, h22_⟩
        replace HO548 := Aside0.mk h0_
        replace HO_524002 := Aside0.mk h1_
        replace HO_532002 := Aside0.mk h2_
        replace HO_539002 := Aside0.mk h3_
        replace BK523 := Aside0.mk h4_
        replace BK524 := Aside0.mk h5_
        replace BK531 := Aside0.mk h6_
        replace BK538 := Aside0.mk h7_
        replace BK550 := Aside0.mk h8_
        replace BK555 := Aside0.mk h9_
        replace GW555 := Aside0.mk h10_
        replace GE555 := Aside0.mk h11_
        replace NB523_555 := Aside0.mk h12_
        replace NB555_523 := Aside0.mk h13_
        replace NB524_555 := Aside0.mk h14_
        replace NB555_524 := Aside0.mk h15_
        replace NB531_555 := Aside0.mk h16_
        replace NB555_531 := Aside0.mk h17_
        replace NB538_555 := Aside0.mk h18_
        replace NB555_538 := Aside0.mk h19_
        replace NB550_555 := Aside0.mk h20_
        replace NB555_550 := Aside0.mk h21_
        replace HB := Aside0.mk h22_
        clear h0_ h1_ h2_ h3_ h4_ h5_ h6_ h7_ h8_ h9_ h10_ h11_ h12_ h13_ h14_ h15_ h16_ h17_ h18_ h19_ h20_ h21_ h22_
        have hHeld : w164.cell? ⟨gb531, 0, none⟩ = some (.int .i64 t525) ∧ w164.cell? ⟨gb531, 1, none⟩ = some (.int .i64 t526) ∧ w164.cell? ⟨gb531, 2, none⟩ = some (.slice Ao19 t527.length co19) ∧ w164.cell? ⟨gb524, 0, none⟩ = some (.int .i64 t521) ∧ w164.cell? ⟨gb524, 1, none⟩ = some (.string t522) := hS_
        refine norm_ (a' := ?_) ?_ ?_
        rotate_left
        ·simp only [putAll, Act.put, List.setIfInBounds_toArray, List.set_cons_zero, List.set_cons_succ]
         rfl
        refine one_ (i := 10) (N := none) #[true, true, true, true, true, true, true, true, true, true, true, false] rfl rfl (one_of HT_.out (by kernel_rfl)) (by decide) (fun K hK => ?_)
        have hs165 : w164.cell? ⟨gb555, 0, none⟩ = some (.int .i64 0) := (blk_cell BK555.out 0).trans rfl
        have hfs165 := blk_frozen BK555.out 0
        have hns165_0 := NB523_555.out
        have hns165_1 := NB524_555.out
        have hns165_2 := NB531_555.out
        have hns165_3 := NB538_555.out
        have hns165_4 := NB550_555.out
        have hms165_0 := NB555_523.out
        have hms165_1 := NB555_524.out
        have hms165_2 := NB555_531.out
        have hms165_3 := NB555_538.out
        have hms165_4 := NB555_550.out
        have hs166 : w164.cell? ⟨gb555, 1, none⟩ = some (.int .i64 0) := (blk_cell BK555.out 1).trans rfl
        have hfs166 := blk_frozen BK555.out 1
        have hns166_0 := NB523_555.out
        have hns166_1 := NB524_555.out
        have hns166_2 := NB531_555.out
        have hns166_3 := NB538_555.out
        have hns166_4 := NB550_555.out
        have hms166_0 := NB555_523.out
        have hms166_1 := NB555_524.out
        have hms166_2 := NB555_531.out
        have hms166_3 := NB555_538.out
        have hms166_4 := NB555_550.out
        refine skip_ (w1 := ?_) (by rfl) rfl ?_ ?_
        rotate_left
        ·go_simp
         rfl
        refine hK.out _ _ ⟨((cell_far (p := ⟨gb555, _, none⟩) NB531_555.out _).trans (((cell_far (p := ⟨gb555, _, none⟩) NB531_555.out _).trans (hHeld.1)))), ((cell_far (p := ⟨gb555, _, none⟩) NB531_555.out _).trans (((cell_far (p := ⟨gb555, _, none⟩) NB531_555.out _).trans (hHeld.2.1)))), ((cell_far (p := ⟨gb555, _, none⟩) NB531_555.out _).trans (((cell_far (p := ⟨gb555, _, none⟩) NB531_555.out _).trans (hHeld.2.2.1)))), ((cell_far (p := ⟨gb555, _, none⟩) NB524_555.out _).trans (((cell_far (p := ⟨gb555, _, none⟩) NB524_555.out _).trans (hHeld.2.2.2.1)))), ((cell_far (p := ⟨gb555, _, none⟩) NB524_555.out _).trans (((cell_far (p := ⟨gb555, _, none⟩) NB524_555.out _).trans (hHeld.2.2.2.2))))⟩ (fun hHeld => ?_)
        clear hK K
        refine sqP (i := 11) (N := some 12) (h := ?_)
        refine done_ (done_of HT_.out (by kernel_rfl)) ?_
        have hnb167 := NB531_555.out
        have hnc167 := NB555_531.out
        obtain ⟨hcz168_0, hcz168_1, hcz168_2, hfz168_0, hfz168_1, hfz168_2⟩ := sqY3 BK531
        try go_wp2_with (first | ((with_reducible refine gate_callee (f := 23) rfl ?_); refine goesL_ (some 71) rfl rfl Tryz.func23 (by kernel_rfl) rfl #[.agg #[.int .i64 t525, .int .i64 t526, .slice Ao19 t527.length co19]] rfl sqA ?_; (with_reducible refine (impl_DeskOk.calls kj5 t525 t526 _ _ t527 true _ ?side1 ?side2 A52.out).mono ?_); (case side1 => refine (Kd.R_reads' (e := 31) (base := w.heap.size) (ok := fun k_ => (some k_ ≠ (.slice Ao158 t546.length co158 : Value).ownBlock ∧ (some k_ ≠ (.slice Ao12 t518.length co12 : Value).ownBlock ∧ (some k_ ≠ (.slice Ao28 t534.length co28 : Value).ownBlock ∧ k_ ≠ gb555)))) (n := t527.length) (c := co19) ?_).2.2; exact (Z90 HO_532002)); (case side2 => exact Z31 HO_532002); rintro e w169 ⟨rfl, hb⟩; refine ⟨_, rfl, ?_⟩; replace HO_524002 := Aside0.mk (Kd.Q_below (Z91 HO_524002) hb); replace HO_532002 := Aside0.mk (Kd.R_below (Z90 HO_532002) hb); replace HO_539002 := Aside0.mk (Kd.Q_below (Z91 HO_539002) hb); replace HO548 := Aside0.mk (Kd.R_below (Z90 HO548) hb); replace BK523 := Aside0.mk (blk_below (g := gb523) (o := .cells #[.int .i64 t516, .int .i64 t517, .slice Ao12 t518.length co12] 34 (0, 0)) (Z14 NB523_555 BK523) hb); replace BK524 := Aside0.mk (blk_below (g := gb524) (o := .cells #[.int .i64 t521, .string t522] 38 (0, 0)) (Z14 NB524_555 BK524) hb); replace BK531 := Aside0.mk (blk_below (g := gb531) (o := .cells #[.int .i64 t525, .int .i64 t526, .slice Ao19 t527.length co19] 34 (0, 0)) (Z14 NB531_555 BK531) hb); replace BK538 := Aside0.mk (blk_below (g := gb538) (o := .cells #[.int .i64 t532, .int .i64 t533, .slice Ao28 t534.length co28] 34 (0, 0)) (Z14 NB538_555 BK538) hb); replace BK550 := Aside0.mk (blk_below (g := gb550) (o := .cells #[.int .i64 t544, .int .i64 t545, .slice Ao158 t546.length co158] 34 (0, 0)) (Z14 NB550_555 BK550) hb); replace BK555 := Aside0.mk (blk_below (g := gb555) (o := .cells #[.int .i64 t552, .int .i64 t553] 31 (0, 0)) (Z92 BK555) hb); replace HB := Aside0.mk (below_step (Z89 GE523 GE524 GE531 GE538 GE550 GE555) hb); (try clear hb); have hnb170 := NB524_523.out; have hnc170 := NB523_524.out; have hnb171 := NB524_538.out; have hnc171 := NB538_524.out; have hnb172 := NB524_555.out; have hnc172 := NB555_524.out; obtain ⟨hcz173_0, hcz173_1, hfz173_0, hfz173_1⟩ := sqY2 BK524; have hnb174 := NB523_538.out; have hnc174 := NB538_523.out; have hnb175 := NB523_555.out; have hnc175 := NB555_523.out; obtain ⟨hcz176_0, hcz176_1, hcz176_2, hfz176_0, hfz176_1, hfz176_2⟩ := sqY3 BK523; have hnb177 := NB555_538.out; have hnc177 := NB538_555.out; have hnb178 := NB555_550.out; have hnc178 := NB550_555.out; obtain ⟨hcz179_0, hcz179_1, hfz179_0, hfz179_1⟩ := sqY2 BK555))
        go_ret
        exact ⟨Z3, Z89 GE523 GE524 GE531 GE538 GE550 GE555⟩
       rw [if_neg c146] at H
       exact absurd (Option.some.inj H) Z93
      rw [if_neg c145] at H
      have c145b0 : (t521 == 0) = false := beq_eq_false_iff_ne.mpr c145
      have c145b1 : (t521 != 0) = true := bne_iff_ne.mpr c145
      obtain rfl := Option.some.inj H
      have hnb210 := NB531_523.out
      have hnc210 := NB523_531.out
      have hnb211 := NB531_524.out
      have hnc211 := NB524_531.out
      have hnb212 := NB531_538.out
      have hnc212 := NB538_531.out
      obtain ⟨hcz213_0, hcz213_1, hcz213_2, hfz213_0, hfz213_1, hfz213_2⟩ := sqY3 BK531
      try go_wp2_with (first | ((with_reducible refine gate_callee (f := 17) rfl ?_); refine goesL_ (some 58) rfl rfl Tryz.func17 (by kernel_rfl) rfl #[.agg #[.int .i64 t525, .int .i64 t526, .slice Ao19 t527.length co19], .agg #[.int .i64 4, .string (⟨#[]⟩ : ByteArray)]] rfl sqA ?_; (with_reducible refine (impl_DeskDo.calls kj5 t525 t526 _ _ t527 4 (⟨#[]⟩ : ByteArray) t544 t545 t546 t549 _ ?sideG ?side1 ?side2 A49.out).mono ?_); (case sideG => exact Glob.below hG (sqB4 HB GE523 GE524 GE531 GE538)); (case side1 => exact Z30 HO_532002); (case side2 => exact Z31 HO_532002); rintro e w214 ⟨v547, rfl, ho0, hb⟩; refine ⟨_, rfl, ?_⟩; have HO548 := Aside0.mk (Kd.R_lower (Kd.R_new' (Kd.R_new' (Kd.R_new' ho0 (Kd.Q_lt (Z29 HO_524002))) (Kd.R_lt (sqR HO_532002))) (Kd.Q_lt (Z29 HO_539002))) (below_size (sqB4 HB GE523 GE524 GE531 GE538))); replace HO_524002 := Aside0.mk (Kd.Q_elder' (Z29 HO_524002) (Kd.R_base ho0) hb); replace HO_532002 := Aside0.mk (Kd.R_elder' (sqR HO_532002) (Kd.R_base ho0) hb); replace HO_539002 := Aside0.mk (Kd.Q_elder' (Z29 HO_539002) (Kd.R_base ho0) hb); replace BK523 := sqT BK523 hb; replace BK524 := sqT BK524 hb; replace BK531 := sqT BK531 hb; replace BK538 := sqT BK538 hb; replace HB := sqS (sqB4 HB GE523 GE524 GE531 GE538) hb; (try clear hb); (try clear ho0)) | ((with_reducible refine gate_dst (N := 9) rfl ?_); (try (refine gate_guard (by rfl) ?_; dsimp only)); refine sqBox (N := 9) (cs := #[.int .i64 0, .int .i64 0, .slice none 0 0]) (t := 34) ?_; intro gb550 hg w215 BK550 hb; replace HO_524002 := Aside0.mk (Kd.Q_below (Z29 HO_524002) hb); replace HO_532002 := sqU HO_532002 hb; replace HO_539002 := Aside0.mk (Kd.Q_below (Z29 HO_539002) hb); replace HO548 := sqU HO548 hb; have GW550 := Aside0.mk ((sqG hg (sqB4 HB GE523 GE524 GE531 GE538))); have GE550 := GW550; replace HB := sqS (sqB4 HB GE523 GE524 GE531 GE538) hb; obtain ⟨NB523_550, NB550_523⟩ := sqM hg BK523; replace BK523 := sqT BK523 hb; obtain ⟨NB524_550, NB550_524⟩ := sqM hg BK524; replace BK524 := sqT BK524 hb; obtain ⟨NB531_550, NB550_531⟩ := sqM hg BK531; replace BK531 := sqT BK531 hb; obtain ⟨NB538_550, NB550_538⟩ := sqM hg BK538; replace BK538 := sqT BK538 hb; clear hb hg; have hnb216 := NB550_523.out; have hnc216 := NB523_550.out; have hnb217 := NB550_524.out; have hnc217 := NB524_550.out; have hnb218 := NB550_531.out; have hnc218 := NB531_550.out; have hnb219 := NB550_538.out; have hnc219 := NB538_550.out; obtain ⟨hcz220_0, hcz220_1, hcz220_2, hfz220_0, hfz220_1, hfz220_2⟩ := sqY3 BK550; obtain ⟨Ao221, co221, eo221⟩ := Kd.R_slice HO548.out; subst eo221))
      obtain ⟨w222, hw_⟩ : ∃ w_, ((w215.setCell ⟨gb550, 0, none⟩ (.int .i64 t544)).setCell ⟨gb550, 1, none⟩ (.int .i64 t545)).setCell ⟨gb550, 2, none⟩ (.slice Ao221 t546.length co221) = w_ := ⟨_, rfl⟩
      replace HO_524002 : Aside0 (Kd.Q k31 31 w222 w.heap.size (fun k_ => some k_ ≠ (.slice Ao19 t527.length co19 : Value).ownBlock ∧ some k_ ≠ (.slice Ao28 t534.length co28 : Value).ownBlock ∧ some k_ ≠ (.slice Ao221 t546.length co221 : Value).ownBlock) (.slice Ao12 t518.length co12) t518) := by rw [← hw_]; exact ⟨Z96 HO_524002 BK550⟩
      replace HO_532002 : Aside0 (Kd.R k31 31 w222 w.heap.size (fun k_ => some k_ ≠ (.slice Ao12 t518.length co12 : Value).ownBlock ∧ some k_ ≠ (.slice Ao28 t534.length co28 : Value).ownBlock ∧ some k_ ≠ (.slice Ao221 t546.length co221 : Value).ownBlock) (.slice Ao19 t527.length co19) t527) := by rw [← hw_]; exact ⟨by (with_reducible repeat (first | apply Kd.R_alloc | apply Kd.R_drewN | apply Kd.R_drew)); exact Kd.R_mono (Kd.R_far (p := ⟨gb550, 2, none⟩) (Kd.R_far (p := ⟨gb550, 1, none⟩) (Kd.R_far (p := ⟨gb550, 0, none⟩) (Kd.R_types HO_532002.out BK550.out (by decide)) (fun _ hk => hk.2) (.int .i64 t544)) (fun _ hk => hk.2) (.int .i64 t545)) (fun _ hk => hk.2) (.slice Ao221 t546.length co221)) (fun _ hk => ⟨hk.1.1.1, ⟨hk.1.1.2, hk.1.2⟩⟩)⟩
      replace HO_539002 : Aside0 (Kd.Q k31 31 w222 w.heap.size (fun k_ => some k_ ≠ (.slice Ao12 t518.length co12 : Value).ownBlock ∧ some k_ ≠ (.slice Ao19 t527.length co19 : Value).ownBlock ∧ some k_ ≠ (.slice Ao221 t546.length co221 : Value).ownBlock) (.slice Ao28 t534.length co28) t534) := by rw [← hw_]; exact ⟨Z96 HO_539002 BK550⟩
      replace HO548 : Aside0 (Kd.R k31 31 w222 w.heap.size (fun k_ => some k_ ≠ (.slice Ao12 t518.length co12 : Value).ownBlock ∧ some k_ ≠ (.slice Ao19 t527.length co19 : Value).ownBlock ∧ some k_ ≠ (.slice Ao28 t534.length co28 : Value).ownBlock) (.slice Ao221 t546.length co221) t546) := by rw [← hw_]; exact ⟨by (with_reducible repeat (first | apply Kd.R_alloc | apply Kd.R_drewN | apply Kd.R_drew)); exact Kd.R_mono (Kd.R_far (p := ⟨gb550, 2, none⟩) (Kd.R_far (p := ⟨gb550, 1, none⟩) (Kd.R_far (p := ⟨gb550, 0, none⟩) (Kd.R_types HO548.out BK550.out (by decide)) (fun _ hk => hk.2) (.int .i64 t544)) (fun _ hk => hk.2) (.int .i64 t545)) (fun _ hk => hk.2) (.slice Ao221 t546.length co221)) (fun _ hk => ⟨hk.1.1.1.2, ⟨hk.1.1.2, hk.1.2⟩⟩)⟩
      replace BK523 : Aside0 (w222.heap[gb523]? = some (.cells #[.int .i64 t516, .int .i64 t517, .slice Ao12 t518.length co12] 34 (0, 0))) := by rw [← hw_]; exact ⟨Z20 NB523_550 BK523⟩
      replace BK524 : Aside0 (w222.heap[gb524]? = some (.cells #[.int .i64 t521, .string t522] 38 (0, 0))) := by rw [← hw_]; exact ⟨Z20 NB524_550 BK524⟩
      replace BK531 : Aside0 (w222.heap[gb531]? = some (.cells #[.int .i64 t525, .int .i64 t526, .slice Ao19 t527.length co19] 34 (0, 0))) := by rw [← hw_]; exact ⟨Z20 NB531_550 BK531⟩
      replace BK538 : Aside0 (w222.heap[gb538]? = some (.cells #[.int .i64 t532, .int .i64 t533, .slice Ao28 t534.length co28] 34 (0, 0))) := by rw [← hw_]; exact ⟨Z20 NB538_550 BK538⟩
      replace BK550 : Aside0 (w222.heap[gb550]? = some (.cells #[.int .i64 t544, .int .i64 t545, .slice Ao221 t546.length co221] 34 (0, 0))) := by rw [← hw_]; exact ⟨Z85 BK550⟩
      replace HB : Aside0 (Below w.heap.size w w222) := by rw [← hw_]; exact ⟨Z26 GE523 GE524 GE531 GE538 GE550⟩
      rw [hw_]; clear hw_
      replace HO_524002 := Aside0.mk (Kd.Q_drew HO_524002.out)
      replace HO_532002 := Aside0.mk (Kd.R_drew HO_532002.out)
      replace HO_539002 := Aside0.mk (Kd.Q_drew HO_539002.out)
      replace HO548 := Aside0.mk (Kd.R_drew HO548.out)
      replace BK523 := Aside0.mk (blk_drew BK523.out)
      replace BK524 := Aside0.mk (blk_drew BK524.out)
      replace BK531 := Aside0.mk (blk_drew BK531.out)
      replace BK538 := Aside0.mk (blk_drew BK538.out)
      replace BK550 := Aside0.mk (blk_drew BK550.out)
      replace HB := Aside0.mk (below_drew1 HB.out)
      refine start_ (n := 12) (S := fun w' => w'.cell? ⟨gb531, 0, none⟩ = some (.int .i64 t525) ∧ w'.cell? ⟨gb531, 1, none⟩ = some (.int .i64 t526) ∧ w'.cell? ⟨gb531, 2, none⟩ = some (.slice Ao19 t527.length co19) ∧ w'.cell? ⟨gb524, 0, none⟩ = some (.int .i64 t521) ∧ w'.cell? ⟨gb524, 1, none⟩ = some (.string t522)) (ds := []) #[false, false, false, false, false, false, false, false, false, false, false, false] (by kernel_rfl) rfl rfl ⟨(blk_cell BK531.out 0).trans rfl, (blk_cell BK531.out 1).trans rfl, (blk_cell BK531.out 2).trans rfl, (blk_cell BK524.out 0).trans rfl, (blk_cell BK524.out 1).trans rfl⟩ (fun hHeld => ?_); refine with_tabW laws_FnDeskDo.tab11 laws_FnDeskDo.bits11 (fun HT_ HW_ => ?_)
      generalize w222.drew = w223 at HO_524002 HO_532002 HO_539002 HO548 BK523 BK524 BK531 BK538 BK550 HB hHeld ⊢
      refine sqP (i := 0) (N := some 62) (h := ?_)
      refine sqP (i := 2) (N := some 64) (h := ?_)
      refine sqQ (i := 1) (N := some 63) hHeld (h := ?_)
      refine sqQ (i := 3) (N := some 65) hHeld (h := ?_)
      refine join_ (σ := Nat) 2 #[true, true, true, true, true, true, true, true, true, true, false, false] (fun s_ => [(66, .string t551), (67, .tuple #[.agg #[.int .i64 t552, .int .i64 t553], .bool t554]), (11, .pointer (some ⟨s_, 0, none⟩)), (61, .tuple #[.agg #[.int .i64 t552, .int .i64 t553], .bool t554]), (68, .agg #[.int .i64 t552, .int .i64 t553]), (69, .bool t554)]) (fun s_ w' => (w'.cell? ⟨gb531, 0, none⟩ = some (.int .i64 t525) ∧ w'.cell? ⟨gb531, 1, none⟩ = some (.int .i64 t526) ∧ w'.cell? ⟨gb531, 2, none⟩ = some (.slice Ao19 t527.length co19) ∧ w'.cell? ⟨gb524, 0, none⟩ = some (.int .i64 t521) ∧ w'.cell? ⟨gb524, 1, none⟩ = some (.string t522)) ∧ (Kd.R k31 31 w' w.heap.size (fun k_ => some k_ ≠ (.slice Ao12 t518.length co12 : Value).ownBlock ∧ some k_ ≠ (.slice Ao19 t527.length co19 : Value).ownBlock ∧ some k_ ≠ (.slice Ao28 t534.length co28 : Value).ownBlock ∧ k_ ≠ s_) (.slice Ao221 t546.length co221) t546) ∧ (Kd.Q k31 31 w' w.heap.size (fun k_ => some k_ ≠ (.slice Ao221 t546.length co221 : Value).ownBlock ∧ some k_ ≠ (.slice Ao19 t527.length co19 : Value).ownBlock ∧ some k_ ≠ (.slice Ao28 t534.length co28 : Value).ownBlock ∧ k_ ≠ s_) (.slice Ao12 t518.length co12) t518) ∧ (Kd.R k31 31 w' w.heap.size (fun k_ => some k_ ≠ (.slice Ao221 t546.length co221 : Value).ownBlock ∧ some k_ ≠ (.slice Ao12 t518.length co12 : Value).ownBlock ∧ some k_ ≠ (.slice Ao28 t534.length co28 : Value).ownBlock ∧ k_ ≠ s_) (.slice Ao19 t527.length co19) t527) ∧ (Kd.Q k31 31 w' w.heap.size (fun k_ => some k_ ≠ (.slice Ao221 t546.length co221 : Value).ownBlock ∧ some k_ ≠ (.slice Ao12 t518.length co12 : Value).ownBlock ∧ some k_ ≠ (.slice Ao19 t527.length co19 : Value).ownBlock ∧ k_ ≠ s_) (.slice Ao28 t534.length co28) t534) ∧ (w'.heap[gb523]? = some (.cells #[.int .i64 t516, .int .i64 t517, .slice Ao12 t518.length co12] 34 (0, 0))) ∧ (w'.heap[gb524]? = some (.cells #[.int .i64 t521, .string t522] 38 (0, 0))) ∧ (w'.heap[gb531]? = some (.cells #[.int .i64 t525, .int .i64 t526, .slice Ao19 t527.length co19] 34 (0, 0))) ∧ (w'.heap[gb538]? = some (.cells #[.int .i64 t532, .int .i64 t533, .slice Ao28 t534.length co28] 34 (0, 0))) ∧ (w'.heap[gb550]? = some (.cells #[.int .i64 t544, .int .i64 t545, .slice Ao221 t546.length co221] 34 (0, 0))) ∧ (w'.heap[s_]? = some (.cells #[.int .i64 0, .int .i64 0] 31 (0, 0))) ∧ (w.heap.size ≤ s_) ∧ (w.heap.size ≤ s_) ∧ (gb523 ≠ s_) ∧ (s_ ≠ gb523) ∧ (gb524 ≠ s_) ∧ (s_ ≠ gb524) ∧ (gb531 ≠ s_) ∧ (s_ ≠ gb531) ∧ (gb538 ≠ s_) ∧ (s_ ≠ gb538) ∧ (gb550 ≠ s_) ∧ (s_ ≠ gb550) ∧ (Below w.heap.size w w')) ?_ ?_
      rotate_left
      ·intro hCont
       refine two_ (i := 4) (j := 9) (Ni := some 66) (Nj := some 11) #[true, true, true, true, true, false, false, false, false, false, false, false] #[true, true, true, true, false, false, false, false, false, true, false, false] rfl rfl rfl rfl (two_of HT_.out (by kernel_rfl)) (by decide) (by decide) (fun K hK => ?_) (fun K hK => ?_)
       ·skip
        refine goes_ Tryz.func26 (by kernel_rfl) rfl #[.string t522] (by rfl) rfl rfl sqA ?_
        with_reducible refine (impl_BackOf.calls kj5 t522 t551 _ A50.out).mono ?_
        rintro e w224 ⟨rfl, hb⟩
        refine ⟨_, rfl, ?_⟩
        replace HO_524002 := Aside0.mk (Kd.Q_below (Z29 HO_524002) hb)
        replace HO_532002 := sqU HO_532002 hb
        replace HO_539002 := Aside0.mk (Kd.Q_below (Z29 HO_539002) hb)
        replace HO548 := sqU HO548 hb
        replace BK523 := sqT BK523 hb
        replace BK524 := sqT BK524 hb
        replace BK531 := sqT BK531 hb
        replace BK538 := sqT BK538 hb
        replace BK550 := sqT BK550 hb
        replace HB := Aside0.mk (below_step (Z26 GE523 GE524 GE531 GE538 GE550) hb)
        (try clear hb)
        (try clear hb2)
        (try clear hk)
        (try clear hi)
        refine hK.out _ _ ⟨(blk_cell BK531.out 0).trans rfl, (blk_cell BK531.out 1).trans rfl, (blk_cell BK531.out 2).trans rfl, (blk_cell BK524.out 0).trans rfl, (blk_cell BK524.out 1).trans rfl⟩ (fun hHeld => ?_)
        clear hK K
        refine sqN (some 66) ?_
        refine two_ (i := 5) (j := 9) (Ni := some 67) (Nj := some 11) #[true, true, true, true, true, true, false, false, false, false, false, false] #[true, true, true, true, true, false, false, false, false, true, false, false] rfl rfl rfl rfl (two_of HT_.out (by kernel_rfl)) (by decide) (by decide) (fun K hK => ?_) (fun K hK => ?_)
        ·skip
         refine goes_ Tryz.func25 (by kernel_rfl) rfl #[.agg #[.int .i64 t525, .int .i64 t526], .string t551] (by rfl) rfl rfl sqA ?_
         with_reducible refine (impl_DancedFrom.calls kj5 t525 t526 t551 t552 t553 t554 _ A51.out).mono ?_
         rintro e w225 ⟨rfl, hb⟩
         refine ⟨_, rfl, ?_⟩
         replace HO_524002 := Aside0.mk (Kd.Q_below (Z29 HO_524002) hb)
         replace HO_532002 := sqU HO_532002 hb
         replace HO_539002 := Aside0.mk (Kd.Q_below (Z29 HO_539002) hb)
         replace HO548 := sqU HO548 hb
         replace BK523 := sqT BK523 hb
         replace BK524 := sqT BK524 hb
         replace BK531 := sqT BK531 hb
         replace BK538 := sqT BK538 hb
         replace BK550 := sqT BK550 hb
         replace HB := Aside0.mk (below_step (Z26 GE523 GE524 GE531 GE538 GE550) hb)
         (try clear hb)
         (try clear hb2)
         (try clear hk)
         (try clear hi)
         refine hK.out _ _ ⟨(blk_cell BK531.out 0).trans rfl, (blk_cell BK531.out 1).trans rfl, (blk_cell BK531.out 2).trans rfl, (blk_cell BK524.out 0).trans rfl, (blk_cell BK524.out 1).trans rfl⟩ (fun hHeld => ?_)
         clear hK K
         refine sqN (some 67) ?_
         refine sqP (i := 6) (N := some 61) (h := ?_)
         refine sqP (i := 7) (N := some 68) (h := ?_)
         refine sqP (i := 8) (N := some 69) (h := ?_)
         refine one_ (i := 9) (N := some 11) #[true, true, true, true, true, true, true, true, true, true, false, false] rfl rfl (one_of HT_.out (by kernel_rfl)) (by decide) (fun K hK => ?_)
         refine box_step ?hg (N := 11) ?hd (cs := #[.int .i64 0, .int .i64 0]) (t := 31) ?hr ?_; (case hd => rfl); (case hg => rfl); (case hr => exact Z7)
         intro gb555 hg w226 hbox hb
         replace HO_524002 := Aside0.mk (Kd.Q_below (Kd.Q_elderB (Z29 HO_524002) gb555 (Nat.le_of_eq hg.symm)) hb)
         replace HO_532002 := Aside0.mk (Kd.R_below (Kd.R_elderB (sqR HO_532002) gb555 (Nat.le_of_eq hg.symm)) hb)
         replace HO_539002 := Aside0.mk (Kd.Q_below (Kd.Q_elderB (Z29 HO_539002) gb555 (Nat.le_of_eq hg.symm)) hb)
         replace HO548 := Aside0.mk (Kd.R_below (Kd.R_elderB (sqR HO548) gb555 (Nat.le_of_eq hg.symm)) hb)
         have BK555 := Aside0.mk (hbox)
         have GW555 := Aside0.mk ((Z115 GE523 GE524 GE531 GE538 GE550 : w.heap.size ≤ gb555))
         have GE555 := Aside0.mk ((Z115 GE523 GE524 GE531 GE538 GE550 : w.heap.size ≤ gb555))
         replace HB := Aside0.mk (below_step (Z26 GE523 GE524 GE531 GE538 GE550) hb)
         obtain ⟨NB523_555, NB555_523⟩ := sqM hg BK523
         replace BK523 := sqT BK523 hb
         obtain ⟨NB524_555, NB555_524⟩ := sqM hg BK524
         replace BK524 := sqT BK524 hb
         obtain ⟨NB531_555, NB555_531⟩ := sqM hg BK531
         replace BK531 := sqT BK531 hb
         obtain ⟨NB538_555, NB555_538⟩ := sqM hg BK538
         replace BK538 := sqT BK538 hb
         obtain ⟨NB550_555, NB555_550⟩ := sqM hg BK550
         replace BK550 := sqT BK550 hb
         clear hb hbox hg
         refine hK.out _ _ ⟨(blk_cell BK531.out 0).trans rfl, (blk_cell BK531.out 1).trans rfl, (blk_cell BK531.out 2).trans rfl, (blk_cell BK524.out 0).trans rfl, (blk_cell BK524.out 1).trans rfl⟩ (fun hHeld => ?_)
         clear hK K
         refine sqN (some 11) ?_
         exact norm_ Z51 (hCont (gb555) _ ⟨hHeld, (Z86 HO548), (Z87 HO_524002), (Z88 HO_532002), (Z87 HO_539002), (sqK BK523), (sqK BK524), (sqK BK531), (sqK BK538), (sqK BK550), (sqK BK555), GW555.out, GE555.out, NB523_555.out, NB555_523.out, NB524_555.out, NB555_524.out, NB531_555.out, NB555_531.out, NB538_555.out, NB555_538.out, NB550_555.out, NB555_550.out, (Z89 GE523 GE524 GE531 GE538 GE550 GE555)⟩)
        ·skip
         refine box_step ?hg (N := 11) ?hd (cs := #[.int .i64 0, .int .i64 0]) (t := 31) ?hr ?_; (case hd => rfl); (case hg => rfl); (case hr => exact Z7)
         intro gb555 hg w225 hbox hb
         replace HO_524002 := Aside0.mk (Kd.Q_below (Kd.Q_elderB (Z29 HO_524002) gb555 (Nat.le_of_eq hg.symm)) hb)
         replace HO_532002 := Aside0.mk (Kd.R_below (Kd.R_elderB (sqR HO_532002) gb555 (Nat.le_of_eq hg.symm)) hb)
         replace HO_539002 := Aside0.mk (Kd.Q_below (Kd.Q_elderB (Z29 HO_539002) gb555 (Nat.le_of_eq hg.symm)) hb)
         replace HO548 := Aside0.mk (Kd.R_below (Kd.R_elderB (sqR HO548) gb555 (Nat.le_of_eq hg.symm)) hb)
         have BK555 := Aside0.mk (hbox)
         have GW555 := Aside0.mk ((Z115 GE523 GE524 GE531 GE538 GE550 : w.heap.size ≤ gb555))
         have GE555 := Aside0.mk ((Z115 GE523 GE524 GE531 GE538 GE550 : w.heap.size ≤ gb555))
         replace HB := Aside0.mk (below_step (Z26 GE523 GE524 GE531 GE538 GE550) hb)
         obtain ⟨NB523_555, NB555_523⟩ := sqM hg BK523
         replace BK523 := sqT BK523 hb
         obtain ⟨NB524_555, NB555_524⟩ := sqM hg BK524
         replace BK524 := sqT BK524 hb
         obtain ⟨NB531_555, NB555_531⟩ := sqM hg BK531
         replace BK531 := sqT BK531 hb
         obtain ⟨NB538_555, NB555_538⟩ := sqM hg BK538
         replace BK538 := sqT BK538 hb
         obtain ⟨NB550_555, NB555_550⟩ := sqM hg BK550
         replace BK550 := sqT BK550 hb
         clear hb hbox hg
         refine hK.out _ _ ⟨(blk_cell BK531.out 0).trans rfl, (blk_cell BK531.out 1).trans rfl, (blk_cell BK531.out 2).trans rfl, (blk_cell BK524.out 0).trans rfl, (blk_cell BK524.out 1).trans rfl⟩ (fun hHeld => ?_)
         clear hK K
         refine sqN (some 11) ?_
         refine one_ (i := 5) (N := some 67) #[true, true, true, true, true, true, false, false, false, true, false, false] rfl rfl (one_of HT_.out (by kernel_rfl)) (by decide) (fun K hK => ?_)
         refine goes_ Tryz.func25 (by kernel_rfl) rfl #[.agg #[.int .i64 t525, .int .i64 t526], .string t551] (by rfl) rfl rfl sqA ?_
         with_reducible refine (impl_DancedFrom.calls kj5 t525 t526 t551 t552 t553 t554 _ A51.out).mono ?_
         rintro e w226 ⟨rfl, hb⟩
         refine ⟨_, rfl, ?_⟩
         replace HO_524002 := Aside0.mk (Kd.Q_below (Z29 HO_524002) hb)
         replace HO_532002 := sqU HO_532002 hb
         replace HO_539002 := Aside0.mk (Kd.Q_below (Z29 HO_539002) hb)
         replace HO548 := sqU HO548 hb
         replace BK523 := sqT BK523 hb
         replace BK524 := sqT BK524 hb
         replace BK531 := sqT BK531 hb
         replace BK538 := sqT BK538 hb
         replace BK550 := sqT BK550 hb
         replace BK555 := sqT BK555 hb
         replace HB := Aside0.mk (below_step (Z89 GE523 GE524 GE531 GE538 GE550 GE555) hb)
         (try clear hb)
         (try clear hb2)
         (try clear hk)
         (try clear hi)
         refine hK.out _ _ ⟨(blk_cell BK531.out 0).trans rfl, (blk_cell BK531.out 1).trans rfl, (blk_cell BK531.out 2).trans rfl, (blk_cell BK524.out 0).trans rfl, (blk_cell BK524.out 1).trans rfl⟩ (fun hHeld => ?_)
         clear hK K
         refine sqN (some 67) ?_
         refine sqP (i := 6) (N := some 61) (h := ?_)
         refine sqP (i := 7) (N := some 68) (h := ?_)
         refine sqP (i := 8) (N := some 69) (h := ?_)
         exact norm_ Z51 (hCont (gb555) _ ⟨hHeld, (Z86 HO548), (Z87 HO_524002), (Z88 HO_532002), (Z87 HO_539002), (sqK BK523), (sqK BK524), (sqK BK531), (sqK BK538), (sqK BK550), (sqK BK555), GW555.out, GE555.out, NB523_555.out, NB555_523.out, NB524_555.out, NB555_524.out, NB531_555.out, NB555_531.out, NB538_555.out, NB555_538.out, NB550_555.out, NB555_550.out, (Z89 GE523 GE524 GE531 GE538 GE550 GE555)⟩)
       ·skip
        refine box_step ?hg (N := 11) ?hd (cs := #[.int .i64 0, .int .i64 0]) (t := 31) ?hr ?_; (case hd => rfl); (case hg => rfl); (case hr => exact Z7)
        intro gb555 hg w224 hbox hb
        replace HO_524002 := Aside0.mk (Kd.Q_below (Kd.Q_elderB (Z29 HO_524002) gb555 (Nat.le_of_eq hg.symm)) hb)
        replace HO_532002 := Aside0.mk (Kd.R_below (Kd.R_elderB (sqR HO_532002) gb555 (Nat.le_of_eq hg.symm)) hb)
        replace HO_539002 := Aside0.mk (Kd.Q_below (Kd.Q_elderB (Z29 HO_539002) gb555 (Nat.le_of_eq hg.symm)) hb)
        replace HO548 := Aside0.mk (Kd.R_below (Kd.R_elderB (sqR HO548) gb555 (Nat.le_of_eq hg.symm)) hb)
        have BK555 := Aside0.mk (hbox)
        have GW555 := Aside0.mk ((Z115 GE523 GE524 GE531 GE538 GE550 : w.heap.size ≤ gb555))
        have GE555 := Aside0.mk ((Z115 GE523 GE524 GE531 GE538 GE550 : w.heap.size ≤ gb555))
        replace HB := Aside0.mk (below_step (Z26 GE523 GE524 GE531 GE538 GE550) hb)
        obtain ⟨NB523_555, NB555_523⟩ := sqM hg BK523
        replace BK523 := sqT BK523 hb
        obtain ⟨NB524_555, NB555_524⟩ := sqM hg BK524
        replace BK524 := sqT BK524 hb
        obtain ⟨NB531_555, NB555_531⟩ := sqM hg BK531
        replace BK531 := sqT BK531 hb
        obtain ⟨NB538_555, NB555_538⟩ := sqM hg BK538
        replace BK538 := sqT BK538 hb
        obtain ⟨NB550_555, NB555_550⟩ := sqM hg BK550
        replace BK550 := sqT BK550 hb
        clear hb hbox hg
        refine hK.out _ _ ⟨(blk_cell BK531.out 0).trans rfl, (blk_cell BK531.out 1).trans rfl, (blk_cell BK531.out 2).trans rfl, (blk_cell BK524.out 0).trans rfl, (blk_cell BK524.out 1).trans rfl⟩ (fun hHeld => ?_)
        clear hK K
        refine sqN (some 11) ?_
        refine one_ (i := 4) (N := some 66) #[true, true, true, true, true, false, false, false, false, true, false, false] rfl rfl (one_of HT_.out (by kernel_rfl)) (by decide) (fun K hK => ?_)
        refine goes_ Tryz.func26 (by kernel_rfl) rfl #[.string t522] (by rfl) rfl rfl sqA ?_
        with_reducible refine (impl_BackOf.calls kj5 t522 t551 _ A50.out).mono ?_
        rintro e w225 ⟨rfl, hb⟩
        refine ⟨_, rfl, ?_⟩
        replace HO_524002 := Aside0.mk (Kd.Q_below (Z29 HO_524002) hb)
        replace HO_532002 := sqU HO_532002 hb
        replace HO_539002 := Aside0.mk (Kd.Q_below (Z29 HO_539002) hb)
        replace HO548 := sqU HO548 hb
        replace BK523 := sqT BK523 hb
        replace BK524 := sqT BK524 hb
        replace BK531 := sqT BK531 hb
        replace BK538 := sqT BK538 hb
        replace BK550 := sqT BK550 hb
        replace BK555 := sqT BK555 hb
        replace HB := Aside0.mk (below_step (Z89 GE523 GE524 GE531 GE538 GE550 GE555) hb)
        (try clear hb)
        (try clear hb2)
        (try clear hk)
        (try clear hi)
        refine hK.out _ _ ⟨(blk_cell BK531.out 0).trans rfl, (blk_cell BK531.out 1).trans rfl, (blk_cell BK531.out 2).trans rfl, (blk_cell BK524.out 0).trans rfl, (blk_cell BK524.out 1).trans rfl⟩ (fun hHeld => ?_)
        clear hK K
        refine sqN (some 66) ?_
        refine one_ (i := 5) (N := some 67) #[true, true, true, true, true, true, false, false, false, true, false, false] rfl rfl (one_of HT_.out (by kernel_rfl)) (by decide) (fun K hK => ?_)
        refine goes_ Tryz.func25 (by kernel_rfl) rfl #[.agg #[.int .i64 t525, .int .i64 t526], .string t551] (by rfl) rfl rfl sqA ?_
        with_reducible refine (impl_DancedFrom.calls kj5 t525 t526 t551 t552 t553 t554 _ A51.out).mono ?_
        rintro e w226 ⟨rfl, hb⟩
        refine ⟨_, rfl, ?_⟩
        replace HO_524002 := Aside0.mk (Kd.Q_below (Z29 HO_524002) hb)
        replace HO_532002 := sqU HO_532002 hb
        replace HO_539002 := Aside0.mk (Kd.Q_below (Z29 HO_539002) hb)
        replace HO548 := sqU HO548 hb
        replace BK523 := sqT BK523 hb
        replace BK524 := sqT BK524 hb
        replace BK531 := sqT BK531 hb
        replace BK538 := sqT BK538 hb
        replace BK550 := sqT BK550 hb
        replace BK555 := sqT BK555 hb
        replace HB := Aside0.mk (below_step (Z89 GE523 GE524 GE531 GE538 GE550 GE555) hb)
        (try clear hb)
        (try clear hb2)
        (try clear hk)
        (try clear hi)
        refine hK.out _ _ ⟨(blk_cell BK531.out 0).trans rfl, (blk_cell BK531.out 1).trans rfl, (blk_cell BK531.out 2).trans rfl, (blk_cell BK524.out 0).trans rfl, (blk_cell BK524.out 1).trans rfl⟩ (fun hHeld => ?_)
        clear hK K
        refine sqN (some 67) ?_
        refine sqP (i := 6) (N := some 61) (h := ?_)
        refine sqP (i := 7) (N := some 68) (h := ?_)
        refine sqP (i := 8) (N := some 69) (h := ?_)
        exact norm_ Z51 (hCont (gb555) _ ⟨hHeld, (Z86 HO548), (Z87 HO_524002), (Z88 HO_532002), (Z87 HO_539002), (sqK BK523), (sqK BK524), (sqK BK531), (sqK BK538), (sqK BK550), (sqK BK555), GW555.out, GE555.out, NB523_555.out, NB555_523.out, NB524_555.out, NB555_524.out, NB531_555.out, NB555_531.out, NB538_555.out, NB555_538.out, NB550_555.out, NB555_550.out, (Z89 GE523 GE524 GE531 GE538 GE550 GE555)⟩)
      rintro gb555 w227 ⟨hS_, h0_, h1_, h2_, h3_, h4_, h5_, h6_, h7_, h8_, h9_, h10_, h11_, h12_, h13_, h14_, h15_, h16_, h17_, h18_, h19_, h20_, h21_, h22_⟩
      replace HO548 := Aside0.mk h0_
      replace HO_524002 := Aside0.mk h1_
      replace HO_532002 := Aside0.mk h2_
      replace HO_539002 := Aside0.mk h3_
      replace BK523 := Aside0.mk h4_
      replace BK524 := Aside0.mk h5_
      replace BK531 := Aside0.mk h6_
      replace BK538 := Aside0.mk h7_
      replace BK550 := Aside0.mk h8_
      replace BK555 := Aside0.mk h9_
      replace GW555 := Aside0.mk h10_
      replace GE555 := Aside0.mk h11_
      replace NB523_555 := Aside0.mk h12_
      replace NB555_523 := Aside0.mk h13_
      replace NB524_555 := Aside0.mk h14_
      replace NB555_524 := Aside0.mk h15_
      replace NB531_555 := Aside0.mk h16_
      replace NB555_531 := Aside0.mk h17_
      replace NB538_555 := Aside0.mk h18_
      replace NB555_538 := Aside0.mk h19_
      replace NB550_555 := Aside0.mk h20_
      replace NB555_550 := Aside0.mk h21_
      replace HB := Aside0.mk h22_
      clear h0_ h1_ h2_ h3_ h4_ h5_ h6_ h7_ h8_ h9_ h10_ h11_ h12_ h13_ h14_ h15_ h16_ h17_ h18_ h19_ h20_ h21_ h22_
      have hHeld : w227.cell? ⟨gb531, 0, none⟩ = some (.int .i64 t525) ∧ w227.cell? ⟨gb531, 1, none⟩ = some (.int .i64 t526) ∧ w227.cell? ⟨gb531, 2, none⟩ = some (.slice Ao19 t527.length co19) ∧ w227.cell? ⟨gb524, 0, none⟩ = some (.int .i64 t521) ∧ w227.cell? ⟨gb524, 1, none⟩ = some (.string t522) := hS_
      refine norm_ (a' := ?_) ?_ ?_
      rotate_left
      ·simp only [putAll, Act.put, List.setIfInBounds_toArray, List.set_cons_zero, List.set_cons_succ]
       rfl
      refine one_ (i := 10) (N := none) #[true, true, true, true, true, true, true, true, true, true, true, false] rfl rfl (one_of HT_.out (by kernel_rfl)) (by decide) (fun K hK => ?_)
      have hs228 : w227.cell? ⟨gb555, 0, none⟩ = some (.int .i64 0) := (blk_cell BK555.out 0).trans rfl
      have hfs228 := blk_frozen BK555.out 0
      have hns228_0 := NB523_555.out
      have hns228_1 := NB524_555.out
      have hns228_2 := NB531_555.out
      have hns228_3 := NB538_555.out
      have hns228_4 := NB550_555.out
      have hms228_0 := NB555_523.out
      have hms228_1 := NB555_524.out
      have hms228_2 := NB555_531.out
      have hms228_3 := NB555_538.out
      have hms228_4 := NB555_550.out
      have hs229 : w227.cell? ⟨gb555, 1, none⟩ = some (.int .i64 0) := (blk_cell BK555.out 1).trans rfl
      have hfs229 := blk_frozen BK555.out 1
      have hns229_0 := NB523_555.out
      have hns229_1 := NB524_555.out
      have hns229_2 := NB531_555.out
      have hns229_3 := NB538_555.out
      have hns229_4 := NB550_555.out
      have hms229_0 := NB555_523.out
      have hms229_1 := NB555_524.out
      have hms229_2 := NB555_531.out
      have hms229_3 := NB555_538.out
      have hms229_4 := NB555_550.out
      refine skip_ (w1 := ?_) (by rfl) rfl ?_ ?_
      rotate_left
      ·go_simp
       rfl
      refine hK.out _ _ ⟨((cell_far (p := ⟨gb555, _, none⟩) NB531_555.out _).trans (((cell_far (p := ⟨gb555, _, none⟩) NB531_555.out _).trans (hHeld.1)))), ((cell_far (p := ⟨gb555, _, none⟩) NB531_555.out _).trans (((cell_far (p := ⟨gb555, _, none⟩) NB531_555.out _).trans (hHeld.2.1)))), ((cell_far (p := ⟨gb555, _, none⟩) NB531_555.out _).trans (((cell_far (p := ⟨gb555, _, none⟩) NB531_555.out _).trans (hHeld.2.2.1)))), ((cell_far (p := ⟨gb555, _, none⟩) NB524_555.out _).trans (((cell_far (p := ⟨gb555, _, none⟩) NB524_555.out _).trans (hHeld.2.2.2.1)))), ((cell_far (p := ⟨gb555, _, none⟩) NB524_555.out _).trans (((cell_far (p := ⟨gb555, _, none⟩) NB524_555.out _).trans (hHeld.2.2.2.2))))⟩ (fun hHeld => ?_)
      clear hK K
      refine sqP (i := 11) (N := some 12) (h := ?_)
      refine done_ (done_of HT_.out (by kernel_rfl)) ?_
      have hnb230 := NB531_555.out
      have hnc230 := NB555_531.out
      obtain ⟨hcz231_0, hcz231_1, hcz231_2, hfz231_0, hfz231_1, hfz231_2⟩ := sqY3 BK531
      try go_wp2_with (first | ((with_reducible refine gate_callee (f := 23) rfl ?_); refine goesL_ (some 71) rfl rfl Tryz.func23 (by kernel_rfl) rfl #[.agg #[.int .i64 t525, .int .i64 t526, .slice Ao19 t527.length co19]] rfl sqA ?_; (with_reducible refine (impl_DeskOk.calls kj5 t525 t526 _ _ t527 true _ ?side1 ?side2 A52.out).mono ?_); (case side1 => refine (Kd.R_reads' (e := 31) (base := w.heap.size) (ok := fun k_ => (some k_ ≠ (.slice Ao221 t546.length co221 : Value).ownBlock ∧ (some k_ ≠ (.slice Ao12 t518.length co12 : Value).ownBlock ∧ (some k_ ≠ (.slice Ao28 t534.length co28 : Value).ownBlock ∧ k_ ≠ gb555)))) (n := t527.length) (c := co19) ?_).2.2; exact (Z90 HO_532002)); (case side2 => exact Z31 HO_532002); rintro e w232 ⟨rfl, hb⟩; refine ⟨_, rfl, ?_⟩; replace HO_524002 := Aside0.mk (Kd.Q_below (Z91 HO_524002) hb); replace HO_532002 := Aside0.mk (Kd.R_below (Z90 HO_532002) hb); replace HO_539002 := Aside0.mk (Kd.Q_below (Z91 HO_539002) hb); replace HO548 := Aside0.mk (Kd.R_below (Z90 HO548) hb); replace BK523 := Aside0.mk (blk_below (g := gb523) (o := .cells #[.int .i64 t516, .int .i64 t517, .slice Ao12 t518.length co12] 34 (0, 0)) (Z14 NB523_555 BK523) hb); replace BK524 := Aside0.mk (blk_below (g := gb524) (o := .cells #[.int .i64 t521, .string t522] 38 (0, 0)) (Z14 NB524_555 BK524) hb); replace BK531 := Aside0.mk (blk_below (g := gb531) (o := .cells #[.int .i64 t525, .int .i64 t526, .slice Ao19 t527.length co19] 34 (0, 0)) (Z14 NB531_555 BK531) hb); replace BK538 := Aside0.mk (blk_below (g := gb538) (o := .cells #[.int .i64 t532, .int .i64 t533, .slice Ao28 t534.length co28] 34 (0, 0)) (Z14 NB538_555 BK538) hb); replace BK550 := Aside0.mk (blk_below (g := gb550) (o := .cells #[.int .i64 t544, .int .i64 t545, .slice Ao221 t546.length co221] 34 (0, 0)) (Z14 NB550_555 BK550) hb); replace BK555 := Aside0.mk (blk_below (g := gb555) (o := .cells #[.int .i64 t552, .int .i64 t553] 31 (0, 0)) (Z92 BK555) hb); replace HB := Aside0.mk (below_step (Z89 GE523 GE524 GE531 GE538 GE550 GE555) hb); (try clear hb); have hnb233 := NB524_523.out; have hnc233 := NB523_524.out; have hnb234 := NB524_538.out; have hnc234 := NB538_524.out; have hnb235 := NB524_555.out; have hnc235 := NB555_524.out; obtain ⟨hcz236_0, hcz236_1, hfz236_0, hfz236_1⟩ := sqY2 BK524; have hnb237 := NB523_538.out; have hnc237 := NB538_523.out; have hnb238 := NB523_555.out; have hnc238 := NB555_523.out; obtain ⟨hcz239_0, hcz239_1, hcz239_2, hfz239_0, hfz239_1, hfz239_2⟩ := sqY3 BK523))
      go_ret
      exact ⟨Z3, Z89 GE523 GE524 GE531 GE538 GE550 GE555⟩
     rw [if_neg c144] at H
     have c144b0 : decide (8 ≤ (t518.length : Int)) = false := decide_eq_false c144
     have c144b1 : decide (8 ≤ t518.length) = false := decide_eq_false (by omega)
     clear c144
     by_cases c240 : t549 = true
     ·subst c240
      rw [if_pos rfl] at H
      obtain ⟨t557, A241, H⟩ := sqD H
      by_cases c242 : t557 = true
      ·subst c242
       rw [if_pos rfl] at H
       by_cases c243 : t521 = 0
       ·rw [if_pos c243] at H
        have c243b0 : (t521 == 0) = true := beq_iff_eq.mpr c243
        have c243b1 : (t521 != 0) = false := bne_eq_false_iff_eq.mpr c243
        clear c243
        by_cases c244 : t554 = true
        ·subst c244
         rw [if_pos rfl] at H
         obtain rfl := Option.some.inj H
         have hnb245 := NB531_523.out
         have hnc245 := NB523_531.out
         have hnb246 := NB531_524.out
         have hnc246 := NB524_531.out
         have hnb247 := NB531_538.out
         have hnc247 := NB538_531.out
         obtain ⟨hcz248_0, hcz248_1, hcz248_2, hfz248_0, hfz248_1, hfz248_2⟩ := sqY3 BK531
         try go_wp2_with (first | ((with_reducible refine gate_callee (f := 17) rfl ?_); refine goesL_ (some 58) rfl rfl Tryz.func17 (by kernel_rfl) rfl #[.agg #[.int .i64 t525, .int .i64 t526, .slice Ao19 t527.length co19], .agg #[.int .i64 4, .string (⟨#[]⟩ : ByteArray)]] rfl sqA ?_; (with_reducible refine (impl_DeskDo.calls kj5 t525 t526 _ _ t527 4 (⟨#[]⟩ : ByteArray) t544 t545 t546 true _ ?sideG ?side1 ?side2 A49.out).mono ?_); (case sideG => exact Glob.below hG (sqB4 HB GE523 GE524 GE531 GE538)); (case side1 => exact Z30 HO_532002); (case side2 => exact Z31 HO_532002); rintro e w249 ⟨v547, rfl, ho0, hb⟩; refine ⟨_, rfl, ?_⟩; have HO548 := Aside0.mk (Kd.R_lower (Kd.R_new' (Kd.R_new' (Kd.R_new' ho0 (Kd.Q_lt (Z29 HO_524002))) (Kd.R_lt (sqR HO_532002))) (Kd.Q_lt (Z29 HO_539002))) (below_size (sqB4 HB GE523 GE524 GE531 GE538))); replace HO_524002 := Aside0.mk (Kd.Q_elder' (Z29 HO_524002) (Kd.R_base ho0) hb); replace HO_532002 := Aside0.mk (Kd.R_elder' (sqR HO_532002) (Kd.R_base ho0) hb); replace HO_539002 := Aside0.mk (Kd.Q_elder' (Z29 HO_539002) (Kd.R_base ho0) hb); replace BK523 := sqT BK523 hb; replace BK524 := sqT BK524 hb; replace BK531 := sqT BK531 hb; replace BK538 := sqT BK538 hb; replace HB := sqS (sqB4 HB GE523 GE524 GE531 GE538) hb; (try clear hb); (try clear ho0)) | ((with_reducible refine gate_dst (N := 9) rfl ?_); (try (refine gate_guard (by rfl) ?_; dsimp only)); refine sqBox (N := 9) (cs := #[.int .i64 0, .int .i64 0, .slice none 0 0]) (t := 34) ?_; intro gb550 hg w250 BK550 hb; replace HO_524002 := Aside0.mk (Kd.Q_below (Z29 HO_524002) hb); replace HO_532002 := sqU HO_532002 hb; replace HO_539002 := Aside0.mk (Kd.Q_below (Z29 HO_539002) hb); replace HO548 := sqU HO548 hb; have GW550 := Aside0.mk ((sqG hg (sqB4 HB GE523 GE524 GE531 GE538))); have GE550 := GW550; replace HB := sqS (sqB4 HB GE523 GE524 GE531 GE538) hb; obtain ⟨NB523_550, NB550_523⟩ := sqM hg BK523; replace BK523 := sqT BK523 hb; obtain ⟨NB524_550, NB550_524⟩ := sqM hg BK524; replace BK524 := sqT BK524 hb; obtain ⟨NB531_550, NB550_531⟩ := sqM hg BK531; replace BK531 := sqT BK531 hb; obtain ⟨NB538_550, NB550_538⟩ := sqM hg BK538; replace BK538 := sqT BK538 hb; clear hb hg; have hnb251 := NB550_523.out; have hnc251 := NB523_550.out; have hnb252 := NB550_524.out; have hnc252 := NB524_550.out; have hnb253 := NB550_531.out; have hnc253 := NB531_550.out; have hnb254 := NB550_538.out; have hnc254 := NB538_550.out; obtain ⟨hcz255_0, hcz255_1, hcz255_2, hfz255_0, hfz255_1, hfz255_2⟩ := sqY3 BK550; obtain ⟨Ao256, co256, eo256⟩ := Kd.R_slice HO548.out; subst eo256))
         obtain ⟨w257, hw_⟩ : ∃ w_, ((w250.setCell ⟨gb550, 0, none⟩ (.int .i64 t544)).setCell ⟨gb550, 1, none⟩ (.int .i64 t545)).setCell ⟨gb550, 2, none⟩ (.slice Ao256 t546.length co256) = w_ := ⟨_, rfl⟩
         replace HO_524002 : Aside0 (Kd.Q k31 31 w257 w.heap.size (fun k_ => some k_ ≠ (.slice Ao19 t527.length co19 : Value).ownBlock ∧ some k_ ≠ (.slice Ao28 t534.length co28 : Value).ownBlock ∧ some k_ ≠ (.slice Ao256 t546.length co256 : Value).ownBlock) (.slice Ao12 t518.length co12) t518) := by rw [← hw_]; exact ⟨Z97 HO_524002 BK550⟩
         replace HO_532002 : Aside0 (Kd.R k31 31 w257 w.heap.size (fun k_ => some k_ ≠ (.slice Ao12 t518.length co12 : Value).ownBlock ∧ some k_ ≠ (.slice Ao28 t534.length co28 : Value).ownBlock ∧ some k_ ≠ (.slice Ao256 t546.length co256 : Value).ownBlock) (.slice Ao19 t527.length co19) t527) := by rw [← hw_]; exact ⟨by (with_reducible repeat (first | apply Kd.R_alloc | apply Kd.R_drewN | apply Kd.R_drew)); exact Kd.R_mono (Kd.R_far (p := ⟨gb550, 2, none⟩) (Kd.R_far (p := ⟨gb550, 1, none⟩) (Kd.R_far (p := ⟨gb550, 0, none⟩) (Kd.R_types HO_532002.out BK550.out (by decide)) (fun _ hk => hk.2) (.int .i64 t544)) (fun _ hk => hk.2) (.int .i64 t545)) (fun _ hk => hk.2) (.slice Ao256 t546.length co256)) (fun _ hk => ⟨hk.1.1.1, ⟨hk.1.1.2, hk.1.2⟩⟩)⟩
         replace HO_539002 : Aside0 (Kd.Q k31 31 w257 w.heap.size (fun k_ => some k_ ≠ (.slice Ao12 t518.length co12 : Value).ownBlock ∧ some k_ ≠ (.slice Ao19 t527.length co19 : Value).ownBlock ∧ some k_ ≠ (.slice Ao256 t546.length co256 : Value).ownBlock) (.slice Ao28 t534.length co28) t534) := by rw [← hw_]; exact ⟨Z97 HO_539002 BK550⟩
         replace HO548 : Aside0 (Kd.R k31 31 w257 w.heap.size (fun k_ => some k_ ≠ (.slice Ao12 t518.length co12 : Value).ownBlock ∧ some k_ ≠ (.slice Ao19 t527.length co19 : Value).ownBlock ∧ some k_ ≠ (.slice Ao28 t534.length co28 : Value).ownBlock) (.slice Ao256 t546.length co256) t546) := by rw [← hw_]; exact ⟨by (with_reducible repeat (first | apply Kd.R_alloc | apply Kd.R_drewN | apply Kd.R_drew)); exact Kd.R_mono (Kd.R_far (p := ⟨gb550, 2, none⟩) (Kd.R_far (p := ⟨gb550, 1, none⟩) (Kd.R_far (p := ⟨gb550, 0, none⟩) (Kd.R_types HO548.out BK550.out (by decide)) (fun _ hk => hk.2) (.int .i64 t544)) (fun _ hk => hk.2) (.int .i64 t545)) (fun _ hk => hk.2) (.slice Ao256 t546.length co256)) (fun _ hk => ⟨hk.1.1.1.2, ⟨hk.1.1.2, hk.1.2⟩⟩)⟩
         replace BK523 : Aside0 (w257.heap[gb523]? = some (.cells #[.int .i64 t516, .int .i64 t517, .slice Ao12 t518.length co12] 34 (0, 0))) := by rw [← hw_]; exact ⟨Z20 NB523_550 BK523⟩
         replace BK524 : Aside0 (w257.heap[gb524]? = some (.cells #[.int .i64 t521, .string t522] 38 (0, 0))) := by rw [← hw_]; exact ⟨Z20 NB524_550 BK524⟩
         replace BK531 : Aside0 (w257.heap[gb531]? = some (.cells #[.int .i64 t525, .int .i64 t526, .slice Ao19 t527.length co19] 34 (0, 0))) := by rw [← hw_]; exact ⟨Z20 NB531_550 BK531⟩
         replace BK538 : Aside0 (w257.heap[gb538]? = some (.cells #[.int .i64 t532, .int .i64 t533, .slice Ao28 t534.length co28] 34 (0, 0))) := by rw [← hw_]; exact ⟨Z20 NB538_550 BK538⟩
         replace BK550 : Aside0 (w257.heap[gb550]? = some (.cells #[.int .i64 t544, .int .i64 t545, .slice Ao256 t546.length co256] 34 (0, 0))) := by rw [← hw_]; exact ⟨Z85 BK550⟩
         replace HB : Aside0 (Below w.heap.size w w257) := by rw [← hw_]; exact ⟨Z26 GE523 GE524 GE531 GE538 GE550⟩
         rw [hw_]; clear hw_
         replace HO_524002 := Aside0.mk (Kd.Q_drew HO_524002.out)
         replace HO_532002 := Aside0.mk (Kd.R_drew HO_532002.out)
         replace HO_539002 := Aside0.mk (Kd.Q_drew HO_539002.out)
         replace HO548 := Aside0.mk (Kd.R_drew HO548.out)
         replace BK523 := Aside0.mk (blk_drew BK523.out)
         replace BK524 := Aside0.mk (blk_drew BK524.out)
         replace BK531 := Aside0.mk (blk_drew BK531.out)
         replace BK538 := Aside0.mk (blk_drew BK538.out)
         replace BK550 := Aside0.mk (blk_drew BK550.out)
         replace HB := Aside0.mk (below_drew1 HB.out)
         refine start_ (n := 12) (S := fun w' => w'.cell? ⟨gb531, 0, none⟩ = some (.int .i64 t525) ∧ w'.cell? ⟨gb531, 1, none⟩ = some (.int .i64 t526) ∧ w'.cell? ⟨gb531, 2, none⟩ = some (.slice Ao19 t527.length co19) ∧ w'.cell? ⟨gb524, 0, none⟩ = some (.int .i64 t521) ∧ w'.cell? ⟨gb524, 1, none⟩ = some (.string t522)) (ds := []) #[false, false, false, false, false, false, false, false, false, false, false, false] (by kernel_rfl) rfl rfl ⟨(blk_cell BK531.out 0).trans rfl, (blk_cell BK531.out 1).trans rfl, (blk_cell BK531.out 2).trans rfl, (blk_cell BK524.out 0).trans rfl, (blk_cell BK524.out 1).trans rfl⟩ (fun hHeld => ?_); refine with_tabW laws_FnDeskDo.tab11 laws_FnDeskDo.bits11 (fun HT_ HW_ => ?_)
         generalize w257.drew = w258 at HO_524002 HO_532002 HO_539002 HO548 BK523 BK524 BK531 BK538 BK550 HB hHeld ⊢
         refine sqP (i := 0) (N := some 62) (h := ?_)
         refine sqP (i := 2) (N := some 64) (h := ?_)
         refine sqQ (i := 1) (N := some 63) hHeld (h := ?_)
         refine sqQ (i := 3) (N := some 65) hHeld (h := ?_)
         refine join_ (σ := Nat) 2 #[true, true, true, true, true, true, true, true, true, true, false, false] (fun s_ => [(66, .string t551), (67, .tuple #[.agg #[.int .i64 t552, .int .i64 t553], .bool true]), (11, .pointer (some ⟨s_, 0, none⟩)), (61, .tuple #[.agg #[.int .i64 t552, .int .i64 t553], .bool true]), (68, .agg #[.int .i64 t552, .int .i64 t553]), (69, .bool true)]) (fun s_ w' => (w'.cell? ⟨gb531, 0, none⟩ = some (.int .i64 t525) ∧ w'.cell? ⟨gb531, 1, none⟩ = some (.int .i64 t526) ∧ w'.cell? ⟨gb531, 2, none⟩ = some (.slice Ao19 t527.length co19) ∧ w'.cell? ⟨gb524, 0, none⟩ = some (.int .i64 t521) ∧ w'.cell? ⟨gb524, 1, none⟩ = some (.string t522)) ∧ (Kd.R k31 31 w' w.heap.size (fun k_ => some k_ ≠ (.slice Ao12 t518.length co12 : Value).ownBlock ∧ some k_ ≠ (.slice Ao19 t527.length co19 : Value).ownBlock ∧ some k_ ≠ (.slice Ao28 t534.length co28 : Value).ownBlock ∧ k_ ≠ s_) (.slice Ao256 t546.length co256) t546) ∧ (Kd.Q k31 31 w' w.heap.size (fun k_ => some k_ ≠ (.slice Ao256 t546.length co256 : Value).ownBlock ∧ some k_ ≠ (.slice Ao19 t527.length co19 : Value).ownBlock ∧ some k_ ≠ (.slice Ao28 t534.length co28 : Value).ownBlock ∧ k_ ≠ s_) (.slice Ao12 t518.length co12) t518) ∧ (Kd.R k31 31 w' w.heap.size (fun k_ => some k_ ≠ (.slice Ao256 t546.length co256 : Value).ownBlock ∧ some k_ ≠ (.slice Ao12 t518.length co12 : Value).ownBlock ∧ some k_ ≠ (.slice Ao28 t534.length co28 : Value).ownBlock ∧ k_ ≠ s_) (.slice Ao19 t527.length co19) t527) ∧ (Kd.Q k31 31 w' w.heap.size (fun k_ => some k_ ≠ (.slice Ao256 t546.length co256 : Value).ownBlock ∧ some k_ ≠ (.slice Ao12 t518.length co12 : Value).ownBlock ∧ some k_ ≠ (.slice Ao19 t527.length co19 : Value).ownBlock ∧ k_ ≠ s_) (.slice Ao28 t534.length co28) t534) ∧ (w'.heap[gb523]? = some (.cells #[.int .i64 t516, .int .i64 t517, .slice Ao12 t518.length co12] 34 (0, 0))) ∧ (w'.heap[gb524]? = some (.cells #[.int .i64 t521, .string t522] 38 (0, 0))) ∧ (w'.heap[gb531]? = some (.cells #[.int .i64 t525, .int .i64 t526, .slice Ao19 t527.length co19] 34 (0, 0))) ∧ (w'.heap[gb538]? = some (.cells #[.int .i64 t532, .int .i64 t533, .slice Ao28 t534.length co28] 34 (0, 0))) ∧ (w'.heap[gb550]? = some (.cells #[.int .i64 t544, .int .i64 t545, .slice Ao256 t546.length co256] 34 (0, 0))) ∧ (w'.heap[s_]? = some (.cells #[.int .i64 0, .int .i64 0] 31 (0, 0))) ∧ (w.heap.size ≤ s_) ∧ (w.heap.size ≤ s_) ∧ (gb523 ≠ s_) ∧ (s_ ≠ gb523) ∧ (gb524 ≠ s_) ∧ (s_ ≠ gb524) ∧ (gb531 ≠ s_) ∧ (s_ ≠ gb531) ∧ (gb538 ≠ s_) ∧ (s_ ≠ gb538) ∧ (gb550 ≠ s_) ∧ (s_ ≠ gb550) ∧ (Below w.heap.size w w')) ?_ ?_
         rotate_left
         ·intro hCont
          refine two_ (i := 4) (j := 9) (Ni := some 66) (Nj := some 11) #[true, true, true, true, true, false, false, false, false, false, false, false] #[true, true, true, true, false, false, false, false, false, true, false, false] rfl rfl rfl rfl (two_of HT_.out (by kernel_rfl)) (by decide) (by decide) (fun K hK => ?_) (fun K hK => ?_)
          ·skip
           refine goes_ Tryz.func26 (by kernel_rfl) rfl #[.string t522] (by rfl) rfl rfl sqA ?_
           with_reducible refine (impl_BackOf.calls kj5 t522 t551 _ A50.out).mono ?_
           rintro e w259 ⟨rfl, hb⟩
           refine ⟨_, rfl, ?_⟩
           replace HO_524002 := Aside0.mk (Kd.Q_below (Z29 HO_524002) hb)
           replace HO_532002 := sqU HO_532002 hb
           replace HO_539002 := Aside0.mk (Kd.Q_below (Z29 HO_539002) hb)
           replace HO548 := sqU HO548 hb
           replace BK523 := sqT BK523 hb
           replace BK524 := sqT BK524 hb
           replace BK531 := sqT BK531 hb
           replace BK538 := sqT BK538 hb
           replace BK550 := sqT BK550 hb
           replace HB := Aside0.mk (below_step (Z26 GE523 GE524 GE531 GE538 GE550) hb)
           (try clear hb)
           (try clear hb2)
           (try clear hk)
           (try clear hi)
           refine hK.out _ _ ⟨(blk_cell BK531.out 0).trans rfl, (blk_cell BK531.out 1).trans rfl, (blk_cell BK531.out 2).trans rfl, (blk_cell BK524.out 0).trans rfl, (blk_cell BK524.out 1).trans rfl⟩ (fun hHeld => ?_)
           clear hK K
           refine sqN (some 66) ?_
           refine two_ (i := 5) (j := 9) (Ni := some 67) (Nj := some 11) #[true, true, true, true, true, true, false, false, false, false, false, false] #[true, true, true, true, true, false, false, false, false, true, false, false] rfl rfl rfl rfl (two_of HT_.out (by kernel_rfl)) (by decide) (by decide) (fun K hK => ?_) (fun K hK => ?_)
           ·skip
            refine goes_ Tryz.func25 (by kernel_rfl) rfl #[.agg #[.int .i64 t525, .int .i64 t526], .string t551] (by rfl) rfl rfl sqA ?_
            with_reducible refine (impl_DancedFrom.calls kj5 t525 t526 t551 t552 t553 true _ A51.out).mono ?_
            rintro e w260 ⟨rfl, hb⟩
            refine ⟨_, rfl, ?_⟩
            replace HO_524002 := Aside0.mk (Kd.Q_below (Z29 HO_524002) hb)
            replace HO_532002 := sqU HO_532002 hb
            replace HO_539002 := Aside0.mk (Kd.Q_below (Z29 HO_539002) hb)
            replace HO548 := sqU HO548 hb
            replace BK523 := sqT BK523 hb
            replace BK524 := sqT BK524 hb
            replace BK531 := sqT BK531 hb
            replace BK538 := sqT BK538 hb
            replace BK550 := sqT BK550 hb
            replace HB := Aside0.mk (below_step (Z26 GE523 GE524 GE531 GE538 GE550) hb)
            (try clear hb)
            (try clear hb2)
            (try clear hk)
            (try clear hi)
            refine hK.out _ _ ⟨(blk_cell BK531.out 0).trans rfl, (blk_cell BK531.out 1).trans rfl, (blk_cell BK531.out 2).trans rfl, (blk_cell BK524.out 0).trans rfl, (blk_cell BK524.out 1).trans rfl⟩ (fun hHeld => ?_)
            clear hK K
            refine sqN (some 67) ?_
            refine sqP (i := 6) (N := some 61) (h := ?_)
            refine sqP (i := 7) (N := some 68) (h := ?_)
            refine sqP (i := 8) (N := some 69) (h := ?_)
            refine one_ (i := 9) (N := some 11) #[true, true, true, true, true, true, true, true, true, true, false, false] rfl rfl (one_of HT_.out (by kernel_rfl)) (by decide) (fun K hK => ?_)
            refine box_step ?hg (N := 11) ?hd (cs := #[.int .i64 0, .int .i64 0]) (t := 31) ?hr ?_; (case hd => rfl); (case hg => rfl); (case hr => exact Z7)
            intro gb555 hg w261 hbox hb
            replace HO_524002 := Aside0.mk (Kd.Q_below (Kd.Q_elderB (Z29 HO_524002) gb555 (Nat.le_of_eq hg.symm)) hb)
            replace HO_532002 := Aside0.mk (Kd.R_below (Kd.R_elderB (sqR HO_532002) gb555 (Nat.le_of_eq hg.symm)) hb)
            replace HO_539002 := Aside0.mk (Kd.Q_below (Kd.Q_elderB (Z29 HO_539002) gb555 (Nat.le_of_eq hg.symm)) hb)
            replace HO548 := Aside0.mk (Kd.R_below (Kd.R_elderB (sqR HO548) gb555 (Nat.le_of_eq hg.symm)) hb)
            have BK555 := Aside0.mk (hbox)
            have GW555 := Aside0.mk ((Z115 GE523 GE524 GE531 GE538 GE550 : w.heap.size ≤ gb555))
            have GE555 := Aside0.mk ((Z115 GE523 GE524 GE531 GE538 GE550 : w.heap.size ≤ gb555))
            replace HB := Aside0.mk (below_step (Z26 GE523 GE524 GE531 GE538 GE550) hb)
            obtain ⟨NB523_555, NB555_523⟩ := sqM hg BK523
            replace BK523 := sqT BK523 hb
            obtain ⟨NB524_555, NB555_524⟩ := sqM hg BK524
            replace BK524 := sqT BK524 hb
            obtain ⟨NB531_555, NB555_531⟩ := sqM hg BK531
            replace BK531 := sqT BK531 hb
            obtain ⟨NB538_555, NB555_538⟩ := sqM hg BK538
            replace BK538 := sqT BK538 hb
            obtain ⟨NB550_555, NB555_550⟩ := sqM hg BK550
            replace BK550 := sqT BK550 hb
            clear hb hbox hg
            refine hK.out _ _ ⟨(blk_cell BK531.out 0).trans rfl, (blk_cell BK531.out 1).trans rfl, (blk_cell BK531.out 2).trans rfl, (blk_cell BK524.out 0).trans rfl, (blk_cell BK524.out 1).trans rfl⟩ (fun hHeld => ?_)
            clear hK K
            refine sqN (some 11) ?_
            exact norm_ Z51 (hCont (gb555) _ ⟨hHeld, (Z86 HO548), (Z87 HO_524002), (Z88 HO_532002), (Z87 HO_539002), (sqK BK523), (sqK BK524), (sqK BK531), (sqK BK538), (sqK BK550), (sqK BK555), GW555.out, GE555.out, NB523_555.out, NB555_523.out, NB524_555.out, NB555_524.out, NB531_555.out, NB555_531.out, NB538_555.out, NB555_538.out, NB550_555.out, NB555_550.out, (Z89 GE523 GE524 GE531 GE538 GE550 GE555)⟩)
           ·skip
            refine box_step ?hg (N := 11) ?hd (cs := #[.int .i64 0, .int .i64 0]) (t := 31) ?hr ?_; (case hd => rfl); (case hg => rfl); (case hr => exact Z7)
            intro gb555 hg w260 hbox hb
            replace HO_524002 := Aside0.mk (Kd.Q_below (Kd.Q_elderB (Z29 HO_524002) gb555 (Nat.le_of_eq hg.symm)) hb)
            replace HO_532002 := Aside0.mk (Kd.R_below (Kd.R_elderB (sqR HO_532002) gb555 (Nat.le_of_eq hg.symm)) hb)
            replace HO_539002 := Aside0.mk (Kd.Q_below (Kd.Q_elderB (Z29 HO_539002) gb555 (Nat.le_of_eq hg.symm)) hb)
            replace HO548 := Aside0.mk (Kd.R_below (Kd.R_elderB (sqR HO548) gb555 (Nat.le_of_eq hg.symm)) hb)
            have BK555 := Aside0.mk (hbox)
            have GW555 := Aside0.mk ((Z115 GE523 GE524 GE531 GE538 GE550 : w.heap.size ≤ gb555))
            have GE555 := Aside0.mk ((Z115 GE523 GE524 GE531 GE538 GE550 : w.heap.size ≤ gb555))
            replace HB := Aside0.mk (below_step (Z26 GE523 GE524 GE531 GE538 GE550) hb)
            obtain ⟨NB523_555, NB555_523⟩ := sqM hg BK523
            replace BK523 := sqT BK523 hb
            obtain ⟨NB524_555, NB555_524⟩ := sqM hg BK524
            replace BK524 := sqT BK524 hb
            obtain ⟨NB531_555, NB555_531⟩ := sqM hg BK531
            replace BK531 := sqT BK531 hb
            obtain ⟨NB538_555, NB555_538⟩ := sqM hg BK538
            replace BK538 := sqT BK538 hb
            obtain ⟨NB550_555, NB555_550⟩ := sqM hg BK550
            replace BK550 := sqT BK550 hb
            clear hb hbox hg
            refine hK.out _ _ ⟨(blk_cell BK531.out 0).trans rfl, (blk_cell BK531.out 1).trans rfl, (blk_cell BK531.out 2).trans rfl, (blk_cell BK524.out 0).trans rfl, (blk_cell BK524.out 1).trans rfl⟩ (fun hHeld => ?_)
            clear hK K
            refine sqN (some 11) ?_
            refine one_ (i := 5) (N := some 67) #[true, true, true, true, true, true, false, false, false, true, false, false] rfl rfl (one_of HT_.out (by kernel_rfl)) (by decide) (fun K hK => ?_)
            refine goes_ Tryz.func25 (by kernel_rfl) rfl #[.agg #[.int .i64 t525, .int .i64 t526], .string t551] (by rfl) rfl rfl sqA ?_
            with_reducible refine (impl_DancedFrom.calls kj5 t525 t526 t551 t552 t553 true _ A51.out).mono ?_
            rintro e w261 ⟨rfl, hb⟩
            refine ⟨_, rfl, ?_⟩
            replace HO_524002 := Aside0.mk (Kd.Q_below (Z29 HO_524002) hb)
            replace HO_532002 := sqU HO_532002 hb
            replace HO_539002 := Aside0.mk (Kd.Q_below (Z29 HO_539002) hb)
            replace HO548 := sqU HO548 hb
            replace BK523 := sqT BK523 hb
            replace BK524 := sqT BK524 hb
            replace BK531 := sqT BK531 hb
            replace BK538 := sqT BK538 hb
            replace BK550 := sqT BK550 hb
            replace BK555 := sqT BK555 hb
            replace HB := Aside0.mk (below_step (Z89 GE523 GE524 GE531 GE538 GE550 GE555) hb)
            (try clear hb)
            (try clear hb2)
            (try clear hk)
            (try clear hi)
            refine hK.out _ _ ⟨(blk_cell BK531.out 0).trans rfl, (blk_cell BK531.out 1).trans rfl, (blk_cell BK531.out 2).trans rfl, (blk_cell BK524.out 0).trans rfl, (blk_cell BK524.out 1).trans rfl⟩ (fun hHeld => ?_)
            clear hK K
            refine sqN (some 67) ?_
            refine sqP (i := 6) (N := some 61) (h := ?_)
            refine sqP (i := 7) (N := some 68) (h := ?_)
            refine sqP (i := 8) (N := some 69) (h := ?_)
            exact norm_ Z51 (hCont (gb555) _ ⟨hHeld, (Z86 HO548), (Z87 HO_524002), (Z88 HO_532002), (Z87 HO_539002), (sqK BK523), (sqK BK524), (sqK BK531), (sqK BK538), (sqK BK550), (sqK BK555), GW555.out, GE555.out, NB523_555.out, NB555_523.out, NB524_555.out, NB555_524.out, NB531_555.out, NB555_531.out, NB538_555.out, NB555_538.out, NB550_555.out, NB555_550.out, (Z89 GE523 GE524 GE531 GE538 GE550 GE555)⟩)
          ·skip
           refine box_step ?hg (N := 11) ?hd (cs := #[.int .i64 0, .int .i64 0]) (t := 31) ?hr ?_; (case hd => rfl); (case hg => rfl); (case hr => exact Z7)
           intro gb555 hg w259 hbox hb
           replace HO_524002 := Aside0.mk (Kd.Q_below (Kd.Q_elderB (Z29 HO_524002) gb555 (Nat.le_of_eq hg.symm)) hb)
           replace HO_532002 := Aside0.mk (Kd.R_below (Kd.R_elderB (sqR HO_532002) gb555 (Nat.le_of_eq hg.symm)) hb)
           replace HO_539002 := Aside0.mk (Kd.Q_below (Kd.Q_elderB (Z29 HO_539002) gb555 (Nat.le_of_eq hg.symm)) hb)
           replace HO548 := Aside0.mk (Kd.R_below (Kd.R_elderB (sqR HO548) gb555 (Nat.le_of_eq hg.symm)) hb)
           have BK555 := Aside0.mk (hbox)
           have GW555 := Aside0.mk ((Z115 GE523 GE524 GE531 GE538 GE550 : w.heap.size ≤ gb555))
           have GE555 := Aside0.mk ((Z115 GE523 GE524 GE531 GE538 GE550 : w.heap.size ≤ gb555))
           replace HB := Aside0.mk (below_step (Z26 GE523 GE524 GE531 GE538 GE550) hb)
           obtain ⟨NB523_555, NB555_523⟩ := sqM hg BK523
           replace BK523 := sqT BK523 hb
           obtain ⟨NB524_555, NB555_524⟩ := sqM hg BK524
           replace BK524 := sqT BK524 hb
           obtain ⟨NB531_555, NB555_531⟩ := sqM hg BK531
           replace BK531 := sqT BK531 hb
           obtain ⟨NB538_555, NB555_538⟩ := sqM hg BK538
           replace BK538 := sqT BK538 hb
           obtain ⟨NB550_555, NB555_550⟩ := sqM hg BK550
           replace BK550 := sqT BK550 hb
           clear hb hbox hg
           refine hK.out _ _ ⟨(blk_cell BK531.out 0).trans rfl, (blk_cell BK531.out 1).trans rfl, (blk_cell BK531.out 2).trans rfl, (blk_cell BK524.out 0).trans rfl, (blk_cell BK524.out 1).trans rfl⟩ (fun hHeld => ?_)
           clear hK K
           refine sqN (some 11) ?_
           refine one_ (i := 4) (N := some 66) #[true, true, true, true, true, false, false, false, false, true, false, false] rfl rfl (one_of HT_.out (by kernel_rfl)) (by decide) (fun K hK => ?_)
           refine goes_ Tryz.func26 (by kernel_rfl) rfl #[.string t522] (by rfl) rfl rfl sqA ?_
           with_reducible refine (impl_BackOf.calls kj5 t522 t551 _ A50.out).mono ?_
           rintro e w260 ⟨rfl, hb⟩
           refine ⟨_, rfl, ?_⟩
           replace HO_524002 := Aside0.mk (Kd.Q_below (Z29 HO_524002) hb)
           replace HO_532002 := sqU HO_532002 hb
           replace HO_539002 := Aside0.mk (Kd.Q_below (Z29 HO_539002) hb)
           replace HO548 := sqU HO548 hb
           replace BK523 := sqT BK523 hb
           replace BK524 := sqT BK524 hb
           replace BK531 := sqT BK531 hb
           replace BK538 := sqT BK538 hb
           replace BK550 := sqT BK550 hb
           replace BK555 := sqT BK555 hb
           replace HB := Aside0.mk (below_step (Z89 GE523 GE524 GE531 GE538 GE550 GE555) hb)
           (try clear hb)
           (try clear hb2)
           (try clear hk)
           (try clear hi)
           refine hK.out _ _ ⟨(blk_cell BK531.out 0).trans rfl, (blk_cell BK531.out 1).trans rfl, (blk_cell BK531.out 2).trans rfl, (blk_cell BK524.out 0).trans rfl, (blk_cell BK524.out 1).trans rfl⟩ (fun hHeld => ?_)
           clear hK K
           refine sqN (some 66) ?_
           refine one_ (i := 5) (N := some 67) #[true, true, true, true, true, true, false, false, false, true, false, false] rfl rfl (one_of HT_.out (by kernel_rfl)) (by decide) (fun K hK => ?_)
           refine goes_ Tryz.func25 (by kernel_rfl) rfl #[.agg #[.int .i64 t525, .int .i64 t526], .string t551] (by rfl) rfl rfl sqA ?_
           with_reducible refine (impl_DancedFrom.calls kj5 t525 t526 t551 t552 t553 true _ A51.out).mono ?_
           rintro e w261 ⟨rfl, hb⟩
           refine ⟨_, rfl, ?_⟩
           replace HO_524002 := Aside0.mk (Kd.Q_below (Z29 HO_524002) hb)
           replace HO_532002 := sqU HO_532002 hb
           replace HO_539002 := Aside0.mk (Kd.Q_below (Z29 HO_539002) hb)
           replace HO548 := sqU HO548 hb
           replace BK523 := sqT BK523 hb
           replace BK524 := sqT BK524 hb
           replace BK531 := sqT BK531 hb
           replace BK538 := sqT BK538 hb
           replace BK550 := sqT BK550 hb
           replace BK555 := sqT BK555 hb
           replace HB := Aside0.mk (below_step (Z89 GE523 GE524 GE531 GE538 GE550 GE555) hb)
           (try clear hb)
           (try clear hb2)
           (try clear hk)
           (try clear hi)
           refine hK.out _ _ ⟨(blk_cell BK531.out 0).trans rfl, (blk_cell BK531.out 1).trans rfl, (blk_cell BK531.out 2).trans rfl, (blk_cell BK524.out 0).trans rfl, (blk_cell BK524.out 1).trans rfl⟩ (fun hHeld => ?_)
           clear hK K
           refine sqN (some 67) ?_
           refine sqP (i := 6) (N := some 61) (h := ?_)
           refine sqP (i := 7) (N := some 68) (h := ?_)
           refine sqP (i := 8) (N := some 69) (h := ?_)
           exact norm_ Z51 (hCont (gb555) _ ⟨hHeld, (Z86 HO548), (Z87 HO_524002), (Z88 HO_532002), (Z87 HO_539002), (sqK BK523), (sqK BK524), (sqK BK531), (sqK BK538), (sqK BK550), (sqK BK555), GW555.out, GE555.out, NB523_555.out, NB555_523.out, NB524_555.out, NB555_524.out, NB531_555.out, NB555_531.out, NB538_555.out, NB555_538.out, NB550_555.out, NB555_550.out, (Z89 GE523 GE524 GE531 GE538 GE550 GE555)⟩)
         rintro gb555 w262 ⟨hS_, h0_, h1_, h2_, h3_, h4_, h5_, h6_, h7_, h8_, h9_, h10_, h11_, h12_, h13_, h14_, h15_, h16_, h17_, h18_, h19_, h20_, h21_, h22_⟩
         replace HO548 := Aside0.mk h0_
         replace HO_524002 := Aside0.mk h1_
         replace HO_532002 := Aside0.mk h2_
         replace HO_539002 := Aside0.mk h3_
         replace BK523 := Aside0.mk h4_
         replace BK524 := Aside0.mk h5_
         replace BK531 := Aside0.mk h6_
         replace BK538 := Aside0.mk h7_
         replace BK550 := Aside0.mk h8_
         replace BK555 := Aside0.mk h9_
         replace GW555 := Aside0.mk h10_
         replace GE555 := Aside0.mk h11_
         replace NB523_555 := Aside0.mk h12_
         replace NB555_523 := Aside0.mk h13_
         replace NB524_555 := Aside0.mk h14_
         replace NB555_524 := Aside0.mk h15_
         replace NB531_555 := Aside0.mk h16_
         replace NB555_531 := Aside0.mk h17_
         replace NB538_555 := Aside0.mk h18_
         replace NB555_538 := Aside0.mk h19_
         replace NB550_555 := Aside0.mk h20_
         replace NB555_550 := Aside0.mk h21_
         replace HB := Aside0.mk h22_
         clear h0_ h1_ h2_ h3_ h4_ h5_ h6_ h7_ h8_ h9_ h10_ h11_ h12_ h13_ h14_ h15_ h16_ h17_ h18_ h19_ h20_ h21_ h22_
         have hHeld : w262.cell? ⟨gb531, 0, none⟩ = some (.int .i64 t525) ∧ w262.cell? ⟨gb531, 1, none⟩ = some (.int .i64 t526) ∧ w262.cell? ⟨gb531, 2, none⟩ = some (.slice Ao19 t527.length co19) ∧ w262.cell? ⟨gb524, 0, none⟩ = some (.int .i64 t521) ∧ w262.cell? ⟨gb524, 1, none⟩ = some (.string t522) := hS_
         refine norm_ (a' := ?_) ?_ ?_
         rotate_left
         ·simp only [putAll, Act.put, List.setIfInBounds_toArray, List.set_cons_zero, List.set_cons_succ]
          rfl
         refine one_ (i := 10) (N := none) #[true, true, true, true, true, true, true, true, true, true, true, false] rfl rfl (one_of HT_.out (by kernel_rfl)) (by decide) (fun K hK => ?_)
         have hs263 : w262.cell? ⟨gb555, 0, none⟩ = some (.int .i64 0) := (blk_cell BK555.out 0).trans rfl
         have hfs263 := blk_frozen BK555.out 0
         have hns263_0 := NB523_555.out
         have hns263_1 := NB524_555.out
         have hns263_2 := NB531_555.out
         have hns263_3 := NB538_555.out
         have hns263_4 := NB550_555.out
         have hms263_0 := NB555_523.out
         have hms263_1 := NB555_524.out
         have hms263_2 := NB555_531.out
         have hms263_3 := NB555_538.out
         have hms263_4 := NB555_550.out
         have hs264 : w262.cell? ⟨gb555, 1, none⟩ = some (.int .i64 0) := (blk_cell BK555.out 1).trans rfl
         have hfs264 := blk_frozen BK555.out 1
         have hns264_0 := NB523_555.out
         have hns264_1 := NB524_555.out
         have hns264_2 := NB531_555.out
         have hns264_3 := NB538_555.out
         have hns264_4 := NB550_555.out
         have hms264_0 := NB555_523.out
         have hms264_1 := NB555_524.out
         have hms264_2 := NB555_531.out
         have hms264_3 := NB555_538.out
         have hms264_4 := NB555_550.out
         refine skip_ (w1 := ?_) (by rfl) rfl ?_ ?_
         rotate_left
         ·go_simp
          rfl
         refine hK.out _ _ ⟨((cell_far (p := ⟨gb555, _, none⟩) NB531_555.out _).trans (((cell_far (p := ⟨gb555, _, none⟩) NB531_555.out _).trans (hHeld.1)))), ((cell_far (p := ⟨gb555, _, none⟩) NB531_555.out _).trans (((cell_far (p := ⟨gb555, _, none⟩) NB531_555.out _).trans (hHeld.2.1)))), ((cell_far (p := ⟨gb555, _, none⟩) NB531_555.out _).trans (((cell_far (p := ⟨gb555, _, none⟩) NB531_555.out _).trans (hHeld.2.2.1)))), ((cell_far (p := ⟨gb555, _, none⟩) NB524_555.out _).trans (((cell_far (p := ⟨gb555, _, none⟩) NB524_555.out _).trans (hHeld.2.2.2.1)))), ((cell_far (p := ⟨gb555, _, none⟩) NB524_555.out _).trans (((cell_far (p := ⟨gb555, _, none⟩) NB524_555.out _).trans (hHeld.2.2.2.2))))⟩ (fun hHeld => ?_)
         clear hK K
         refine sqP (i := 11) (N := some 12) (h := ?_)
         refine done_ (done_of HT_.out (by kernel_rfl)) ?_
         have hnb265 := NB531_555.out
         have hnc265 := NB555_531.out
         obtain ⟨hcz266_0, hcz266_1, hcz266_2, hfz266_0, hfz266_1, hfz266_2⟩ := sqY3 BK531
         try go_wp2_with (first | ((with_reducible refine gate_callee (f := 23) rfl ?_); refine goesL_ (some 71) rfl rfl Tryz.func23 (by kernel_rfl) rfl #[.agg #[.int .i64 t525, .int .i64 t526, .slice Ao19 t527.length co19]] rfl sqA ?_; (with_reducible refine (impl_DeskOk.calls kj5 t525 t526 _ _ t527 true _ ?side1 ?side2 A52.out).mono ?_); (case side1 => refine (Kd.R_reads' (e := 31) (base := w.heap.size) (ok := fun k_ => (some k_ ≠ (.slice Ao256 t546.length co256 : Value).ownBlock ∧ (some k_ ≠ (.slice Ao12 t518.length co12 : Value).ownBlock ∧ (some k_ ≠ (.slice Ao28 t534.length co28 : Value).ownBlock ∧ k_ ≠ gb555)))) (n := t527.length) (c := co19) ?_).2.2; exact (Z90 HO_532002)); (case side2 => exact Z31 HO_532002); rintro e w267 ⟨rfl, hb⟩; refine ⟨_, rfl, ?_⟩; replace HO_524002 := Aside0.mk (Kd.Q_below (Z91 HO_524002) hb); replace HO_532002 := Aside0.mk (Kd.R_below (Z90 HO_532002) hb); replace HO_539002 := Aside0.mk (Kd.Q_below (Z91 HO_539002) hb); replace HO548 := Aside0.mk (Kd.R_below (Z90 HO548) hb); replace BK523 := Aside0.mk (blk_below (g := gb523) (o := .cells #[.int .i64 t516, .int .i64 t517, .slice Ao12 t518.length co12] 34 (0, 0)) (Z14 NB523_555 BK523) hb); replace BK524 := Aside0.mk (blk_below (g := gb524) (o := .cells #[.int .i64 t521, .string t522] 38 (0, 0)) (Z14 NB524_555 BK524) hb); replace BK531 := Aside0.mk (blk_below (g := gb531) (o := .cells #[.int .i64 t525, .int .i64 t526, .slice Ao19 t527.length co19] 34 (0, 0)) (Z14 NB531_555 BK531) hb); replace BK538 := Aside0.mk (blk_below (g := gb538) (o := .cells #[.int .i64 t532, .int .i64 t533, .slice Ao28 t534.length co28] 34 (0, 0)) (Z14 NB538_555 BK538) hb); replace BK550 := Aside0.mk (blk_below (g := gb550) (o := .cells #[.int .i64 t544, .int .i64 t545, .slice Ao256 t546.length co256] 34 (0, 0)) (Z14 NB550_555 BK550) hb); replace BK555 := Aside0.mk (blk_below (g := gb555) (o := .cells #[.int .i64 t552, .int .i64 t553] 31 (0, 0)) (Z92 BK555) hb); replace HB := Aside0.mk (below_step (Z89 GE523 GE524 GE531 GE538 GE550 GE555) hb); (try clear hb); have hnb268 := NB524_523.out; have hnc268 := NB523_524.out; have hnb269 := NB524_538.out; have hnc269 := NB538_524.out; have hnb270 := NB524_555.out; have hnc270 := NB555_524.out; obtain ⟨hcz271_0, hcz271_1, hfz271_0, hfz271_1⟩ := sqY2 BK524; have hnb272 := NB523_538.out; have hnc272 := NB538_523.out; have hnb273 := NB523_555.out; have hnc273 := NB555_523.out; obtain ⟨hcz274_0, hcz274_1, hcz274_2, hfz274_0, hfz274_1, hfz274_2⟩ := sqY3 BK523; have hnb275 := NB550_555.out; have hnc275 := NB555_550.out; obtain ⟨hcz276_0, hcz276_1, hcz276_2, hfz276_0, hfz276_1, hfz276_2⟩ := sqY3 BK550) | (go_at_call 22; (with_reducible refine (laws_sameDesk.calls kj5 t544 t545 _ _ t546 t516 t517 _ _ t518 true _ ?side1 ?side2 ?side3 ?side4 A241.out).mono ?_); (case side1 => exact Z30 HO548); (case side2 => exact Z31 HO548); (case side3 => exact Z27 HO_524002); (case side4 => exact Z28 HO_524002); rintro e w277 ⟨rfl, hb⟩; replace HO_524002 := Aside0.mk (Kd.Q_below (Z29 HO_524002) hb); replace HO_532002 := sqU HO_532002 hb; replace HO_539002 := Aside0.mk (Kd.Q_below (Z29 HO_539002) hb); replace HO548 := sqU HO548 hb; replace BK523 := sqT BK523 hb; replace BK524 := sqT BK524 hb; replace BK531 := sqT BK531 hb; replace BK538 := sqT BK538 hb; replace BK550 := sqT BK550 hb; replace BK555 := sqT BK555 hb; replace HB := Aside0.mk (below_step (Z89 GE523 GE524 GE531 GE538 GE550 GE555) hb); (try clear hb); obtain ⟨hcz278_0, hcz278_1, hfz278_0, hfz278_1⟩ := sqY2 BK524; have hnb279 := NB555_538.out; have hnc279 := NB538_555.out; obtain ⟨hcz280_0, hcz280_1, hfz280_0, hfz280_1⟩ := sqY2 BK555; obtain ⟨hcz281_0, hcz281_1, hcz281_2, hfz281_0, hfz281_1, hfz281_2⟩ := sqY3 BK523))
         go_ret
         exact ⟨Z3, Z89 GE523 GE524 GE531 GE538 GE550 GE555⟩
        rw [if_neg c244] at H
        exact absurd (Option.some.inj H) Z93
       rw [if_neg c243] at H
       have c243b0 : (t521 == 0) = false := beq_eq_false_iff_ne.mpr c243
       have c243b1 : (t521 != 0) = true := bne_iff_ne.mpr c243
       obtain rfl := Option.some.inj H
       have hnb316 := NB531_523.out
       have hnc316 := NB523_531.out
       have hnb317 := NB531_524.out
       have hnc317 := NB524_531.out
       have hnb318 := NB531_538.out
       have hnc318 := NB538_531.out
       obtain ⟨hcz319_0, hcz319_1, hcz319_2, hfz319_0, hfz319_1, hfz319_2⟩ := sqY3 BK531
       try go_wp2_with (first | ((with_reducible refine gate_callee (f := 17) rfl ?_); refine goesL_ (some 58) rfl rfl Tryz.func17 (by kernel_rfl) rfl #[.agg #[.int .i64 t525, .int .i64 t526, .slice Ao19 t527.length co19], .agg #[.int .i64 4, .string (⟨#[]⟩ : ByteArray)]] rfl sqA ?_; (with_reducible refine (impl_DeskDo.calls kj5 t525 t526 _ _ t527 4 (⟨#[]⟩ : ByteArray) t544 t545 t546 true _ ?sideG ?side1 ?side2 A49.out).mono ?_); (case sideG => exact Glob.below hG (sqB4 HB GE523 GE524 GE531 GE538)); (case side1 => exact Z30 HO_532002); (case side2 => exact Z31 HO_532002); rintro e w320 ⟨v547, rfl, ho0, hb⟩; refine ⟨_, rfl, ?_⟩; have HO548 := Aside0.mk (Kd.R_lower (Kd.R_new' (Kd.R_new' (Kd.R_new' ho0 (Kd.Q_lt (Z29 HO_524002))) (Kd.R_lt (sqR HO_532002))) (Kd.Q_lt (Z29 HO_539002))) (below_size (sqB4 HB GE523 GE524 GE531 GE538))); replace HO_524002 := Aside0.mk (Kd.Q_elder' (Z29 HO_524002) (Kd.R_base ho0) hb); replace HO_532002 := Aside0.mk (Kd.R_elder' (sqR HO_532002) (Kd.R_base ho0) hb); replace HO_539002 := Aside0.mk (Kd.Q_elder' (Z29 HO_539002) (Kd.R_base ho0) hb); replace BK523 := sqT BK523 hb; replace BK524 := sqT BK524 hb; replace BK531 := sqT BK531 hb; replace BK538 := sqT BK538 hb; replace HB := sqS (sqB4 HB GE523 GE524 GE531 GE538) hb; (try clear hb); (try clear ho0)) | ((with_reducible refine gate_dst (N := 9) rfl ?_); (try (refine gate_guard (by rfl) ?_; dsimp only)); refine sqBox (N := 9) (cs := #[.int .i64 0, .int .i64 0, .slice none 0 0]) (t := 34) ?_; intro gb550 hg w321 BK550 hb; replace HO_524002 := Aside0.mk (Kd.Q_below (Z29 HO_524002) hb); replace HO_532002 := sqU HO_532002 hb; replace HO_539002 := Aside0.mk (Kd.Q_below (Z29 HO_539002) hb); replace HO548 := sqU HO548 hb; have GW550 := Aside0.mk ((sqG hg (sqB4 HB GE523 GE524 GE531 GE538))); have GE550 := GW550; replace HB := sqS (sqB4 HB GE523 GE524 GE531 GE538) hb; obtain ⟨NB523_550, NB550_523⟩ := sqM hg BK523; replace BK523 := sqT BK523 hb; obtain ⟨NB524_550, NB550_524⟩ := sqM hg BK524; replace BK524 := sqT BK524 hb; obtain ⟨NB531_550, NB550_531⟩ := sqM hg BK531; replace BK531 := sqT BK531 hb; obtain ⟨NB538_550, NB550_538⟩ := sqM hg BK538; replace BK538 := sqT BK538 hb; clear hb hg; have hnb322 := NB550_523.out; have hnc322 := NB523_550.out; have hnb323 := NB550_524.out; have hnc323 := NB524_550.out; have hnb324 := NB550_531.out; have hnc324 := NB531_550.out; have hnb325 := NB550_538.out; have hnc325 := NB538_550.out; obtain ⟨hcz326_0, hcz326_1, hcz326_2, hfz326_0, hfz326_1, hfz326_2⟩ := sqY3 BK550; obtain ⟨Ao327, co327, eo327⟩ := Kd.R_slice HO548.out; subst eo327))
       obtain ⟨w328, hw_⟩ : ∃ w_, ((w321.setCell ⟨gb550, 0, none⟩ (.int .i64 t544)).setCell ⟨gb550, 1, none⟩ (.int .i64 t545)).setCell ⟨gb550, 2, none⟩ (.slice Ao327 t546.length co327) = w_ := ⟨_, rfl⟩
       replace HO_524002 : Aside0 (Kd.Q k31 31 w328 w.heap.size (fun k_ => some k_ ≠ (.slice Ao19 t527.length co19 : Value).ownBlock ∧ some k_ ≠ (.slice Ao28 t534.length co28 : Value).ownBlock ∧ some k_ ≠ (.slice Ao327 t546.length co327 : Value).ownBlock) (.slice Ao12 t518.length co12) t518) := by rw [← hw_]; exact ⟨Z98 HO_524002 BK550⟩
       replace HO_532002 : Aside0 (Kd.R k31 31 w328 w.heap.size (fun k_ => some k_ ≠ (.slice Ao12 t518.length co12 : Value).ownBlock ∧ some k_ ≠ (.slice Ao28 t534.length co28 : Value).ownBlock ∧ some k_ ≠ (.slice Ao327 t546.length co327 : Value).ownBlock) (.slice Ao19 t527.length co19) t527) := by rw [← hw_]; exact ⟨by (with_reducible repeat (first | apply Kd.R_alloc | apply Kd.R_drewN | apply Kd.R_drew)); exact Kd.R_mono (Kd.R_far (p := ⟨gb550, 2, none⟩) (Kd.R_far (p := ⟨gb550, 1, none⟩) (Kd.R_far (p := ⟨gb550, 0, none⟩) (Kd.R_types HO_532002.out BK550.out (by decide)) (fun _ hk => hk.2) (.int .i64 t544)) (fun _ hk => hk.2) (.int .i64 t545)) (fun _ hk => hk.2) (.slice Ao327 t546.length co327)) (fun _ hk => ⟨hk.1.1.1, ⟨hk.1.1.2, hk.1.2⟩⟩)⟩
       replace HO_539002 : Aside0 (Kd.Q k31 31 w328 w.heap.size (fun k_ => some k_ ≠ (.slice Ao12 t518.length co12 : Value).ownBlock ∧ some k_ ≠ (.slice Ao19 t527.length co19 : Value).ownBlock ∧ some k_ ≠ (.slice Ao327 t546.length co327 : Value).ownBlock) (.slice Ao28 t534.length co28) t534) := by rw [← hw_]; exact ⟨Z98 HO_539002 BK550⟩
       replace HO548 : Aside0 (Kd.R k31 31 w328 w.heap.size (fun k_ => some k_ ≠ (.slice Ao12 t518.length co12 : Value).ownBlock ∧ some k_ ≠ (.slice Ao19 t527.length co19 : Value).ownBlock ∧ some k_ ≠ (.slice Ao28 t534.length co28 : Value).ownBlock) (.slice Ao327 t546.length co327) t546) := by rw [← hw_]; exact ⟨by (with_reducible repeat (first | apply Kd.R_alloc | apply Kd.R_drewN | apply Kd.R_drew)); exact Kd.R_mono (Kd.R_far (p := ⟨gb550, 2, none⟩) (Kd.R_far (p := ⟨gb550, 1, none⟩) (Kd.R_far (p := ⟨gb550, 0, none⟩) (Kd.R_types HO548.out BK550.out (by decide)) (fun _ hk => hk.2) (.int .i64 t544)) (fun _ hk => hk.2) (.int .i64 t545)) (fun _ hk => hk.2) (.slice Ao327 t546.length co327)) (fun _ hk => ⟨hk.1.1.1.2, ⟨hk.1.1.2, hk.1.2⟩⟩)⟩
       replace BK523 : Aside0 (w328.heap[gb523]? = some (.cells #[.int .i64 t516, .int .i64 t517, .slice Ao12 t518.length co12] 34 (0, 0))) := by rw [← hw_]; exact ⟨Z20 NB523_550 BK523⟩
       replace BK524 : Aside0 (w328.heap[gb524]? = some (.cells #[.int .i64 t521, .string t522] 38 (0, 0))) := by rw [← hw_]; exact ⟨Z20 NB524_550 BK524⟩
       replace BK531 : Aside0 (w328.heap[gb531]? = some (.cells #[.int .i64 t525, .int .i64 t526, .slice Ao19 t527.length co19] 34 (0, 0))) := by rw [← hw_]; exact ⟨Z20 NB531_550 BK531⟩
       replace BK538 : Aside0 (w328.heap[gb538]? = some (.cells #[.int .i64 t532, .int .i64 t533, .slice Ao28 t534.length co28] 34 (0, 0))) := by rw [← hw_]; exact ⟨Z20 NB538_550 BK538⟩
       replace BK550 : Aside0 (w328.heap[gb550]? = some (.cells #[.int .i64 t544, .int .i64 t545, .slice Ao327 t546.length co327] 34 (0, 0))) := by rw [← hw_]; exact ⟨Z85 BK550⟩
       replace HB : Aside0 (Below w.heap.size w w328) := by rw [← hw_]; exact ⟨Z26 GE523 GE524 GE531 GE538 GE550⟩
       rw [hw_]; clear hw_
       replace HO_524002 := Aside0.mk (Kd.Q_drew HO_524002.out)
       replace HO_532002 := Aside0.mk (Kd.R_drew HO_532002.out)
       replace HO_539002 := Aside0.mk (Kd.Q_drew HO_539002.out)
       replace HO548 := Aside0.mk (Kd.R_drew HO548.out)
       replace BK523 := Aside0.mk (blk_drew BK523.out)
       replace BK524 := Aside0.mk (blk_drew BK524.out)
       replace BK531 := Aside0.mk (blk_drew BK531.out)
       replace BK538 := Aside0.mk (blk_drew BK538.out)
       replace BK550 := Aside0.mk (blk_drew BK550.out)
       replace HB := Aside0.mk (below_drew1 HB.out)
       refine start_ (n := 12) (S := fun w' => w'.cell? ⟨gb531, 0, none⟩ = some (.int .i64 t525) ∧ w'.cell? ⟨gb531, 1, none⟩ = some (.int .i64 t526) ∧ w'.cell? ⟨gb531, 2, none⟩ = some (.slice Ao19 t527.length co19) ∧ w'.cell? ⟨gb524, 0, none⟩ = some (.int .i64 t521) ∧ w'.cell? ⟨gb524, 1, none⟩ = some (.string t522)) (ds := []) #[false, false, false, false, false, false, false, false, false, false, false, false] (by kernel_rfl) rfl rfl ⟨(blk_cell BK531.out 0).trans rfl, (blk_cell BK531.out 1).trans rfl, (blk_cell BK531.out 2).trans rfl, (blk_cell BK524.out 0).trans rfl, (blk_cell BK524.out 1).trans rfl⟩ (fun hHeld => ?_); refine with_tabW laws_FnDeskDo.tab11 laws_FnDeskDo.bits11 (fun HT_ HW_ => ?_)
       generalize w328.drew = w329 at HO_524002 HO_532002 HO_539002 HO548 BK523 BK524 BK531 BK538 BK550 HB hHeld ⊢
       refine sqP (i := 0) (N := some 62) (h := ?_)
       refine sqP (i := 2) (N := some 64) (h := ?_)
       refine sqQ (i := 1) (N := some 63) hHeld (h := ?_)
       refine sqQ (i := 3) (N := some 65) hHeld (h := ?_)
       refine join_ (σ := Nat) 2 #[true, true, true, true, true, true, true, true, true, true, false, false] (fun s_ => [(66, .string t551), (67, .tuple #[.agg #[.int .i64 t552, .int .i64 t553], .bool t554]), (11, .pointer (some ⟨s_, 0, none⟩)), (61, .tuple #[.agg #[.int .i64 t552, .int .i64 t553], .bool t554]), (68, .agg #[.int .i64 t552, .int .i64 t553]), (69, .bool t554)]) (fun s_ w' => (w'.cell? ⟨gb531, 0, none⟩ = some (.int .i64 t525) ∧ w'.cell? ⟨gb531, 1, none⟩ = some (.int .i64 t526) ∧ w'.cell? ⟨gb531, 2, none⟩ = some (.slice Ao19 t527.length co19) ∧ w'.cell? ⟨gb524, 0, none⟩ = some (.int .i64 t521) ∧ w'.cell? ⟨gb524, 1, none⟩ = some (.string t522)) ∧ (Kd.R k31 31 w' w.heap.size (fun k_ => some k_ ≠ (.slice Ao12 t518.length co12 : Value).ownBlock ∧ some k_ ≠ (.slice Ao19 t527.length co19 : Value).ownBlock ∧ some k_ ≠ (.slice Ao28 t534.length co28 : Value).ownBlock ∧ k_ ≠ s_) (.slice Ao327 t546.length co327) t546) ∧ (Kd.Q k31 31 w' w.heap.size (fun k_ => some k_ ≠ (.slice Ao327 t546.length co327 : Value).ownBlock ∧ some k_ ≠ (.slice Ao19 t527.length co19 : Value).ownBlock ∧ some k_ ≠ (.slice Ao28 t534.length co28 : Value).ownBlock ∧ k_ ≠ s_) (.slice Ao12 t518.length co12) t518) ∧ (Kd.R k31 31 w' w.heap.size (fun k_ => some k_ ≠ (.slice Ao327 t546.length co327 : Value).ownBlock ∧ some k_ ≠ (.slice Ao12 t518.length co12 : Value).ownBlock ∧ some k_ ≠ (.slice Ao28 t534.length co28 : Value).ownBlock ∧ k_ ≠ s_) (.slice Ao19 t527.length co19) t527) ∧ (Kd.Q k31 31 w' w.heap.size (fun k_ => some k_ ≠ (.slice Ao327 t546.length co327 : Value).ownBlock ∧ some k_ ≠ (.slice Ao12 t518.length co12 : Value).ownBlock ∧ some k_ ≠ (.slice Ao19 t527.length co19 : Value).ownBlock ∧ k_ ≠ s_) (.slice Ao28 t534.length co28) t534) ∧ (w'.heap[gb523]? = some (.cells #[.int .i64 t516, .int .i64 t517, .slice Ao12 t518.length co12] 34 (0, 0))) ∧ (w'.heap[gb524]? = some (.cells #[.int .i64 t521, .string t522] 38 (0, 0))) ∧ (w'.heap[gb531]? = some (.cells #[.int .i64 t525, .int .i64 t526, .slice Ao19 t527.length co19] 34 (0, 0))) ∧ (w'.heap[gb538]? = some (.cells #[.int .i64 t532, .int .i64 t533, .slice Ao28 t534.length co28] 34 (0, 0))) ∧ (w'.heap[gb550]? = some (.cells #[.int .i64 t544, .int .i64 t545, .slice Ao327 t546.length co327] 34 (0, 0))) ∧ (w'.heap[s_]? = some (.cells #[.int .i64 0, .int .i64 0] 31 (0, 0))) ∧ (w.heap.size ≤ s_) ∧ (w.heap.size ≤ s_) ∧ (gb523 ≠ s_) ∧ (s_ ≠ gb523) ∧ (gb524 ≠ s_) ∧ (s_ ≠ gb524) ∧ (gb531 ≠ s_) ∧ (s_ ≠ gb531) ∧ (gb538 ≠ s_) ∧ (s_ ≠ gb538) ∧ (gb550 ≠ s_) ∧ (s_ ≠ gb550) ∧ (Below w.heap.size w w')) ?_ ?_
       rotate_left
       ·intro hCont
        refine two_ (i := 4) (j := 9) (Ni := some 66) (Nj := some 11) #[true, true, true, true, true, false, false, false, false, false, false, false] #[true, true, true, true, false, false, false, false, false, true, false, false] rfl rfl rfl rfl (two_of HT_.out (by kernel_rfl)) (by decide) (by decide) (fun K hK => ?_) (fun K hK => ?_)
        ·skip
         refine goes_ Tryz.func26 (by kernel_rfl) rfl #[.string t522] (by rfl) rfl rfl sqA ?_
         with_reducible refine (impl_BackOf.calls kj5 t522 t551 _ A50.out).mono ?_
         rintro e w330 ⟨rfl, hb⟩
         refine ⟨_, rfl, ?_⟩
         replace HO_524002 := Aside0.mk (Kd.Q_below (Z29 HO_524002) hb)
         replace HO_532002 := sqU HO_532002 hb
         replace HO_539002 := Aside0.mk (Kd.Q_below (Z29 HO_539002) hb)
         replace HO548 := sqU HO548 hb
         replace BK523 := sqT BK523 hb
         replace BK524 := sqT BK524 hb
         replace BK531 := sqT BK531 hb
         replace BK538 := sqT BK538 hb
         replace BK550 := sqT BK550 hb
         replace HB := Aside0.mk (below_step (Z26 GE523 GE524 GE531 GE538 GE550) hb)
         (try clear hb)
         (try clear hb2)
         (try clear hk)
         (try clear hi)
         refine hK.out _ _ ⟨(blk_cell BK531.out 0).trans rfl, (blk_cell BK531.out 1).trans rfl, (blk_cell BK531.out 2).trans rfl, (blk_cell BK524.out 0).trans rfl, (blk_cell BK524.out 1).trans rfl⟩ (fun hHeld => ?_)
         clear hK K
         refine sqN (some 66) ?_
         refine two_ (i := 5) (j := 9) (Ni := some 67) (Nj := some 11) #[true, true, true, true, true, true, false, false, false, false, false, false] #[true, true, true, true, true, false, false, false, false, true, false, false] rfl rfl rfl rfl (two_of HT_.out (by kernel_rfl)) (by decide) (by decide) (fun K hK => ?_) (fun K hK => ?_)
         ·skip
          refine goes_ Tryz.func25 (by kernel_rfl) rfl #[.agg #[.int .i64 t525, .int .i64 t526], .string t551] (by rfl) rfl rfl sqA ?_
          with_reducible refine (impl_DancedFrom.calls kj5 t525 t526 t551 t552 t553 t554 _ A51.out).mono ?_
          rintro e w331 ⟨rfl, hb⟩
          refine ⟨_, rfl, ?_⟩
          replace HO_524002 := Aside0.mk (Kd.Q_below (Z29 HO_524002) hb)
          replace HO_532002 := sqU HO_532002 hb
          replace HO_539002 := Aside0.mk (Kd.Q_below (Z29 HO_539002) hb)
          replace HO548 := sqU HO548 hb
          replace BK523 := sqT BK523 hb
          replace BK524 := sqT BK524 hb
          replace BK531 := sqT BK531 hb
          replace BK538 := sqT BK538 hb
          replace BK550 := sqT BK550 hb
          replace HB := Aside0.mk (below_step (Z26 GE523 GE524 GE531 GE538 GE550) hb)
          (try clear hb)
          (try clear hb2)
          (try clear hk)
          (try clear hi)
          refine hK.out _ _ ⟨(blk_cell BK531.out 0).trans rfl, (blk_cell BK531.out 1).trans rfl, (blk_cell BK531.out 2).trans rfl, (blk_cell BK524.out 0).trans rfl, (blk_cell BK524.out 1).trans rfl⟩ (fun hHeld => ?_)
          clear hK K
          refine sqN (some 67) ?_
          refine sqP (i := 6) (N := some 61) (h := ?_)
          refine sqP (i := 7) (N := some 68) (h := ?_)
          refine sqP (i := 8) (N := some 69) (h := ?_)
          refine one_ (i := 9) (N := some 11) #[true, true, true, true, true, true, true, true, true, true, false, false] rfl rfl (one_of HT_.out (by kernel_rfl)) (by decide) (fun K hK => ?_)
          refine box_step ?hg (N := 11) ?hd (cs := #[.int .i64 0, .int .i64 0]) (t := 31) ?hr ?_; (case hd => rfl); (case hg => rfl); (case hr => exact Z7)
          intro gb555 hg w332 hbox hb
          replace HO_524002 := Aside0.mk (Kd.Q_below (Kd.Q_elderB (Z29 HO_524002) gb555 (Nat.le_of_eq hg.symm)) hb)
          replace HO_532002 := Aside0.mk (Kd.R_below (Kd.R_elderB (sqR HO_532002) gb555 (Nat.le_of_eq hg.symm)) hb)
          replace HO_539002 := Aside0.mk (Kd.Q_below (Kd.Q_elderB (Z29 HO_539002) gb555 (Nat.le_of_eq hg.symm)) hb)
          replace HO548 := Aside0.mk (Kd.R_below (Kd.R_elderB (sqR HO548) gb555 (Nat.le_of_eq hg.symm)) hb)
          have BK555 := Aside0.mk (hbox)
          have GW555 := Aside0.mk ((Z115 GE523 GE524 GE531 GE538 GE550 : w.heap.size ≤ gb555))
          have GE555 := Aside0.mk ((Z115 GE523 GE524 GE531 GE538 GE550 : w.heap.size ≤ gb555))
          replace HB := Aside0.mk (below_step (Z26 GE523 GE524 GE531 GE538 GE550) hb)
          obtain ⟨NB523_555, NB555_523⟩ := sqM hg BK523
          replace BK523 := sqT BK523 hb
          obtain ⟨NB524_555, NB555_524⟩ := sqM hg BK524
          replace BK524 := sqT BK524 hb
          obtain ⟨NB531_555, NB555_531⟩ := sqM hg BK531
          replace BK531 := sqT BK531 hb
          obtain ⟨NB538_555, NB555_538⟩ := sqM hg BK538
          replace BK538 := sqT BK538 hb
          obtain ⟨NB550_555, NB555_550⟩ := sqM hg BK550
          replace BK550 := sqT BK550 hb
          clear hb hbox hg
          refine hK.out _ _ ⟨(blk_cell BK531.out 0).trans rfl, (blk_cell BK531.out 1).trans rfl, (blk_cell BK531.out 2).trans rfl, (blk_cell BK524.out 0).trans rfl, (blk_cell BK524.out 1).trans rfl⟩ (fun hHeld => ?_)
          clear hK K
          refine sqN (some 11) ?_
          exact norm_ Z51 (hCont (gb555) _ ⟨hHeld, (Z86 HO548), (Z87 HO_524002), (Z88 HO_532002), (Z87 HO_539002), (sqK BK523), (sqK BK524), (sqK BK531), (sqK BK538), (sqK BK550), (sqK BK555), GW555.out, GE555.out, NB523_555.out, NB555_523.out, NB524_555.out, NB555_524.out, NB531_555.out, NB555_531.out, NB538_555.out, NB555_538.out, NB550_555.out, NB555_550.out, (Z89 GE523 GE524 GE531 GE538 GE550 GE555)⟩)
         ·skip
          refine box_step ?hg (N := 11) ?hd (cs := #[.int .i64 0, .int .i64 0]) (t := 31) ?hr ?_; (case hd => rfl); (case hg => rfl); (case hr => exact Z7)
          intro gb555 hg w331 hbox hb
          replace HO_524002 := Aside0.mk (Kd.Q_below (Kd.Q_elderB (Z29 HO_524002) gb555 (Nat.le_of_eq hg.symm)) hb)
          replace HO_532002 := Aside0.mk (Kd.R_below (Kd.R_elderB (sqR HO_532002) gb555 (Nat.le_of_eq hg.symm)) hb)
          replace HO_539002 := Aside0.mk (Kd.Q_below (Kd.Q_elderB (Z29 HO_539002) gb555 (Nat.le_of_eq hg.symm)) hb)
          replace HO548 := Aside0.mk (Kd.R_below (Kd.R_elderB (sqR HO548) gb555 (Nat.le_of_eq hg.symm)) hb)
          have BK555 := Aside0.mk (hbox)
          have GW555 := Aside0.mk ((Z115 GE523 GE524 GE531 GE538 GE550 : w.heap.size ≤ gb555))
          have GE555 := Aside0.mk ((Z115 GE523 GE524 GE531 GE538 GE550 : w.heap.size ≤ gb555))
          replace HB := Aside0.mk (below_step (Z26 GE523 GE524 GE531 GE538 GE550) hb)
          obtain ⟨NB523_555, NB555_523⟩ := sqM hg BK523
          replace BK523 := sqT BK523 hb
          obtain ⟨NB524_555, NB555_524⟩ := sqM hg BK524
          replace BK524 := sqT BK524 hb
          obtain ⟨NB531_555, NB555_531⟩ := sqM hg BK531
          replace BK531 := sqT BK531 hb
          obtain ⟨NB538_555, NB555_538⟩ := sqM hg BK538
          replace BK538 := sqT BK538 hb
          obtain ⟨NB550_555, NB555_550⟩ := sqM hg BK550
          replace BK550 := sqT BK550 hb
          clear hb hbox hg
          refine hK.out _ _ ⟨(blk_cell BK531.out 0).trans rfl, (blk_cell BK531.out 1).trans rfl, (blk_cell BK531.out 2).trans rfl, (blk_cell BK524.out 0).trans rfl, (blk_cell BK524.out 1).trans rfl⟩ (fun hHeld => ?_)
          clear hK K
          refine sqN (some 11) ?_
          refine one_ (i := 5) (N := some 67) #[true, true, true, true, true, true, false, false, false, true, false, false] rfl rfl (one_of HT_.out (by kernel_rfl)) (by decide) (fun K hK => ?_)
          refine goes_ Tryz.func25 (by kernel_rfl) rfl #[.agg #[.int .i64 t525, .int .i64 t526], .string t551] (by rfl) rfl rfl sqA ?_
          with_reducible refine (impl_DancedFrom.calls kj5 t525 t526 t551 t552 t553 t554 _ A51.out).mono ?_
          rintro e w332 ⟨rfl, hb⟩
          refine ⟨_, rfl, ?_⟩
          replace HO_524002 := Aside0.mk (Kd.Q_below (Z29 HO_524002) hb)
          replace HO_532002 := sqU HO_532002 hb
          replace HO_539002 := Aside0.mk (Kd.Q_below (Z29 HO_539002) hb)
          replace HO548 := sqU HO548 hb
          replace BK523 := sqT BK523 hb
          replace BK524 := sqT BK524 hb
          replace BK531 := sqT BK531 hb
          replace BK538 := sqT BK538 hb
          replace BK550 := sqT BK550 hb
          replace BK555 := sqT BK555 hb
          replace HB := Aside0.mk (below_step (Z89 GE523 GE524 GE531 GE538 GE550 GE555) hb)
          (try clear hb)
          (try clear hb2)
          (try clear hk)
          (try clear hi)
          refine hK.out _ _ ⟨(blk_cell BK531.out 0).trans rfl, (blk_cell BK531.out 1).trans rfl, (blk_cell BK531.out 2).trans rfl, (blk_cell BK524.out 0).trans rfl, (blk_cell BK524.out 1).trans rfl⟩ (fun hHeld => ?_)
          clear hK K
          refine sqN (some 67) ?_
          refine sqP (i := 6) (N := some 61) (h := ?_)
          refine sqP (i := 7) (N := some 68) (h := ?_)
          refine sqP (i := 8) (N := some 69) (h := ?_)
          exact norm_ Z51 (hCont (gb555) _ ⟨hHeld, (Z86 HO548), (Z87 HO_524002), (Z88 HO_532002), (Z87 HO_539002), (sqK BK523), (sqK BK524), (sqK BK531), (sqK BK538), (sqK BK550), (sqK BK555), GW555.out, GE555.out, NB523_555.out, NB555_523.out, NB524_555.out, NB555_524.out, NB531_555.out, NB555_531.out, NB538_555.out, NB555_538.out, NB550_555.out, NB555_550.out, (Z89 GE523 GE524 GE531 GE538 GE550 GE555)⟩)
        ·skip
         refine box_step ?hg (N := 11) ?hd (cs := #[.int .i64 0, .int .i64 0]) (t := 31) ?hr ?_; (case hd => rfl); (case hg => rfl); (case hr => exact Z7)
         intro gb555 hg w330 hbox hb
         replace HO_524002 := Aside0.mk (Kd.Q_below (Kd.Q_elderB (Z29 HO_524002) gb555 (Nat.le_of_eq hg.symm)) hb)
         replace HO_532002 := Aside0.mk (Kd.R_below (Kd.R_elderB (sqR HO_532002) gb555 (Nat.le_of_eq hg.symm)) hb)
         replace HO_539002 := Aside0.mk (Kd.Q_below (Kd.Q_elderB (Z29 HO_539002) gb555 (Nat.le_of_eq hg.symm)) hb)
         replace HO548 := Aside0.mk (Kd.R_below (Kd.R_elderB (sqR HO548) gb555 (Nat.le_of_eq hg.symm)) hb)
         have BK555 := Aside0.mk (hbox)
         have GW555 := Aside0.mk ((Z115 GE523 GE524 GE531 GE538 GE550 : w.heap.size ≤ gb555))
         have GE555 := Aside0.mk ((Z115 GE523 GE524 GE531 GE538 GE550 : w.heap.size ≤ gb555))
         replace HB := Aside0.mk (below_step (Z26 GE523 GE524 GE531 GE538 GE550) hb)
         obtain ⟨NB523_555, NB555_523⟩ := sqM hg BK523
         replace BK523 := sqT BK523 hb
         obtain ⟨NB524_555, NB555_524⟩ := sqM hg BK524
         replace BK524 := sqT BK524 hb
         obtain ⟨NB531_555, NB555_531⟩ := sqM hg BK531
         replace BK531 := sqT BK531 hb
         obtain ⟨NB538_555, NB555_538⟩ := sqM hg BK538
         replace BK538 := sqT BK538 hb
         obtain ⟨NB550_555, NB555_550⟩ := sqM hg BK550
         replace BK550 := sqT BK550 hb
         clear hb hbox hg
         refine hK.out _ _ ⟨(blk_cell BK531.out 0).trans rfl, (blk_cell BK531.out 1).trans rfl, (blk_cell BK531.out 2).trans rfl, (blk_cell BK524.out 0).trans rfl, (blk_cell BK524.out 1).trans rfl⟩ (fun hHeld => ?_)
         clear hK K
         refine sqN (some 11) ?_
         refine one_ (i := 4) (N := some 66) #[true, true, true, true, true, false, false, false, false, true, false, false] rfl rfl (one_of HT_.out (by kernel_rfl)) (by decide) (fun K hK => ?_)
         refine goes_ Tryz.func26 (by kernel_rfl) rfl #[.string t522] (by rfl) rfl rfl sqA ?_
         with_reducible refine (impl_BackOf.calls kj5 t522 t551 _ A50.out).mono ?_
         rintro e w331 ⟨rfl, hb⟩
         refine ⟨_, rfl, ?_⟩
         replace HO_524002 := Aside0.mk (Kd.Q_below (Z29 HO_524002) hb)
         replace HO_532002 := sqU HO_532002 hb
         replace HO_539002 := Aside0.mk (Kd.Q_below (Z29 HO_539002) hb)
         replace HO548 := sqU HO548 hb
         replace BK523 := sqT BK523 hb
         replace BK524 := sqT BK524 hb
         replace BK531 := sqT BK531 hb
         replace BK538 := sqT BK538 hb
         replace BK550 := sqT BK550 hb
         replace BK555 := sqT BK555 hb
         replace HB := Aside0.mk (below_step (Z89 GE523 GE524 GE531 GE538 GE550 GE555) hb)
         (try clear hb)
         (try clear hb2)
         (try clear hk)
         (try clear hi)
         refine hK.out _ _ ⟨(blk_cell BK531.out 0).trans rfl, (blk_cell BK531.out 1).trans rfl, (blk_cell BK531.out 2).trans rfl, (blk_cell BK524.out 0).trans rfl, (blk_cell BK524.out 1).trans rfl⟩ (fun hHeld => ?_)
         clear hK K
         refine sqN (some 66) ?_
         refine one_ (i := 5) (N := some 67) #[true, true, true, true, true, true, false, false, false, true, false, false] rfl rfl (one_of HT_.out (by kernel_rfl)) (by decide) (fun K hK => ?_)
         refine goes_ Tryz.func25 (by kernel_rfl) rfl #[.agg #[.int .i64 t525, .int .i64 t526], .string t551] (by rfl) rfl rfl sqA ?_
         with_reducible refine (impl_DancedFrom.calls kj5 t525 t526 t551 t552 t553 t554 _ A51.out).mono ?_
         rintro e w332 ⟨rfl, hb⟩
         refine ⟨_, rfl, ?_⟩
         replace HO_524002 := Aside0.mk (Kd.Q_below (Z29 HO_524002) hb)
         replace HO_532002 := sqU HO_532002 hb
         replace HO_539002 := Aside0.mk (Kd.Q_below (Z29 HO_539002) hb)
         replace HO548 := sqU HO548 hb
         replace BK523 := sqT BK523 hb
         replace BK524 := sqT BK524 hb
         replace BK531 := sqT BK531 hb
         replace BK538 := sqT BK538 hb
         replace BK550 := sqT BK550 hb
         replace BK555 := sqT BK555 hb
         replace HB := Aside0.mk (below_step (Z89 GE523 GE524 GE531 GE538 GE550 GE555) hb)
         (try clear hb)
         (try clear hb2)
         (try clear hk)
         (try clear hi)
         refine hK.out _ _ ⟨(blk_cell BK531.out 0).trans rfl, (blk_cell BK531.out 1).trans rfl, (blk_cell BK531.out 2).trans rfl, (blk_cell BK524.out 0).trans rfl, (blk_cell BK524.out 1).trans rfl⟩ (fun hHeld => ?_)
         clear hK K
         refine sqN (some 67) ?_
         refine sqP (i := 6) (N := some 61) (h := ?_)
         refine sqP (i := 7) (N := some 68) (h := ?_)
         refine sqP (i := 8) (N := some 69) (h := ?_)
         exact norm_ Z51 (hCont (gb555) _ ⟨hHeld, (Z86 HO548), (Z87 HO_524002), (Z88 HO_532002), (Z87 HO_539002), (sqK BK523), (sqK BK524), (sqK BK531), (sqK BK538), (sqK BK550), (sqK BK555), GW555.out, GE555.out, NB523_555.out, NB555_523.out, NB524_555.out, NB555_524.out, NB531_555.out, NB555_531.out, NB538_555.out, NB555_538.out, NB550_555.out, NB555_550.out, (Z89 GE523 GE524 GE531 GE538 GE550 GE555)⟩)
       rintro gb555 w333 ⟨hS_, h0_, h1_, h2_, h3_, h4_, h5_, h6_, h7_, h8_, h9_, h10_, h11_, h12_, h13_, h14_, h15_, h16_, h17_, h18_, h19_, h20_, h21_, h22_⟩
       replace HO548 := Aside0.mk h0_
       replace HO_524002 := Aside0.mk h1_
       replace HO_532002 := Aside0.mk h2_
       replace HO_539002 := Aside0.mk h3_
       replace BK523 := Aside0.mk h4_
       replace BK524 := Aside0.mk h5_
       replace BK531 := Aside0.mk h6_
       replace BK538 := Aside0.mk h7_
       replace BK550 := Aside0.mk h8_
       replace BK555 := Aside0.mk h9_
       replace GW555 := Aside0.mk h10_
       replace GE555 := Aside0.mk h11_
       replace NB523_555 := Aside0.mk h12_
       replace NB555_523 := Aside0.mk h13_
       replace NB524_555 := Aside0.mk h14_
       replace NB555_524 := Aside0.mk h15_
       replace NB531_555 := Aside0.mk h16_
       replace NB555_531 := Aside0.mk h17_
       replace NB538_555 := Aside0.mk h18_
       replace NB555_538 := Aside0.mk h19_
       replace NB550_555 := Aside0.mk h20_
       replace NB555_550 := Aside0.mk h21_
       replace HB := Aside0.mk h22_
       clear h0_ h1_ h2_ h3_ h4_ h5_ h6_ h7_ h8_ h9_ h10_ h11_ h12_ h13_ h14_ h15_ h16_ h17_ h18_ h19_ h20_ h21_ h22_
       have hHeld : w333.cell? ⟨gb531, 0, none⟩ = some (.int .i64 t525) ∧ w333.cell? ⟨gb531, 1, none⟩ = some (.int .i64 t526) ∧ w333.cell? ⟨gb531, 2, none⟩ = some (.slice Ao19 t527.length co19) ∧ w333.cell? ⟨gb524, 0, none⟩ = some (.int .i64 t521) ∧ w333.cell? ⟨gb524, 1, none⟩ = some (.string t522) := hS_
       refine norm_ (a' := ?_) ?_ ?_
       rotate_left
       ·simp only [putAll, Act.put, List.setIfInBounds_toArray, List.set_cons_zero, List.set_cons_succ]
        rfl
       refine one_ (i := 10) (N := none) #[true, true, true, true, true, true, true, true, true, true, true, false] rfl rfl (one_of HT_.out (by kernel_rfl)) (by decide) (fun K hK => ?_)
       have hs334 : w333.cell? ⟨gb555, 0, none⟩ = some (.int .i64 0) := (blk_cell BK555.out 0).trans rfl
       have hfs334 := blk_frozen BK555.out 0
       have hns334_0 := NB523_555.out
       have hns334_1 := NB524_555.out
       have hns334_2 := NB531_555.out
       have hns334_3 := NB538_555.out
       have hns334_4 := NB550_555.out
       have hms334_0 := NB555_523.out
       have hms334_1 := NB555_524.out
       have hms334_2 := NB555_531.out
       have hms334_3 := NB555_538.out
       have hms334_4 := NB555_550.out
       have hs335 : w333.cell? ⟨gb555, 1, none⟩ = some (.int .i64 0) := (blk_cell BK555.out 1).trans rfl
       have hfs335 := blk_frozen BK555.out 1
       have hns335_0 := NB523_555.out
       have hns335_1 := NB524_555.out
       have hns335_2 := NB531_555.out
       have hns335_3 := NB538_555.out
       have hns335_4 := NB550_555.out
       have hms335_0 := NB555_523.out
       have hms335_1 := NB555_524.out
       have hms335_2 := NB555_531.out
       have hms335_3 := NB555_538.out
       have hms335_4 := NB555_550.out
       refine skip_ (w1 := ?_) (by rfl) rfl ?_ ?_
       rotate_left
       ·go_simp
        rfl
       refine hK.out _ _ ⟨((cell_far (p := ⟨gb555, _, none⟩) NB531_555.out _).trans (((cell_far (p := ⟨gb555, _, none⟩) NB531_555.out _).trans (hHeld.1)))), ((cell_far (p := ⟨gb555, _, none⟩) NB531_555.out _).trans (((cell_far (p := ⟨gb555, _, none⟩) NB531_555.out _).trans (hHeld.2.1)))), ((cell_far (p := ⟨gb555, _, none⟩) NB531_555.out _).trans (((cell_far (p := ⟨gb555, _, none⟩) NB531_555.out _).trans (hHeld.2.2.1)))), ((cell_far (p := ⟨gb555, _, none⟩) NB524_555.out _).trans (((cell_far (p := ⟨gb555, _, none⟩) NB524_555.out _).trans (hHeld.2.2.2.1)))), ((cell_far (p := ⟨gb555, _, none⟩) NB524_555.out _).trans (((cell_far (p := ⟨gb555, _, none⟩) NB524_555.out _).trans (hHeld.2.2.2.2))))⟩ (fun hHeld => ?_)
       clear hK K
       refine sqP (i := 11) (N := some 12) (h := ?_)
       refine done_ (done_of HT_.out (by kernel_rfl)) ?_
       have hnb336 := NB531_555.out
       have hnc336 := NB555_531.out
       obtain ⟨hcz337_0, hcz337_1, hcz337_2, hfz337_0, hfz337_1, hfz337_2⟩ := sqY3 BK531
       try go_wp2_with (first | ((with_reducible refine gate_callee (f := 23) rfl ?_); refine goesL_ (some 71) rfl rfl Tryz.func23 (by kernel_rfl) rfl #[.agg #[.int .i64 t525, .int .i64 t526, .slice Ao19 t527.length co19]] rfl sqA ?_; (with_reducible refine (impl_DeskOk.calls kj5 t525 t526 _ _ t527 true _ ?side1 ?side2 A52.out).mono ?_); (case side1 => refine (Kd.R_reads' (e := 31) (base := w.heap.size) (ok := fun k_ => (some k_ ≠ (.slice Ao327 t546.length co327 : Value).ownBlock ∧ (some k_ ≠ (.slice Ao12 t518.length co12 : Value).ownBlock ∧ (some k_ ≠ (.slice Ao28 t534.length co28 : Value).ownBlock ∧ k_ ≠ gb555)))) (n := t527.length) (c := co19) ?_).2.2; exact (Z90 HO_532002)); (case side2 => exact Z31 HO_532002); rintro e w338 ⟨rfl, hb⟩; refine ⟨_, rfl, ?_⟩; replace HO_524002 := Aside0.mk (Kd.Q_below (Z91 HO_524002) hb); replace HO_532002 := Aside0.mk (Kd.R_below (Z90 HO_532002) hb); replace HO_539002 := Aside0.mk (Kd.Q_below (Z91 HO_539002) hb); replace HO548 := Aside0.mk (Kd.R_below (Z90 HO548) hb); replace BK523 := Aside0.mk (blk_below (g := gb523) (o := .cells #[.int .i64 t516, .int .i64 t517, .slice Ao12 t518.length co12] 34 (0, 0)) (Z14 NB523_555 BK523) hb); replace BK524 := Aside0.mk (blk_below (g := gb524) (o := .cells #[.int .i64 t521, .string t522] 38 (0, 0)) (Z14 NB524_555 BK524) hb); replace BK531 := Aside0.mk (blk_below (g := gb531) (o := .cells #[.int .i64 t525, .int .i64 t526, .slice Ao19 t527.length co19] 34 (0, 0)) (Z14 NB531_555 BK531) hb); replace BK538 := Aside0.mk (blk_below (g := gb538) (o := .cells #[.int .i64 t532, .int .i64 t533, .slice Ao28 t534.length co28] 34 (0, 0)) (Z14 NB538_555 BK538) hb); replace BK550 := Aside0.mk (blk_below (g := gb550) (o := .cells #[.int .i64 t544, .int .i64 t545, .slice Ao327 t546.length co327] 34 (0, 0)) (Z14 NB550_555 BK550) hb); replace BK555 := Aside0.mk (blk_below (g := gb555) (o := .cells #[.int .i64 t552, .int .i64 t553] 31 (0, 0)) (Z92 BK555) hb); replace HB := Aside0.mk (below_step (Z89 GE523 GE524 GE531 GE538 GE550 GE555) hb); (try clear hb); have hnb339 := NB524_523.out; have hnc339 := NB523_524.out; have hnb340 := NB524_538.out; have hnc340 := NB538_524.out; have hnb341 := NB524_555.out; have hnc341 := NB555_524.out; obtain ⟨hcz342_0, hcz342_1, hfz342_0, hfz342_1⟩ := sqY2 BK524; have hnb343 := NB523_538.out; have hnc343 := NB538_523.out; have hnb344 := NB523_555.out; have hnc344 := NB555_523.out; obtain ⟨hcz345_0, hcz345_1, hcz345_2, hfz345_0, hfz345_1, hfz345_2⟩ := sqY3 BK523; have hnb346 := NB550_555.out; have hnc346 := NB555_550.out; obtain ⟨hcz347_0, hcz347_1, hcz347_2, hfz347_0, hfz347_1, hfz347_2⟩ := sqY3 BK550) | (go_at_call 22; (with_reducible refine (laws_sameDesk.calls kj5 t544 t545 _ _ t546 t516 t517 _ _ t518 true _ ?side1 ?side2 ?side3 ?side4 A241.out).mono ?_); (case side1 => exact Z30 HO548); (case side2 => exact Z31 HO548); (case side3 => exact Z27 HO_524002); (case side4 => exact Z28 HO_524002); rintro e w348 ⟨rfl, hb⟩; replace HO_524002 := Aside0.mk (Kd.Q_below (Z29 HO_524002) hb); replace HO_532002 := sqU HO_532002 hb; replace HO_539002 := Aside0.mk (Kd.Q_below (Z29 HO_539002) hb); replace HO548 := sqU HO548 hb; replace BK523 := sqT BK523 hb; replace BK524 := sqT BK524 hb; replace BK531 := sqT BK531 hb; replace BK538 := sqT BK538 hb; replace BK550 := sqT BK550 hb; replace BK555 := sqT BK555 hb; replace HB := Aside0.mk (below_step (Z89 GE523 GE524 GE531 GE538 GE550 GE555) hb); (try clear hb); obtain ⟨hcz349_0, hcz349_1, hfz349_0, hfz349_1⟩ := sqY2 BK524))
       go_ret
       exact ⟨Z3, Z89 GE523 GE524 GE531 GE538 GE550 GE555⟩
      rw [if_neg c242] at H
      exact absurd (Option.some.inj H) Z93
     rw [if_neg c240] at H
     exact absurd (Option.some.inj H) Z93
    rw [if_neg c53] at H
    exact absurd (Option.some.inj H) Z93
   replace c48 := Bool.eq_false_iff.mpr c48
   subst c48
   rw [if_neg sqF] at H
   obtain ⟨t540, A436, H⟩ := sqD H
   by_cases c437 : t540 = true
   ·subst c437
    rw [if_pos rfl] at H
    obtain ⟨t541, A438, H⟩ := sqD H
    obtain rfl := Option.some.inj H
    have hnb439 := NB531_523.out
    have hnc439 := NB523_531.out
    have hnb440 := NB531_524.out
    have hnc440 := NB524_531.out
    have hnb441 := NB531_538.out
    have hnc441 := NB538_531.out
    obtain ⟨hcz442_0, hcz442_1, hcz442_2, hfz442_0, hfz442_1, hfz442_2⟩ := sqY3 BK531
    have hnb443 := NB523_524.out
    have hnc443 := NB524_523.out
    have hnb444 := NB523_538.out
    have hnc444 := NB538_523.out
    obtain ⟨hcz445_0, hcz445_1, hcz445_2, hfz445_0, hfz445_1, hfz445_2⟩ := sqY3 BK523
    go_wp2_with (first | ((with_reducible refine gate_callee (f := 22) rfl ?_); refine goesL_ (some 46) rfl rfl Tryz.func22 (by kernel_rfl) rfl #[.agg #[.int .i64 t525, .int .i64 t526, .slice Ao19 t527.length co19], .agg #[.int .i64 t516, .int .i64 t517, .slice Ao12 t518.length co12]] rfl sqA ?_; (with_reducible refine (laws_sameDesk.calls kj5 t525 t526 _ _ t527 t516 t517 _ _ t518 true _ ?side1 ?side2 ?side3 ?side4 A436.out).mono ?_); (case side1 => exact Z30 HO_532002); (case side2 => exact Z31 HO_532002); (case side3 => exact Z27 HO_524002); (case side4 => exact Z28 HO_524002); rintro e w446 ⟨rfl, hb⟩; refine ⟨_, rfl, ?_⟩; replace HO_524002 := Aside0.mk (Kd.Q_below (Z29 HO_524002) hb); replace HO_532002 := sqU HO_532002 hb; replace HO_539002 := Aside0.mk (Kd.Q_below (Z29 HO_539002) hb); replace BK523 := sqT BK523 hb; replace BK524 := sqT BK524 hb; replace BK531 := sqT BK531 hb; replace BK538 := sqT BK538 hb; replace HB := sqS (sqB4 HB GE523 GE524 GE531 GE538) hb; (try clear hb)) | (go_at_call 24; (with_reducible refine (laws_alive.calls kj5  t541 _ A438.out).mono ?_); rintro e w447 ⟨rfl, hb⟩; replace HO_524002 := Aside0.mk (Kd.Q_below (Z29 HO_524002) hb); replace HO_532002 := sqU HO_532002 hb; replace HO_539002 := Aside0.mk (Kd.Q_below (Z29 HO_539002) hb); replace BK523 := sqT BK523 hb; replace BK524 := sqT BK524 hb; replace BK531 := sqT BK531 hb; replace BK538 := sqT BK538 hb; replace HB := sqS (sqB4 HB GE523 GE524 GE531 GE538) hb; (try clear hb)))
    go_ret
    exact ⟨Z3, sqB4 HB GE523 GE524 GE531 GE538⟩
   replace c437 := Bool.eq_false_iff.mpr c437
   subst c437
   rw [if_neg sqF] at H
   obtain ⟨t542, A448, H⟩ := sqD H
   by_cases c449 : t542 = true
   ·rw [if_pos c449] at H
    exact absurd (Option.some.inj H) Z93
   replace c449 := Bool.eq_false_iff.mpr c449
   subst c449
   rw [if_neg sqF] at H
   obtain ⟨t543, A460, H⟩ := sqD H
   obtain rfl := Option.some.inj H
   have hnb461 := NB531_523.out
   have hnc461 := NB523_531.out
   have hnb462 := NB531_524.out
   have hnc462 := NB524_531.out
   have hnb463 := NB531_538.out
   have hnc463 := NB538_531.out
   obtain ⟨hcz464_0, hcz464_1, hcz464_2, hfz464_0, hfz464_1, hfz464_2⟩ := sqY3 BK531
   have hnb465 := NB523_524.out
   have hnc465 := NB524_523.out
   have hnb466 := NB523_538.out
   have hnc466 := NB538_523.out
   obtain ⟨hcz467_0, hcz467_1, hcz467_2, hfz467_0, hfz467_1, hfz467_2⟩ := sqY3 BK523
   go_wp2_with (first | ((with_reducible refine gate_callee (f := 22) rfl ?_); refine goesL_ (some 46) rfl rfl Tryz.func22 (by kernel_rfl) rfl #[.agg #[.int .i64 t525, .int .i64 t526, .slice Ao19 t527.length co19], .agg #[.int .i64 t516, .int .i64 t517, .slice Ao12 t518.length co12]] rfl sqA ?_; (with_reducible refine (laws_sameDesk.calls kj5 t525 t526 _ _ t527 t516 t517 _ _ t518 false _ ?side1 ?side2 ?side3 ?side4 A436.out).mono ?_); (case side1 => exact Z30 HO_532002); (case side2 => exact Z31 HO_532002); (case side3 => exact Z27 HO_524002); (case side4 => exact Z28 HO_524002); rintro e w468 ⟨rfl, hb⟩; refine ⟨_, rfl, ?_⟩; replace HO_524002 := Aside0.mk (Kd.Q_below (Z29 HO_524002) hb); replace HO_532002 := sqU HO_532002 hb; replace HO_539002 := Aside0.mk (Kd.Q_below (Z29 HO_539002) hb); replace BK523 := sqT BK523 hb; replace BK524 := sqT BK524 hb; replace BK531 := sqT BK531 hb; replace BK538 := sqT BK538 hb; replace HB := sqS (sqB4 HB GE523 GE524 GE531 GE538) hb; (try clear hb); obtain ⟨hcz469_0, hcz469_1, hcz469_2, hfz469_0, hfz469_1, hfz469_2⟩ := sqY3 BK523) | (go_at_call 23; (with_reducible refine (impl_DeskOk.calls kj5 t516 t517 _ _ t518 false _ ?side1 ?side2 A448.out).mono ?_); (case side1 => exact Z27 HO_524002); (case side2 => exact Z28 HO_524002); rintro e w470 ⟨rfl, hb⟩; replace HO_524002 := Aside0.mk (Kd.Q_below (Z29 HO_524002) hb); replace HO_532002 := sqU HO_532002 hb; replace HO_539002 := Aside0.mk (Kd.Q_below (Z29 HO_539002) hb); replace BK523 := sqT BK523 hb; replace BK524 := sqT BK524 hb; replace BK531 := sqT BK531 hb; replace BK538 := sqT BK538 hb; replace HB := sqS (sqB4 HB GE523 GE524 GE531 GE538) hb; (try clear hb)) | (go_at_call 24; (with_reducible refine (laws_alive.calls kj5  t543 _ A460.out).mono ?_); rintro e w471 ⟨rfl, hb⟩; replace HO_524002 := Aside0.mk (Kd.Q_below (Z29 HO_524002) hb); replace HO_532002 := sqU HO_532002 hb; replace HO_539002 := Aside0.mk (Kd.Q_below (Z29 HO_539002) hb); replace BK523 := sqT BK523 hb; replace BK524 := sqT BK524 hb; replace BK531 := sqT BK531 hb; replace BK538 := sqT BK538 hb; replace HB := sqS (sqB4 HB GE523 GE524 GE531 GE538) hb; (try clear hb)))
   go_ret
   exact ⟨Z3, sqB4 HB GE523 GE524 GE531 GE538⟩

/-- THE ONE PURE STATEMENT of laws_FnDeskDo: yours. -/
def laws_FnDeskDo.Pure : Prop := ∀ (l0 : List Int), l0.length ≤ maxLen → l0.length * 1 ≤ 140737488351232 → (∀ x ∈ l0, (Lit.int .u8 x).wf = true) → ∃ k, laws_FnDeskDo.f k l0 = some true
theorem laws_FnDeskDo.walk (P : laws_FnDeskDo.Pure) (a0 : Option Addr) (len0 cap0 : Nat) (z0 : List Int) (w : World) (hG : Glob w) (w0 : (a0 = none ∧ len0 = 0 ∧ cap0 = 0 ∧ z0 = []) ∨ ∃ x, a0 = some x ∧ len0 ≤ cap0 ∧ cap0 ≤ maxLen ∧ z0.length = cap0 ∧ (∀ i, i < z0.length → w.cell? (x.add i) = some (.int .u8 (z0.getD i 0))) ∧ ∀ n ∈ z0, (Lit.int .u8 n).wf = true) (y0 : len0 * 1 ≤ 140737488351232) :
  Calls Tryz.prog 4 #[.slice a0 len0 cap0] w fun e w' => e = .returned (.bool true) ∧ Below w.heap.size w w' := by
 obtain ⟨l0, rfl, hr0, hm0, hw0, hc0⟩ := ReadsInt.ofRowC w0
 obtain ⟨k, h⟩ := P l0 hm0 y0 hw0
 refine (laws_FnDeskDo.calls k _ _ l0 true w hG (Kd.C_of_reads (d := (0 : Int)) (h1 := fun _ => rfl) hr0) hc0 ⟨rfl⟩ h).mono ?_
 rintro e w' ⟨rfl, hd⟩
 exact ⟨rfl, hd⟩


end Go.Proofs.YtofmlbgfcohhoaaGreatDoor.PFnDeskDo
