-- PRINTED BY print.sh 35421559b90ae4d0a3588c463048766b98c2df88dd9212a6774a882060cdf62d: not written by this session
import Derived.Test.YtblbkmjneeeodaaPFnSameLinkx0
import Derived.Test.YtblbkmjneeeodaaPFnSameLinkx1
import Derived.Test.YtblbkmjneeeodaaPFnSameLinkx2
import Derived.Test.YtblbkmjneeeodaaPFnSameLinkx3
import Derived.Test.YtblbkmjneeeodaaPFnSameLinkx6
namespace Go.Proofs.Ytblbkmjneeeodaa.PFnSameLink
open Go.RowKit Go.Proofs.YtblbkmjneeeodaaW.PrintWords Go.Proofs.YtblbkmjneeeodaaW.PrintLast Go.Proofs.YtblbkmjneeeodaaW.PrintMore
attribute [local go_sem] max2_int min2_int max_two min_two max_three min_three max_four min_four   -- for this text's walks alone
set_option linter.unusedVariables false
set_option linter.unusedSimpArgs false

attribute [local go_sem high] eqA45
/-! ### laws_FnSameLink: function 9 -/
def laws_FnSameLink.j0 : Nat → Bool → Bool → Int → Int → Int → Int → Option (Bool)
  | 0, _, _, _, _, _, _ => none
  | k + 1, x5, x30, x205000, x205001, x206000, x206001 => if x30 = true then (if x5 = true then (some false) else ((laws_alive.f k).bind fun t210 => (some t210))) else (if x205000 < 2 then (if (x5 == (x205000 == x206000 && (x205001 == x206001))) = true then ((impl_SameLink.f k x206000 x206001 x205000 x205001).bind fun t211 => (if (t211 == x5) = true then ((impl_SameLink.f k x205000 x205001 x205000 x205001).bind fun t212 => (some t212)) else (some false))) else (some false)) else (if x205000 = x206000 then (if x205001 = x206001 then (if (x5 == true) = true then ((impl_SameLink.f k x206000 x206001 x205000 x205001).bind fun t213 => (if (t213 == x5) = true then ((impl_SameLink.f k x205000 x205001 x205000 x205001).bind fun t214 => (some t214)) else (some false))) else (some false)) else (if x205000 = 0 then (none) else (if (x5 == ((Int.tmod (wrap64 (x205001 * x206001)) x205000) == 1)) = true then ((impl_SameLink.f k x206000 x206001 x205000 x205001).bind fun t215 => (if (t215 == x5) = true then ((impl_SameLink.f k x205000 x205001 x205000 x205001).bind fun t216 => (some t216)) else (some false))) else (some false)))) else (if (x5 == false) = true then ((impl_SameLink.f k x206000 x206001 x205000 x205001).bind fun t217 => (if (t217 == x5) = true then ((impl_SameLink.f k x205000 x205001 x205000 x205001).bind fun t218 => (some t218)) else (some false))) else (some false))))
def laws_FnSameLink.f (k : Nat) (l0 : List Int) : Option (Bool) := if (l0.length : Int) > 1048576 then (some true) else ((spec_DrawSameLink.f k l0).bind fun bt200 => ((impl_SameLink.f k bt200.1 bt200.2.1 bt200.2.2.1 bt200.2.2.2).bind fun t206 => ((spec_SameLink.f k bt200.1 bt200.2.1 bt200.2.2.1 bt200.2.2.2).bind fun t207 => (if (t206 != t207) = true then (some false) else ((spec_LinkOk.f k bt200.1 bt200.2.1).bind fun t208 => (if t208 = true then ((spec_LinkOk.f k bt200.2.2.1 bt200.2.2.2).bind fun t209 => (laws_FnSameLink.j0 k t206 (!t209) bt200.1 bt200.2.1 bt200.2.2.1 bt200.2.2.2)) else (laws_FnSameLink.j0 k t206 true bt200.1 bt200.2.1 bt200.2.2.1 bt200.2.2.2)))))))
theorem laws_FnSameLink.mono_l : ∀ k, (∀ y0 y1 y2 y3 y4 y5, LeO (laws_FnSameLink.j0 k y0 y1 y2 y3 y4 y5) (laws_FnSameLink.j0 (k + 1) y0 y1 y2 y3 y4 y5))
  | 0 => fun _ _ _ _ _ _ r h => by simp [laws_FnSameLink.j0] at h
  | k + 1 => by
    have ih0 := laws_FnSameLink.mono_l k
    · intro y0 y1 y2 y3 y4 y5
      unfold laws_FnSameLink.j0
      repeat' first
      | (with_reducible exact ih0 _ _ _ _ _ _)
      | (with_reducible exact impl_SameLink.mono _ _ _ _ _)
      | (with_reducible exact laws_alive.mono _)
      | (with_reducible exact spec_DrawSameLink.mono _ _)
      | (with_reducible exact spec_LinkOk.mono _ _ _)
      | (with_reducible exact spec_SameLink.mono _ _ _ _ _)
      | (with_reducible exact LeO.refl _)
      | (with_reducible exact LeO.none _)
      | (with_reducible refine LeO.ite ?_ ?_)
      | (with_reducible refine LeO.bind ?_ (fun _ => ?_))
      | exact ih0 _ _ _ _ _ _
      | exact impl_SameLink.mono _ _ _ _ _
      | exact laws_alive.mono _
      | exact spec_DrawSameLink.mono _ _
      | exact spec_LinkOk.mono _ _ _
      | exact spec_SameLink.mono _ _ _ _ _
      | exact LeO.none _
      | refine LeO.ite ?_ ?_
      | refine LeO.bind ?_ (fun _ => ?_)
theorem laws_FnSameLink.mono : ∀ a0 k, LeO (laws_FnSameLink.f k a0) (laws_FnSameLink.f (k + 1) a0) := by
  intro a0 k
  have ih0 := laws_FnSameLink.mono_l k
  unfold laws_FnSameLink.f
  repeat' first
      | (with_reducible exact ih0 _ _ _ _ _ _)
      | (with_reducible exact impl_SameLink.mono _ _ _ _ _)
      | (with_reducible exact laws_alive.mono _)
      | (with_reducible exact spec_DrawSameLink.mono _ _)
      | (with_reducible exact spec_LinkOk.mono _ _ _)
      | (with_reducible exact spec_SameLink.mono _ _ _ _ _)
      | (with_reducible exact LeO.refl _)
      | (with_reducible exact LeO.none _)
      | (with_reducible refine LeO.ite ?_ ?_)
      | (with_reducible refine LeO.bind ?_ (fun _ => ?_))
      | exact ih0 _ _ _ _ _ _
      | exact impl_SameLink.mono _ _ _ _ _
      | exact laws_alive.mono _
      | exact spec_DrawSameLink.mono _ _
      | exact spec_LinkOk.mono _ _ _
      | exact spec_SameLink.mono _ _ _ _ _
      | exact LeO.none _
      | refine LeO.ite ?_ ?_
      | refine LeO.bind ?_ (fun _ => ?_)
set_option maxHeartbeats 8000000 in
set_option maxRecDepth 100000 in
theorem laws_FnSameLink.calls (k : Nat) (A0 : Option Addr) (c0 : Nat) (l0 : List Int) (r : Bool) (w : World) (hr0 : Kd.C (Kd.int .u8) w A0 l0.length l0) (hc0 : l0.length ≤ c0) (h : laws_FnSameLink.f k l0 = some r) :
    Calls Try.prog 9 #[.slice A0 l0.length c0] w fun e w' => e = .returned (.bool r) ∧ Below w.heap.size w w' := by
  have hu45 := Try.underlying45
  have HR0 := Aside0.mk hr0
  have HC0 := Aside0.mk hc0
  clear hr0 hc0
  have HB := Aside0.mk (Below.refl w.heap.size w)
  have H : (if (l0.length : Int) > 1048576 then (some true) else ((spec_DrawSameLink.f k l0).bind fun bt200 => ((impl_SameLink.f k bt200.1 bt200.2.1 bt200.2.2.1 bt200.2.2.2).bind fun t206 => ((spec_SameLink.f k bt200.1 bt200.2.1 bt200.2.2.1 bt200.2.2.2).bind fun t207 => (if (t206 != t207) = true then (some false) else ((spec_LinkOk.f k bt200.1 bt200.2.1).bind fun t208 => (if t208 = true then ((spec_LinkOk.f k bt200.2.2.1 bt200.2.2.2).bind fun t209 => (laws_FnSameLink.j0 k t206 (!t209) bt200.1 bt200.2.1 bt200.2.2.1 bt200.2.2.2)) else (laws_FnSameLink.j0 k t206 true bt200.1 bt200.2.1 bt200.2.2.1 bt200.2.2.2)))))))) = some r := h
  clear h
  by_cases c2 : (l0.length : Int) > 1048576
  · rw [if_pos c2] at H
    have c2b0 : decide (1048576 < (l0.length : Int)) = true := decide_eq_true c2
    have c2b1 : decide (1048576 < l0.length) = true := decide_eq_true (by omega)
    clear c2
    obtain rfl := Option.some.inj H
    go_enter Try.func9, Try.ntmps9
    go_wp2
    go_ret
    exact ⟨by first | rfl | (simp [errW_none, errW_some] <;> rfl) | (simp [*, errW_none, errW_some] <;> rfl), by repeat (first | (with_reducible first | exact HB.out | apply below_alloc | apply pw_below_drewN | apply below_drew1) | exact HB.out)⟩
  · rw [if_neg c2] at H
    have c2b0 : decide (1048576 < (l0.length : Int)) = false := decide_eq_false c2
    have c2b1 : decide (1048576 < l0.length) = false := decide_eq_false (by omega)
    clear c2
    replace H := Option.bind_eq_some_iff.mp H
    obtain ⟨⟨t200, t201, t202, t203⟩, A30, H⟩ := H
    replace H : ((impl_SameLink.f k t200 t201 t202 t203).bind fun t206 => ((spec_SameLink.f k t200 t201 t202 t203).bind fun t207 => (if (t206 != t207) = true then (some false) else ((spec_LinkOk.f k t200 t201).bind fun t208 => (if t208 = true then ((spec_LinkOk.f k t202 t203).bind fun t209 => (laws_FnSameLink.j0 k t206 (!t209) t200 t201 t202 t203)) else (laws_FnSameLink.j0 k t206 true t200 t201 t202 t203)))))) = some r := H
    have A3 := Aside0.mk A30
    clear A30
    replace H := Option.bind_eq_some_iff.mp H
    obtain ⟨t206, A40, H⟩ := H
    replace H : ((spec_SameLink.f k t200 t201 t202 t203).bind fun t207 => (if (t206 != t207) = true then (some false) else ((spec_LinkOk.f k t200 t201).bind fun t208 => (if t208 = true then ((spec_LinkOk.f k t202 t203).bind fun t209 => (laws_FnSameLink.j0 k t206 (!t209) t200 t201 t202 t203)) else (laws_FnSameLink.j0 k t206 true t200 t201 t202 t203))))) = some r := H
    have A4 := Aside0.mk A40
    clear A40
    replace H := Option.bind_eq_some_iff.mp H
    obtain ⟨t207, A50, H⟩ := H
    replace H : (if (t206 != t207) = true then (some false) else ((spec_LinkOk.f k t200 t201).bind fun t208 => (if t208 = true then ((spec_LinkOk.f k t202 t203).bind fun t209 => (laws_FnSameLink.j0 k t206 (!t209) t200 t201 t202 t203)) else (laws_FnSameLink.j0 k t206 true t200 t201 t202 t203)))) = some r := H
    have A5 := Aside0.mk A50
    clear A50
    by_cases c6 : (t206 != t207) = true
    · rw [if_pos c6] at H
      have c6b0 : (t206 != t207) = true := c6
      (try (have c6b1 : decide (t206 = t207) = false := by simpa using c6))
      (try (have c6b2 : (t206 == t207) = false := by simpa using c6))
      (try (have c6b3 : ¬ (t206 = t207) := by simpa using c6))
      clear c6
      obtain rfl := Option.some.inj H
      go_enter Try.func9, Try.ntmps9
      go_wp2_with (first | ((with_reducible refine gate_callee (f := 41) rfl ?_); refine goesL_ (some 12) rfl rfl Try.func41 (by kernel_rfl) rfl #[.slice A0 l0.length c0] rfl (by (try simp only [List.map_toArray, List.map_cons, List.map_nil]); first | done | rfl | (simp only [List.length_drop, List.length_take]; rfl)) ?_; (with_reducible refine (spec_DrawSameLink.calls k _ _ l0 t200 t201 t202 t203 _ ?side1 ?side2 A3.out).mono ?_); (case side1 => repeat (first | exact HR0.out | (with_reducible refine Kd.C_alloc ?_ _) | (with_reducible refine Kd.C_drewN ?_ _) | (with_reducible refine Kd.C_drew ?_))); (case side2 => exact HC0.out); rintro e w7 ⟨rfl, hb⟩; refine ⟨_, rfl, ?_⟩; have n0_ := Aside0.mk (below_step (by repeat (first | (with_reducible first | exact HB.out | apply below_alloc | apply pw_below_drewN | apply below_drew1) | exact HB.out)) hb); clear HB; have HB := n0_; clear n0_; (try clear hb); (try clear hb2); (try clear hk); (try clear hi)) | ((with_reducible refine gate_dst (N := 3) rfl ?_); refine box_event ?hg (N := 3) ?hd (cs := #[.int .i64 0, .int .i64 0]) (t := 45) ?hr ?_; (case hd => rfl); (case hg => rfl); (case hr => first | (go_simp; done) | (go_simp; rfl)); intro gb204 hg w8 hbox hb; have n0_ := Aside0.mk (below_step (by repeat (first | (with_reducible first | exact HB.out | apply below_alloc | apply pw_below_drewN | apply below_drew1) | exact HB.out)) hb); have n1_ := Aside0.mk (hbox); have n2_ := Aside0.mk ((by rw [hg]; exact (below_size (by repeat (first | (with_reducible first | exact HB.out | apply below_alloc | apply pw_below_drewN | apply below_drew1) | exact HB.out))) : w.heap.size ≤ gb204)); have n3_ := Aside0.mk ((by rw [hg]; exact (below_size (by repeat (first | (with_reducible first | exact HB.out | apply below_alloc | apply pw_below_drewN | apply below_drew1) | exact HB.out))) : w.heap.size ≤ gb204)); clear HB; have HB := n0_; have BK204 := n1_; have GW204 := n2_; have GE204 := n3_; clear n0_ n1_ n2_ n3_; clear hb hbox hg) | ((with_reducible refine gate_dst (N := 4) rfl ?_); refine box_event ?hg (N := 4) ?hd (cs := #[.int .i64 0, .int .i64 0]) (t := 45) ?hr ?_; (case hd => rfl); (case hg => rfl); (case hr => first | (go_simp; done) | (go_simp; rfl)); intro gb205 hg w9 hbox hb; have n0_ := Aside0.mk (blk_below (g := gb204) (o := .cells #[.int .i64 0, .int .i64 0] 45 (0, 0)) (by (with_reducible repeat (first | refine blk_drewN ?_ _ | refine blk_drew ?_ | refine blk_alloc ?_ _)); exact BK204.out) hb); have n1_ := Aside0.mk (below_step (by repeat (first | (with_reducible first | exact HB.out | apply below_alloc | apply pw_below_drewN | apply below_drew1 | refine below_set ?_ GE204.out) | exact HB.out)) hb); have n2_ := Aside0.mk (hbox); have n3_ := Aside0.mk ((by rw [hg]; exact (below_size (by repeat (first | (with_reducible first | exact HB.out | apply below_alloc | apply pw_below_drewN | apply below_drew1 | refine below_set ?_ GE204.out) | exact HB.out))) : w.heap.size ≤ gb205)); have n4_ := Aside0.mk ((by rw [hg]; exact (below_size (by repeat (first | (with_reducible first | exact HB.out | apply below_alloc | apply pw_below_drewN | apply below_drew1 | refine below_set ?_ GE204.out) | exact HB.out))) : w.heap.size ≤ gb205)); have n5_ := Aside0.mk ((by rw [hg]; exact Nat.ne_of_lt (blk_lt (g := gb204) (o := .cells #[.int .i64 0, .int .i64 0] 45 (0, 0)) (by (with_reducible repeat (first | refine blk_drewN ?_ _ | refine blk_drew ?_ | refine blk_alloc ?_ _)); exact BK204.out)) : gb204 ≠ gb205)); have n6_ := Aside0.mk ((by rw [hg]; exact Nat.ne_of_gt (blk_lt (g := gb204) (o := .cells #[.int .i64 0, .int .i64 0] 45 (0, 0)) (by (with_reducible repeat (first | refine blk_drewN ?_ _ | refine blk_drew ?_ | refine blk_alloc ?_ _)); exact BK204.out)) : gb205 ≠ gb204)); clear BK204; clear HB; have BK204 := n0_; have HB := n1_; have BK205 := n2_; have GW205 := n3_; have GE205 := n4_; have NB204_205 := n5_; have NB205_204 := n6_; clear n0_ n1_ n2_ n3_ n4_ n5_ n6_; clear hb hbox hg; have hnb10 := NB204_205.out; have hnc10 := NB205_204.out; have hcz11_0 : w9.cell? ⟨gb204, 0, none⟩ = some (.int .i64 0) := (blk_cell BK204.out 0).trans rfl; have hcz11_1 : w9.cell? ⟨gb204, 1, none⟩ = some (.int .i64 0) := (blk_cell BK204.out 1).trans rfl; have hfz11_0 := blk_frozen BK204.out 0; have hfz11_1 := blk_frozen BK204.out 1; have hcz12_0 : w9.cell? ⟨gb205, 0, none⟩ = some (.int .i64 0) := (blk_cell BK205.out 0).trans rfl; have hcz12_1 : w9.cell? ⟨gb205, 1, none⟩ = some (.int .i64 0) := (blk_cell BK205.out 1).trans rfl; have hfz12_0 := blk_frozen BK205.out 0; have hfz12_1 := blk_frozen BK205.out 1) | ((with_reducible refine gate_callee (f := 36) rfl ?_); refine goesL_ (some 17) rfl rfl Try.func36 (by kernel_rfl) rfl #[.agg #[.int .i64 t200, .int .i64 t201], .agg #[.int .i64 t202, .int .i64 t203]] rfl (by (try simp only [List.map_toArray, List.map_cons, List.map_nil]); first | done | rfl | (simp only [List.length_drop, List.length_take]; rfl)) ?_; (with_reducible refine (impl_SameLink.calls k t200 t201 t202 t203 t206 _ A4.out).mono ?_); rintro e w13 ⟨rfl, hb⟩; refine ⟨_, rfl, ?_⟩; have n0_ := Aside0.mk (blk_below (g := gb204) (o := .cells #[.int .i64 t200, .int .i64 t201] 45 (0, 0)) (by (with_reducible repeat (first | refine blk_drewN ?_ _ | refine blk_drew ?_ | refine blk_alloc ?_ _)); refine blk_far ?_ NB204_205.out _; (with_reducible repeat (first | refine blk_drewN ?_ _ | refine blk_drew ?_ | refine blk_alloc ?_ _)); refine blk_far ?_ NB204_205.out _; (with_reducible repeat (first | refine blk_drewN ?_ _ | refine blk_drew ?_ | refine blk_alloc ?_ _)); refine blk_put (cs := #[.int .i64 t200, .int .i64 0]) ?_ 1 _ rfl; (with_reducible repeat (first | refine blk_drewN ?_ _ | refine blk_drew ?_ | refine blk_alloc ?_ _)); refine blk_put (cs := #[.int .i64 0, .int .i64 0]) ?_ 0 _ rfl; (with_reducible repeat (first | refine blk_drewN ?_ _ | refine blk_drew ?_ | refine blk_alloc ?_ _)); exact BK204.out) hb); have n1_ := Aside0.mk (blk_below (g := gb205) (o := .cells #[.int .i64 t202, .int .i64 t203] 45 (0, 0)) (by (with_reducible repeat (first | refine blk_drewN ?_ _ | refine blk_drew ?_ | refine blk_alloc ?_ _)); refine blk_put (cs := #[.int .i64 t202, .int .i64 0]) ?_ 1 _ rfl; (with_reducible repeat (first | refine blk_drewN ?_ _ | refine blk_drew ?_ | refine blk_alloc ?_ _)); refine blk_put (cs := #[.int .i64 0, .int .i64 0]) ?_ 0 _ rfl; (with_reducible repeat (first | refine blk_drewN ?_ _ | refine blk_drew ?_ | refine blk_alloc ?_ _)); refine blk_far ?_ NB205_204.out _; (with_reducible repeat (first | refine blk_drewN ?_ _ | refine blk_drew ?_ | refine blk_alloc ?_ _)); refine blk_far ?_ NB205_204.out _; (with_reducible repeat (first | refine blk_drewN ?_ _ | refine blk_drew ?_ | refine blk_alloc ?_ _)); exact BK205.out) hb); have n2_ := Aside0.mk (below_step (by repeat (first | (with_reducible first | exact HB.out | apply below_alloc | apply pw_below_drewN | apply below_drew1 | refine below_set ?_ GE204.out | refine below_set ?_ GE205.out) | exact HB.out)) hb); clear BK204; clear BK205; clear HB; have BK204 := n0_; have BK205 := n1_; have HB := n2_; clear n0_ n1_ n2_; (try clear hb); (try clear hb2); (try clear hk); (try clear hi); have hcz14_0 : w13.cell? ⟨gb204, 0, none⟩ = some (.int .i64 t200) := (blk_cell BK204.out 0).trans rfl; have hcz14_1 : w13.cell? ⟨gb204, 1, none⟩ = some (.int .i64 t201) := (blk_cell BK204.out 1).trans rfl; have hfz14_0 := blk_frozen BK204.out 0; have hfz14_1 := blk_frozen BK204.out 1; have hcz15_0 : w13.cell? ⟨gb205, 0, none⟩ = some (.int .i64 t202) := (blk_cell BK205.out 0).trans rfl; have hcz15_1 : w13.cell? ⟨gb205, 1, none⟩ = some (.int .i64 t203) := (blk_cell BK205.out 1).trans rfl; have hfz15_0 := blk_frozen BK205.out 0; have hfz15_1 := blk_frozen BK205.out 1) | ((with_reducible refine gate_callee (f := 42) rfl ?_); refine goesL_ (some 21) rfl rfl Try.func42 (by kernel_rfl) rfl #[.agg #[.int .i64 t200, .int .i64 t201], .agg #[.int .i64 t202, .int .i64 t203]] rfl (by (try simp only [List.map_toArray, List.map_cons, List.map_nil]); first | done | rfl | (simp only [List.length_drop, List.length_take]; rfl)) ?_; (with_reducible refine (spec_SameLink.calls k t200 t201 t202 t203 t207 _ A5.out).mono ?_); rintro e w16 ⟨rfl, hb⟩; refine ⟨_, rfl, ?_⟩; have n0_ := Aside0.mk (blk_below (g := gb204) (o := .cells #[.int .i64 t200, .int .i64 t201] 45 (0, 0)) (by (with_reducible repeat (first | refine blk_drewN ?_ _ | refine blk_drew ?_ | refine blk_alloc ?_ _)); exact BK204.out) hb); have n1_ := Aside0.mk (blk_below (g := gb205) (o := .cells #[.int .i64 t202, .int .i64 t203] 45 (0, 0)) (by (with_reducible repeat (first | refine blk_drewN ?_ _ | refine blk_drew ?_ | refine blk_alloc ?_ _)); exact BK205.out) hb); have n2_ := Aside0.mk (below_step (by repeat (first | (with_reducible first | exact HB.out | apply below_alloc | apply pw_below_drewN | apply below_drew1 | refine below_set ?_ GE204.out | refine below_set ?_ GE205.out) | exact HB.out)) hb); clear BK204; clear BK205; clear HB; have BK204 := n0_; have BK205 := n1_; have HB := n2_; clear n0_ n1_ n2_; (try clear hb); (try clear hb2); (try clear hk); (try clear hi)))
      go_ret
      exact ⟨by first | rfl | (simp [errW_none, errW_some] <;> rfl) | (simp [*, errW_none, errW_some] <;> rfl), by repeat (first | (with_reducible first | exact HB.out | apply below_alloc | apply pw_below_drewN | apply below_drew1 | refine below_set ?_ GE204.out | refine below_set ?_ GE205.out) | exact HB.out)⟩
    · rw [if_neg c6] at H
      have c6b0 : (t206 != t207) = false := by simpa using c6
      (try (have c6b1 : decide (t206 = t207) = true := by simpa using c6))
      (try (have c6b2 : (t206 == t207) = true := by simpa using c6))
      clear c6
      have HC17 := Aside0.mk H
      clear H
      go_enter Try.func9, Try.ntmps9
      go_upto_region 7 with (first | ((with_reducible refine gate_callee (f := 41) rfl ?_); refine goesL_ (some 12) rfl rfl Try.func41 (by kernel_rfl) rfl #[.slice A0 l0.length c0] rfl (by (try simp only [List.map_toArray, List.map_cons, List.map_nil]); first | done | rfl | (simp only [List.length_drop, List.length_take]; rfl)) ?_; (with_reducible refine (spec_DrawSameLink.calls k _ _ l0 t200 t201 t202 t203 _ ?side1 ?side2 A3.out).mono ?_); (case side1 => repeat (first | exact HR0.out | (with_reducible refine Kd.C_alloc ?_ _) | (with_reducible refine Kd.C_drewN ?_ _) | (with_reducible refine Kd.C_drew ?_))); (case side2 => exact HC0.out); rintro e w18 ⟨rfl, hb⟩; refine ⟨_, rfl, ?_⟩; have n0_ := Aside0.mk (below_step (by repeat (first | (with_reducible first | exact HB.out | apply below_alloc | apply pw_below_drewN | apply below_drew1) | exact HB.out)) hb); clear HB; have HB := n0_; clear n0_; (try clear hb); (try clear hb2); (try clear hk); (try clear hi)) | ((with_reducible refine gate_dst (N := 3) rfl ?_); refine box_event ?hg (N := 3) ?hd (cs := #[.int .i64 0, .int .i64 0]) (t := 45) ?hr ?_; (case hd => rfl); (case hg => rfl); (case hr => first | (go_simp; done) | (go_simp; rfl)); intro gb204 hg w19 hbox hb; have n0_ := Aside0.mk (below_step (by repeat (first | (with_reducible first | exact HB.out | apply below_alloc | apply pw_below_drewN | apply below_drew1) | exact HB.out)) hb); have n1_ := Aside0.mk (hbox); have n2_ := Aside0.mk ((by rw [hg]; exact (below_size (by repeat (first | (with_reducible first | exact HB.out | apply below_alloc | apply pw_below_drewN | apply below_drew1) | exact HB.out))) : w.heap.size ≤ gb204)); have n3_ := Aside0.mk ((by rw [hg]; exact (below_size (by repeat (first | (with_reducible first | exact HB.out | apply below_alloc | apply pw_below_drewN | apply below_drew1) | exact HB.out))) : w.heap.size ≤ gb204)); clear HB; have HB := n0_; have BK204 := n1_; have GW204 := n2_; have GE204 := n3_; clear n0_ n1_ n2_ n3_; clear hb hbox hg) | ((with_reducible refine gate_dst (N := 4) rfl ?_); refine box_event ?hg (N := 4) ?hd (cs := #[.int .i64 0, .int .i64 0]) (t := 45) ?hr ?_; (case hd => rfl); (case hg => rfl); (case hr => first | (go_simp; done) | (go_simp; rfl)); intro gb205 hg w20 hbox hb; have n0_ := Aside0.mk (blk_below (g := gb204) (o := .cells #[.int .i64 0, .int .i64 0] 45 (0, 0)) (by (with_reducible repeat (first | refine blk_drewN ?_ _ | refine blk_drew ?_ | refine blk_alloc ?_ _)); exact BK204.out) hb); have n1_ := Aside0.mk (below_step (by repeat (first | (with_reducible first | exact HB.out | apply below_alloc | apply pw_below_drewN | apply below_drew1 | refine below_set ?_ GE204.out) | exact HB.out)) hb); have n2_ := Aside0.mk (hbox); have n3_ := Aside0.mk ((by rw [hg]; exact (below_size (by repeat (first | (with_reducible first | exact HB.out | apply below_alloc | apply pw_below_drewN | apply below_drew1 | refine below_set ?_ GE204.out) | exact HB.out))) : w.heap.size ≤ gb205)); have n4_ := Aside0.mk ((by rw [hg]; exact (below_size (by repeat (first | (with_reducible first | exact HB.out | apply below_alloc | apply pw_below_drewN | apply below_drew1 | refine below_set ?_ GE204.out) | exact HB.out))) : w.heap.size ≤ gb205)); have n5_ := Aside0.mk ((by rw [hg]; exact Nat.ne_of_lt (blk_lt (g := gb204) (o := .cells #[.int .i64 0, .int .i64 0] 45 (0, 0)) (by (with_reducible repeat (first | refine blk_drewN ?_ _ | refine blk_drew ?_ | refine blk_alloc ?_ _)); exact BK204.out)) : gb204 ≠ gb205)); have n6_ := Aside0.mk ((by rw [hg]; exact Nat.ne_of_gt (blk_lt (g := gb204) (o := .cells #[.int .i64 0, .int .i64 0] 45 (0, 0)) (by (with_reducible repeat (first | refine blk_drewN ?_ _ | refine blk_drew ?_ | refine blk_alloc ?_ _)); exact BK204.out)) : gb205 ≠ gb204)); clear BK204; clear HB; have BK204 := n0_; have HB := n1_; have BK205 := n2_; have GW205 := n3_; have GE205 := n4_; have NB204_205 := n5_; have NB205_204 := n6_; clear n0_ n1_ n2_ n3_ n4_ n5_ n6_; clear hb hbox hg; have hnb21 := NB204_205.out; have hnc21 := NB205_204.out; have hcz22_0 : w20.cell? ⟨gb204, 0, none⟩ = some (.int .i64 0) := (blk_cell BK204.out 0).trans rfl; have hcz22_1 : w20.cell? ⟨gb204, 1, none⟩ = some (.int .i64 0) := (blk_cell BK204.out 1).trans rfl; have hfz22_0 := blk_frozen BK204.out 0; have hfz22_1 := blk_frozen BK204.out 1; have hcz23_0 : w20.cell? ⟨gb205, 0, none⟩ = some (.int .i64 0) := (blk_cell BK205.out 0).trans rfl; have hcz23_1 : w20.cell? ⟨gb205, 1, none⟩ = some (.int .i64 0) := (blk_cell BK205.out 1).trans rfl; have hfz23_0 := blk_frozen BK205.out 0; have hfz23_1 := blk_frozen BK205.out 1) | ((with_reducible refine gate_callee (f := 36) rfl ?_); refine goesL_ (some 17) rfl rfl Try.func36 (by kernel_rfl) rfl #[.agg #[.int .i64 t200, .int .i64 t201], .agg #[.int .i64 t202, .int .i64 t203]] rfl (by (try simp only [List.map_toArray, List.map_cons, List.map_nil]); first | done | rfl | (simp only [List.length_drop, List.length_take]; rfl)) ?_; (with_reducible refine (impl_SameLink.calls k t200 t201 t202 t203 t206 _ A4.out).mono ?_); rintro e w24 ⟨rfl, hb⟩; refine ⟨_, rfl, ?_⟩; have n0_ := Aside0.mk (blk_below (g := gb204) (o := .cells #[.int .i64 t200, .int .i64 t201] 45 (0, 0)) (by (with_reducible repeat (first | refine blk_drewN ?_ _ | refine blk_drew ?_ | refine blk_alloc ?_ _)); refine blk_far ?_ NB204_205.out _; (with_reducible repeat (first | refine blk_drewN ?_ _ | refine blk_drew ?_ | refine blk_alloc ?_ _)); refine blk_far ?_ NB204_205.out _; (with_reducible repeat (first | refine blk_drewN ?_ _ | refine blk_drew ?_ | refine blk_alloc ?_ _)); refine blk_put (cs := #[.int .i64 t200, .int .i64 0]) ?_ 1 _ rfl; (with_reducible repeat (first | refine blk_drewN ?_ _ | refine blk_drew ?_ | refine blk_alloc ?_ _)); refine blk_put (cs := #[.int .i64 0, .int .i64 0]) ?_ 0 _ rfl; (with_reducible repeat (first | refine blk_drewN ?_ _ | refine blk_drew ?_ | refine blk_alloc ?_ _)); exact BK204.out) hb); have n1_ := Aside0.mk (blk_below (g := gb205) (o := .cells #[.int .i64 t202, .int .i64 t203] 45 (0, 0)) (by (with_reducible repeat (first | refine blk_drewN ?_ _ | refine blk_drew ?_ | refine blk_alloc ?_ _)); refine blk_put (cs := #[.int .i64 t202, .int .i64 0]) ?_ 1 _ rfl; (with_reducible repeat (first | refine blk_drewN ?_ _ | refine blk_drew ?_ | refine blk_alloc ?_ _)); refine blk_put (cs := #[.int .i64 0, .int .i64 0]) ?_ 0 _ rfl; (with_reducible repeat (first | refine blk_drewN ?_ _ | refine blk_drew ?_ | refine blk_alloc ?_ _)); refine blk_far ?_ NB205_204.out _; (with_reducible repeat (first | refine blk_drewN ?_ _ | refine blk_drew ?_ | refine blk_alloc ?_ _)); refine blk_far ?_ NB205_204.out _; (with_reducible repeat (first | refine blk_drewN ?_ _ | refine blk_drew ?_ | refine blk_alloc ?_ _)); exact BK205.out) hb); have n2_ := Aside0.mk (below_step (by repeat (first | (with_reducible first | exact HB.out | apply below_alloc | apply pw_below_drewN | apply below_drew1 | refine below_set ?_ GE204.out | refine below_set ?_ GE205.out) | exact HB.out)) hb); clear BK204; clear BK205; clear HB; have BK204 := n0_; have BK205 := n1_; have HB := n2_; clear n0_ n1_ n2_; (try clear hb); (try clear hb2); (try clear hk); (try clear hi); have hcz25_0 : w24.cell? ⟨gb204, 0, none⟩ = some (.int .i64 t200) := (blk_cell BK204.out 0).trans rfl; have hcz25_1 : w24.cell? ⟨gb204, 1, none⟩ = some (.int .i64 t201) := (blk_cell BK204.out 1).trans rfl; have hfz25_0 := blk_frozen BK204.out 0; have hfz25_1 := blk_frozen BK204.out 1; have hcz26_0 : w24.cell? ⟨gb205, 0, none⟩ = some (.int .i64 t202) := (blk_cell BK205.out 0).trans rfl; have hcz26_1 : w24.cell? ⟨gb205, 1, none⟩ = some (.int .i64 t203) := (blk_cell BK205.out 1).trans rfl; have hfz26_0 := blk_frozen BK205.out 0; have hfz26_1 := blk_frozen BK205.out 1) | ((with_reducible refine gate_callee (f := 42) rfl ?_); refine goesL_ (some 21) rfl rfl Try.func42 (by kernel_rfl) rfl #[.agg #[.int .i64 t200, .int .i64 t201], .agg #[.int .i64 t202, .int .i64 t203]] rfl (by (try simp only [List.map_toArray, List.map_cons, List.map_nil]); first | done | rfl | (simp only [List.length_drop, List.length_take]; rfl)) ?_; (with_reducible refine (spec_SameLink.calls k t200 t201 t202 t203 t207 _ A5.out).mono ?_); rintro e w27 ⟨rfl, hb⟩; refine ⟨_, rfl, ?_⟩; have n0_ := Aside0.mk (blk_below (g := gb204) (o := .cells #[.int .i64 t200, .int .i64 t201] 45 (0, 0)) (by (with_reducible repeat (first | refine blk_drewN ?_ _ | refine blk_drew ?_ | refine blk_alloc ?_ _)); exact BK204.out) hb); have n1_ := Aside0.mk (blk_below (g := gb205) (o := .cells #[.int .i64 t202, .int .i64 t203] 45 (0, 0)) (by (with_reducible repeat (first | refine blk_drewN ?_ _ | refine blk_drew ?_ | refine blk_alloc ?_ _)); exact BK205.out) hb); have n2_ := Aside0.mk (below_step (by repeat (first | (with_reducible first | exact HB.out | apply below_alloc | apply pw_below_drewN | apply below_drew1 | refine below_set ?_ GE204.out | refine below_set ?_ GE205.out) | exact HB.out)) hb); clear BK204; clear BK205; clear HB; have BK204 := n0_; have BK205 := n1_; have HB := n2_; clear n0_ n1_ n2_; (try clear hb); (try clear hb2); (try clear hk); (try clear hi)))
      (try simp only [Act.put, List.setIfInBounds_toArray, List.set_cons_zero, List.set_cons_succ])
      go_cut [30] (fun v30 wc => ∃ (kq : Nat) (x30_16 : Bool), v30 = .bool x30_16 ∧ Aside0 (laws_FnSameLink.j0 kq t206 x30_16 t200 t201 t202 t203 = some r) ∧ Aside0 (kq ≤ k) ∧ Aside0 (wc.heap[gb204]? = some (.cells #[.int .i64 t200, .int .i64 t201] 45 (0, 0))) ∧ Aside0 (wc.heap[gb205]? = some (.cells #[.int .i64 t202, .int .i64 t203] 45 (0, 0))) ∧ Aside0 (Below w.heap.size w wc))
      case first =>
        have H := HC17.out
        clear HC17
        replace H := Option.bind_eq_some_iff.mp H
        obtain ⟨t208, A280, H⟩ := H
        replace H : (if t208 = true then ((spec_LinkOk.f k t202 t203).bind fun t209 => (laws_FnSameLink.j0 k t206 (!t209) t200 t201 t202 t203)) else (laws_FnSameLink.j0 k t206 true t200 t201 t202 t203)) = some r := H
        have A28 := Aside0.mk A280
        clear A280
        by_cases c29 : t208 = true
        · subst c29
          have H1 : ((spec_LinkOk.f k t202 t203).bind fun t209 => (laws_FnSameLink.j0 k t206 (!t209) t200 t201 t202 t203)) = some r := by rw [if_pos rfl] at H; exact H
          clear H
          have H := H1
          clear H1
          replace H := Option.bind_eq_some_iff.mp H
          obtain ⟨t209, A300, H⟩ := H
          replace H : (laws_FnSameLink.j0 k t206 (!t209) t200 t201 t202 t203) = some r := H
          have A30 := Aside0.mk A300
          clear A300
          have H' := Aside0.mk H
          clear H
          have hnb31 := NB204_205.out
          have hnc31 := NB205_204.out
          have hcz32_0 : w27.cell? ⟨gb204, 0, none⟩ = some (.int .i64 t200) := (blk_cell BK204.out 0).trans rfl
          have hcz32_1 : w27.cell? ⟨gb204, 1, none⟩ = some (.int .i64 t201) := (blk_cell BK204.out 1).trans rfl
          have hfz32_0 := blk_frozen BK204.out 0
          have hfz32_1 := blk_frozen BK204.out 1
          go_wp2_with (first | ((with_reducible refine gate_callee (f := 43) rfl ?_); refine goesL_ (some 24) rfl rfl Try.func43 (by kernel_rfl) rfl #[.agg #[.int .i64 t200, .int .i64 t201]] rfl (by (try simp only [List.map_toArray, List.map_cons, List.map_nil]); first | done | rfl | (simp only [List.length_drop, List.length_take]; rfl)) ?_; (with_reducible refine (spec_LinkOk.calls k t200 t201 true _ A28.out).mono ?_); rintro e w33 ⟨rfl, hb⟩; refine ⟨_, rfl, ?_⟩; have n0_ := Aside0.mk (blk_below (g := gb204) (o := .cells #[.int .i64 t200, .int .i64 t201] 45 (0, 0)) (by (with_reducible repeat (first | refine blk_drewN ?_ _ | refine blk_drew ?_ | refine blk_alloc ?_ _)); exact BK204.out) hb); have n1_ := Aside0.mk (blk_below (g := gb205) (o := .cells #[.int .i64 t202, .int .i64 t203] 45 (0, 0)) (by (with_reducible repeat (first | refine blk_drewN ?_ _ | refine blk_drew ?_ | refine blk_alloc ?_ _)); exact BK205.out) hb); have n2_ := Aside0.mk (below_step (by repeat (first | (with_reducible first | exact HB.out | apply below_alloc | apply pw_below_drewN | apply below_drew1 | refine below_set ?_ GE204.out | refine below_set ?_ GE205.out) | exact HB.out)) hb); clear BK204; clear BK205; clear HB; have BK204 := n0_; have BK205 := n1_; have HB := n2_; clear n0_ n1_ n2_; (try clear hb); (try clear hb2); (try clear hk); (try clear hi); have hcz34_0 : w33.cell? ⟨gb205, 0, none⟩ = some (.int .i64 t202) := (blk_cell BK205.out 0).trans rfl; have hcz34_1 : w33.cell? ⟨gb205, 1, none⟩ = some (.int .i64 t203) := (blk_cell BK205.out 1).trans rfl; have hfz34_0 := blk_frozen BK205.out 0; have hfz34_1 := blk_frozen BK205.out 1) | (go_at_call 43; (with_reducible refine (spec_LinkOk.calls k t202 t203 t209 _ A30.out).mono ?_); rintro e w35 ⟨rfl, hb⟩; have n0_ := Aside0.mk (blk_below (g := gb204) (o := .cells #[.int .i64 t200, .int .i64 t201] 45 (0, 0)) (by (with_reducible repeat (first | refine blk_drewN ?_ _ | refine blk_drew ?_ | refine blk_alloc ?_ _)); exact BK204.out) hb); have n1_ := Aside0.mk (blk_below (g := gb205) (o := .cells #[.int .i64 t202, .int .i64 t203] 45 (0, 0)) (by (with_reducible repeat (first | refine blk_drewN ?_ _ | refine blk_drew ?_ | refine blk_alloc ?_ _)); exact BK205.out) hb); have n2_ := Aside0.mk (below_step (by repeat (first | (with_reducible first | exact HB.out | apply below_alloc | apply pw_below_drewN | apply below_drew1 | refine below_set ?_ GE204.out | refine below_set ?_ GE205.out) | exact HB.out)) hb); clear BK204; clear BK205; clear HB; have BK204 := n0_; have BK205 := n1_; have HB := n2_; clear n0_ n1_ n2_; (try clear hb); (try clear hb2); (try clear hk); (try clear hi)))
          go_meet
          case rel => exact ⟨_, (!t209), (by first | rfl | (simp; done) | (simp [*]; done)), H', ⟨by first | omega | exact Nat.le_refl _⟩, ⟨by (with_reducible repeat (first | refine blk_drewN ?_ _ | refine blk_drew ?_ | refine blk_alloc ?_ _)); exact BK204.out⟩, ⟨by (with_reducible repeat (first | refine blk_drewN ?_ _ | refine blk_drew ?_ | refine blk_alloc ?_ _)); exact BK205.out⟩, ⟨by repeat (first | (with_reducible first | exact HB.out | apply below_alloc | apply pw_below_drewN | apply below_drew1 | refine below_set ?_ GE204.out | refine below_set ?_ GE205.out) | exact HB.out)⟩⟩
        · replace c29 := Bool.eq_false_iff.mpr c29
          subst c29
          have H1 : (laws_FnSameLink.j0 k t206 true t200 t201 t202 t203) = some r := by rw [if_neg (show ¬ (false = true) by decide)] at H; exact H
          clear H
          have H := H1
          clear H1
          have H' := Aside0.mk H
          clear H
          have hnb36 := NB204_205.out
          have hnc36 := NB205_204.out
          have hcz37_0 : w27.cell? ⟨gb204, 0, none⟩ = some (.int .i64 t200) := (blk_cell BK204.out 0).trans rfl
          have hcz37_1 : w27.cell? ⟨gb204, 1, none⟩ = some (.int .i64 t201) := (blk_cell BK204.out 1).trans rfl
          have hfz37_0 := blk_frozen BK204.out 0
          have hfz37_1 := blk_frozen BK204.out 1
          go_wp2_with (first | ((with_reducible refine gate_callee (f := 43) rfl ?_); refine goesL_ (some 24) rfl rfl Try.func43 (by kernel_rfl) rfl #[.agg #[.int .i64 t200, .int .i64 t201]] rfl (by (try simp only [List.map_toArray, List.map_cons, List.map_nil]); first | done | rfl | (simp only [List.length_drop, List.length_take]; rfl)) ?_; (with_reducible refine (spec_LinkOk.calls k t200 t201 false _ A28.out).mono ?_); rintro e w38 ⟨rfl, hb⟩; refine ⟨_, rfl, ?_⟩; have n0_ := Aside0.mk (blk_below (g := gb204) (o := .cells #[.int .i64 t200, .int .i64 t201] 45 (0, 0)) (by (with_reducible repeat (first | refine blk_drewN ?_ _ | refine blk_drew ?_ | refine blk_alloc ?_ _)); exact BK204.out) hb); have n1_ := Aside0.mk (blk_below (g := gb205) (o := .cells #[.int .i64 t202, .int .i64 t203] 45 (0, 0)) (by (with_reducible repeat (first | refine blk_drewN ?_ _ | refine blk_drew ?_ | refine blk_alloc ?_ _)); exact BK205.out) hb); have n2_ := Aside0.mk (below_step (by repeat (first | (with_reducible first | exact HB.out | apply below_alloc | apply pw_below_drewN | apply below_drew1 | refine below_set ?_ GE204.out | refine below_set ?_ GE205.out) | exact HB.out)) hb); clear BK204; clear BK205; clear HB; have BK204 := n0_; have BK205 := n1_; have HB := n2_; clear n0_ n1_ n2_; (try clear hb); (try clear hb2); (try clear hk); (try clear hi)))
          go_meet
          case rel => exact ⟨_, (true), (by first | rfl | (simp; done) | (simp [*]; done)), H', ⟨by first | omega | exact Nat.le_refl _⟩, ⟨by (with_reducible repeat (first | refine blk_drewN ?_ _ | refine blk_drew ?_ | refine blk_alloc ?_ _)); exact BK204.out⟩, ⟨by (with_reducible repeat (first | refine blk_drewN ?_ _ | refine blk_drew ?_ | refine blk_alloc ?_ _)); exact BK205.out⟩, ⟨by repeat (first | (with_reducible first | exact HB.out | apply below_alloc | apply pw_below_drewN | apply below_drew1 | refine below_set ?_ GE204.out | refine below_set ?_ GE205.out) | exact HB.out)⟩⟩
      case rest =>
        clear HC17
        try clear c1
        try clear c2
        try clear c2b0
        try clear c2b1
        try clear p2
        try clear c3
        try clear c4
        try clear c6
        try clear c6b0
        try clear c6b1
        try clear c6b2
        try clear c9
        try clear c10
        try clear c21
        try clear c29
        try clear c31
        try clear c36
        try clear hcz11_0
        try clear hcz11_1
        try clear hcz12_0
        try clear hcz12_1
        try clear hcz14_0
        try clear hcz14_1
        try clear hcz15_0
        try clear hcz15_1
        try clear hcz22_0
        try clear hcz22_1
        try clear hcz23_0
        try clear hcz23_1
        try clear hcz25_0
        try clear hcz25_1
        try clear hcz26_0
        try clear hcz26_1
        try clear hcz32_0
        try clear hcz32_1
        try clear hcz34_0
        try clear hcz34_1
        try clear hcz37_0
        try clear hcz37_1
        try clear hfz11_0
        try clear hfz11_1
        try clear hfz12_0
        try clear hfz12_1
        try clear hfz14_0
        try clear hfz14_1
        try clear hfz15_0
        try clear hfz15_1
        try clear hfz22_0
        try clear hfz22_1
        try clear hfz23_0
        try clear hfz23_1
        try clear hfz25_0
        try clear hfz25_1
        try clear hfz26_0
        try clear hfz26_1
        try clear hfz32_0
        try clear hfz32_1
        try clear hfz34_0
        try clear hfz34_1
        try clear hfz37_0
        try clear hfz37_1
        obtain ⟨kq, x30_16, rfl, HA, HJ16, BK204, BK205, HB⟩ := hcut
        cases kq with
        | zero => exact absurd HA.out (by simp [laws_FnSameLink.j0])
        | succ kj16 =>
          have H := HA.out
          clear HA
          simp only [laws_FnSameLink.j0] at H
          by_cases c39 : x30_16 = true
          · subst c39
            have H1 : (if t206 = true then (some false) else ((laws_alive.f kj16).bind fun t210 => (some t210))) = some r := by rw [if_pos rfl] at H; exact H
            clear H
            have H := H1
            clear H1
            by_cases c40 : t206 = true
            · subst c40
              have H1 : (some false) = some r := by rw [if_pos rfl] at H; exact H
              clear H
              have H := H1
              clear H1
              obtain rfl := Option.some.inj H
              go_wp2
              go_ret
              exact ⟨by first | rfl | (simp [errW_none, errW_some] <;> rfl) | (simp [*, errW_none, errW_some] <;> rfl), by repeat (first | (with_reducible first | exact HB.out | apply below_alloc | apply pw_below_drewN | apply below_drew1 | refine below_set ?_ GE204.out | refine below_set ?_ GE205.out) | exact HB.out)⟩
            · replace c40 := Bool.eq_false_iff.mpr c40
              subst c40
              have H1 : ((laws_alive.f kj16).bind fun t210 => (some t210)) = some r := by rw [if_neg (show ¬ (false = true) by decide)] at H; exact H
              clear H
              have H := H1
              clear H1
              replace H := Option.bind_eq_some_iff.mp H
              obtain ⟨t210, A410, H⟩ := H
              replace H : (some t210) = some r := H
              have A41 := Aside0.mk A410
              clear A410
              obtain rfl := Option.some.inj H
              go_wp2_with (first | (go_at_call 18; (with_reducible refine (laws_alive.calls kj16  t210 _ A41.out).mono ?_); rintro e w42 ⟨rfl, hb⟩; have n0_ := Aside0.mk (blk_below (g := gb204) (o := .cells #[.int .i64 t200, .int .i64 t201] 45 (0, 0)) (by (with_reducible repeat (first | refine blk_drewN ?_ _ | refine blk_drew ?_ | refine blk_alloc ?_ _)); exact BK204.out) hb); have n1_ := Aside0.mk (blk_below (g := gb205) (o := .cells #[.int .i64 t202, .int .i64 t203] 45 (0, 0)) (by (with_reducible repeat (first | refine blk_drewN ?_ _ | refine blk_drew ?_ | refine blk_alloc ?_ _)); exact BK205.out) hb); have n2_ := Aside0.mk (below_step (by repeat (first | (with_reducible first | exact HB.out | apply below_alloc | apply pw_below_drewN | apply below_drew1 | refine below_set ?_ GE204.out | refine below_set ?_ GE205.out) | exact HB.out)) hb); clear BK204; clear BK205; clear HB; have BK204 := n0_; have BK205 := n1_; have HB := n2_; clear n0_ n1_ n2_; (try clear hb); (try clear hb2); (try clear hk); (try clear hi)))
              go_ret
              exact ⟨by first | rfl | (simp [errW_none, errW_some] <;> rfl) | (simp [*, errW_none, errW_some] <;> rfl), by repeat (first | (with_reducible first | exact HB.out | apply below_alloc | apply pw_below_drewN | apply below_drew1 | refine below_set ?_ GE204.out | refine below_set ?_ GE205.out) | exact HB.out)⟩
          · replace c39 := Bool.eq_false_iff.mpr c39
            subst c39
            have H1 : (if t200 < 2 then (if (t206 == (t200 == t202 && (t201 == t203))) = true then ((impl_SameLink.f kj16 t202 t203 t200 t201).bind fun t211 => (if (t211 == t206) = true then ((impl_SameLink.f kj16 t200 t201 t200 t201).bind fun t212 => (some t212)) else (some false))) else (some false)) else (if t200 = t202 then (if t201 = t203 then (if (t206 == true) = true then ((impl_SameLink.f kj16 t202 t203 t200 t201).bind fun t213 => (if (t213 == t206) = true then ((impl_SameLink.f kj16 t200 t201 t200 t201).bind fun t214 => (some t214)) else (some false))) else (some false)) else (if t200 = 0 then (none) else (if (t206 == ((Int.tmod (wrap64 (t201 * t203)) t200) == 1)) = true then ((impl_SameLink.f kj16 t202 t203 t200 t201).bind fun t215 => (if (t215 == t206) = true then ((impl_SameLink.f kj16 t200 t201 t200 t201).bind fun t216 => (some t216)) else (some false))) else (some false)))) else (if (t206 == false) = true then ((impl_SameLink.f kj16 t202 t203 t200 t201).bind fun t217 => (if (t217 == t206) = true then ((impl_SameLink.f kj16 t200 t201 t200 t201).bind fun t218 => (some t218)) else (some false))) else (some false)))) = some r := by rw [if_neg (show ¬ (false = true) by decide)] at H; exact H
            clear H
            have H := H1
            clear H1
            by_cases c43 : t200 < 2
            · rw [if_pos c43] at H
              have c43b0 : decide (t200 < 2) = true := decide_eq_true c43
              clear c43
              by_cases c44 : (t206 == (t200 == t202 && (t201 == t203))) = true
              · rw [if_pos c44] at H
                have c44b0 : (t206 == (t200 == t202 && (t201 == t203))) = true := c44
                (try (have c44b1 : decide (t206 = (t200 == t202 && (t201 == t203))) = true := by simpa using c44))
                (try (have c44b2 : (t206 == (t200 == t202 && (t201 == t203))) = true := by simpa using c44))
                clear c44
                replace H := Option.bind_eq_some_iff.mp H
                obtain ⟨t211, A450, H⟩ := H
                replace H : (if (t211 == t206) = true then ((impl_SameLink.f kj16 t200 t201 t200 t201).bind fun t212 => (some t212)) else (some false)) = some r := H
                have A45 := Aside0.mk A450
                clear A450
                by_cases c46 : (t211 == t206) = true
                · rw [if_pos c46] at H
                  have c46b0 : (t211 == t206) = true := c46
                  (try (have c46b1 : decide (t211 = t206) = true := by simpa using c46))
                  (try (have c46b2 : (t211 == t206) = true := by simpa using c46))
                  clear c46
                  replace H := Option.bind_eq_some_iff.mp H
                  obtain ⟨t212, A470, H⟩ := H
                  replace H : (some t212) = some r := H
                  have A47 := Aside0.mk A470
                  clear A470
                  obtain rfl := Option.some.inj H
                  have hnb48 := NB204_205.out
                  have hnc48 := NB205_204.out
                  have hcz49_0 : wc.cell? ⟨gb204, 0, none⟩ = some (.int .i64 t200) := (blk_cell BK204.out 0).trans rfl
                  have hcz49_1 : wc.cell? ⟨gb204, 1, none⟩ = some (.int .i64 t201) := (blk_cell BK204.out 1).trans rfl
                  have hfz49_0 := blk_frozen BK204.out 0
                  have hfz49_1 := blk_frozen BK204.out 1
                  have hcz50_0 : wc.cell? ⟨gb205, 0, none⟩ = some (.int .i64 t202) := (blk_cell BK205.out 0).trans rfl
                  have hcz50_1 : wc.cell? ⟨gb205, 1, none⟩ = some (.int .i64 t203) := (blk_cell BK205.out 1).trans rfl
                  have hfz50_0 := blk_frozen BK205.out 0
                  have hfz50_1 := blk_frozen BK205.out 1
                  go_wp2_with (first | (go_at_call 36; (with_reducible refine (impl_SameLink.calls kj16 t202 t203 t200 t201 t211 _ A45.out).mono ?_); rintro e w51 ⟨rfl, hb⟩; have n0_ := Aside0.mk (blk_below (g := gb204) (o := .cells #[.int .i64 t200, .int .i64 t201] 45 (0, 0)) (by (with_reducible repeat (first | refine blk_drewN ?_ _ | refine blk_drew ?_ | refine blk_alloc ?_ _)); exact BK204.out) hb); have n1_ := Aside0.mk (blk_below (g := gb205) (o := .cells #[.int .i64 t202, .int .i64 t203] 45 (0, 0)) (by (with_reducible repeat (first | refine blk_drewN ?_ _ | refine blk_drew ?_ | refine blk_alloc ?_ _)); exact BK205.out) hb); have n2_ := Aside0.mk (below_step (by repeat (first | (with_reducible first | exact HB.out | apply below_alloc | apply pw_below_drewN | apply below_drew1 | refine below_set ?_ GE204.out | refine below_set ?_ GE205.out) | exact HB.out)) hb); clear BK204; clear BK205; clear HB; have BK204 := n0_; have BK205 := n1_; have HB := n2_; clear n0_ n1_ n2_; (try clear hb); (try clear hb2); (try clear hk); (try clear hi); have hcz52_0 : w51.cell? ⟨gb204, 0, none⟩ = some (.int .i64 t200) := (blk_cell BK204.out 0).trans rfl; have hcz52_1 : w51.cell? ⟨gb204, 1, none⟩ = some (.int .i64 t201) := (blk_cell BK204.out 1).trans rfl; have hfz52_0 := blk_frozen BK204.out 0; have hfz52_1 := blk_frozen BK204.out 1) | (go_at_call 36; (with_reducible refine (impl_SameLink.calls kj16 t200 t201 t200 t201 t212 _ A47.out).mono ?_); rintro e w53 ⟨rfl, hb⟩; have n0_ := Aside0.mk (blk_below (g := gb204) (o := .cells #[.int .i64 t200, .int .i64 t201] 45 (0, 0)) (by (with_reducible repeat (first | refine blk_drewN ?_ _ | refine blk_drew ?_ | refine blk_alloc ?_ _)); exact BK204.out) hb); have n1_ := Aside0.mk (blk_below (g := gb205) (o := .cells #[.int .i64 t202, .int .i64 t203] 45 (0, 0)) (by (with_reducible repeat (first | refine blk_drewN ?_ _ | refine blk_drew ?_ | refine blk_alloc ?_ _)); exact BK205.out) hb); have n2_ := Aside0.mk (below_step (by repeat (first | (with_reducible first | exact HB.out | apply below_alloc | apply pw_below_drewN | apply below_drew1 | refine below_set ?_ GE204.out | refine below_set ?_ GE205.out) | exact HB.out)) hb); clear BK204; clear BK205; clear HB; have BK204 := n0_; have BK205 := n1_; have HB := n2_; clear n0_ n1_ n2_; (try clear hb); (try clear hb2); (try clear hk); (try clear hi)))
                  go_ret
                  exact ⟨by first | rfl | (simp [errW_none, errW_some] <;> rfl) | (simp [*, errW_none, errW_some] <;> rfl), by repeat (first | (with_reducible first | exact HB.out | apply below_alloc | apply pw_below_drewN | apply below_drew1 | refine below_set ?_ GE204.out | refine below_set ?_ GE205.out) | exact HB.out)⟩
                · rw [if_neg c46] at H
                  have c46b0 : (t211 == t206) = false := by simpa using c46
                  (try (have c46b1 : decide (t211 = t206) = false := by simpa using c46))
                  (try (have c46b2 : (t211 == t206) = false := by simpa using c46))
                  (try (have c46b3 : ¬ (t211 = t206) := by simpa using c46))
                  clear c46
                  obtain rfl := Option.some.inj H
                  have hnb54 := NB204_205.out
                  have hnc54 := NB205_204.out
                  have hcz55_0 : wc.cell? ⟨gb204, 0, none⟩ = some (.int .i64 t200) := (blk_cell BK204.out 0).trans rfl
                  have hcz55_1 : wc.cell? ⟨gb204, 1, none⟩ = some (.int .i64 t201) := (blk_cell BK204.out 1).trans rfl
                  have hfz55_0 := blk_frozen BK204.out 0
                  have hfz55_1 := blk_frozen BK204.out 1
                  have hcz56_0 : wc.cell? ⟨gb205, 0, none⟩ = some (.int .i64 t202) := (blk_cell BK205.out 0).trans rfl
                  have hcz56_1 : wc.cell? ⟨gb205, 1, none⟩ = some (.int .i64 t203) := (blk_cell BK205.out 1).trans rfl
                  have hfz56_0 := blk_frozen BK205.out 0
                  have hfz56_1 := blk_frozen BK205.out 1
                  go_wp2_with (first | (go_at_call 36; (with_reducible refine (impl_SameLink.calls kj16 t202 t203 t200 t201 t211 _ A45.out).mono ?_); rintro e w57 ⟨rfl, hb⟩; have n0_ := Aside0.mk (blk_below (g := gb204) (o := .cells #[.int .i64 t200, .int .i64 t201] 45 (0, 0)) (by (with_reducible repeat (first | refine blk_drewN ?_ _ | refine blk_drew ?_ | refine blk_alloc ?_ _)); exact BK204.out) hb); have n1_ := Aside0.mk (blk_below (g := gb205) (o := .cells #[.int .i64 t202, .int .i64 t203] 45 (0, 0)) (by (with_reducible repeat (first | refine blk_drewN ?_ _ | refine blk_drew ?_ | refine blk_alloc ?_ _)); exact BK205.out) hb); have n2_ := Aside0.mk (below_step (by repeat (first | (with_reducible first | exact HB.out | apply below_alloc | apply pw_below_drewN | apply below_drew1 | refine below_set ?_ GE204.out | refine below_set ?_ GE205.out) | exact HB.out)) hb); clear BK204; clear BK205; clear HB; have BK204 := n0_; have BK205 := n1_; have HB := n2_; clear n0_ n1_ n2_; (try clear hb); (try clear hb2); (try clear hk); (try clear hi)))
                  go_ret
                  exact ⟨by first | rfl | (simp [errW_none, errW_some] <;> rfl) | (simp [*, errW_none, errW_some] <;> rfl), by repeat (first | (with_reducible first | exact HB.out | apply below_alloc | apply pw_below_drewN | apply below_drew1 | refine below_set ?_ GE204.out | refine below_set ?_ GE205.out) | exact HB.out)⟩
              · rw [if_neg c44] at H
                have c44b0 : (t206 == (t200 == t202 && (t201 == t203))) = false := by simpa using c44
                (try (have c44b1 : decide (t206 = (t200 == t202 && (t201 == t203))) = false := by simpa using c44))
                (try (have c44b2 : (t206 == (t200 == t202 && (t201 == t203))) = false := by simpa using c44))
                (try (have c44b3 : ¬ (t206 = (t200 == t202 && (t201 == t203))) := by simpa using c44))
                clear c44
                obtain rfl := Option.some.inj H
                have hnb58 := NB204_205.out
                have hnc58 := NB205_204.out
                have hcz59_0 : wc.cell? ⟨gb204, 0, none⟩ = some (.int .i64 t200) := (blk_cell BK204.out 0).trans rfl
                have hcz59_1 : wc.cell? ⟨gb204, 1, none⟩ = some (.int .i64 t201) := (blk_cell BK204.out 1).trans rfl
                have hfz59_0 := blk_frozen BK204.out 0
                have hfz59_1 := blk_frozen BK204.out 1
                have hcz60_0 : wc.cell? ⟨gb205, 0, none⟩ = some (.int .i64 t202) := (blk_cell BK205.out 0).trans rfl
                have hcz60_1 : wc.cell? ⟨gb205, 1, none⟩ = some (.int .i64 t203) := (blk_cell BK205.out 1).trans rfl
                have hfz60_0 := blk_frozen BK205.out 0
                have hfz60_1 := blk_frozen BK205.out 1
                go_wp2
                go_ret
                exact ⟨by first | rfl | (simp [errW_none, errW_some] <;> rfl) | (simp [*, errW_none, errW_some] <;> rfl), by repeat (first | (with_reducible first | exact HB.out | apply below_alloc | apply pw_below_drewN | apply below_drew1 | refine below_set ?_ GE204.out | refine below_set ?_ GE205.out) | exact HB.out)⟩
            · rw [if_neg c43] at H
              have c43b0 : decide (t200 < 2) = false := decide_eq_false c43
              clear c43
              by_cases c61 : t200 = t202
              · rw [if_pos c61] at H
                have c61b0 : (t200 == t202) = true := beq_iff_eq.mpr c61
                have c61b1 : (t200 != t202) = false := bne_eq_false_iff_eq.mpr c61
                clear c61
                by_cases c62 : t201 = t203
                · rw [if_pos c62] at H
                  have c62b0 : (t201 == t203) = true := beq_iff_eq.mpr c62
                  have c62b1 : (t201 != t203) = false := bne_eq_false_iff_eq.mpr c62
                  clear c62
                  by_cases c63 : (t206 == true) = true
                  · rw [if_pos c63] at H
                    have c63b0 : (t206 == true) = true := c63
                    (try (have c63b1 : decide (t206 = true) = true := by simpa using c63))
                    (try (have c63b2 : (t206 == true) = true := by simpa using c63))
                    clear c63
                    replace H := Option.bind_eq_some_iff.mp H
                    obtain ⟨t213, A640, H⟩ := H
                    replace H : (if (t213 == t206) = true then ((impl_SameLink.f kj16 t200 t201 t200 t201).bind fun t214 => (some t214)) else (some false)) = some r := H
                    have A64 := Aside0.mk A640
                    clear A640
                    by_cases c65 : (t213 == t206) = true
                    · rw [if_pos c65] at H
                      have c65b0 : (t213 == t206) = true := c65
                      (try (have c65b1 : decide (t213 = t206) = true := by simpa using c65))
                      (try (have c65b2 : (t213 == t206) = true := by simpa using c65))
                      clear c65
                      replace H := Option.bind_eq_some_iff.mp H
                      obtain ⟨t214, A660, H⟩ := H
                      replace H : (some t214) = some r := H
                      have A66 := Aside0.mk A660
                      clear A660
                      obtain rfl := Option.some.inj H
                      have hnb67 := NB204_205.out
                      have hnc67 := NB205_204.out
                      have hcz68_0 : wc.cell? ⟨gb204, 0, none⟩ = some (.int .i64 t200) := (blk_cell BK204.out 0).trans rfl
                      have hcz68_1 : wc.cell? ⟨gb204, 1, none⟩ = some (.int .i64 t201) := (blk_cell BK204.out 1).trans rfl
                      have hfz68_0 := blk_frozen BK204.out 0
                      have hfz68_1 := blk_frozen BK204.out 1
                      have hcz69_0 : wc.cell? ⟨gb205, 0, none⟩ = some (.int .i64 t202) := (blk_cell BK205.out 0).trans rfl
                      have hcz69_1 : wc.cell? ⟨gb205, 1, none⟩ = some (.int .i64 t203) := (blk_cell BK205.out 1).trans rfl
                      have hfz69_0 := blk_frozen BK205.out 0
                      have hfz69_1 := blk_frozen BK205.out 1
                      go_wp2_with (first | (go_at_call 36; (with_reducible refine (impl_SameLink.calls kj16 t202 t203 t200 t201 t213 _ A64.out).mono ?_); rintro e w70 ⟨rfl, hb⟩; have n0_ := Aside0.mk (blk_below (g := gb204) (o := .cells #[.int .i64 t200, .int .i64 t201] 45 (0, 0)) (by (with_reducible repeat (first | refine blk_drewN ?_ _ | refine blk_drew ?_ | refine blk_alloc ?_ _)); exact BK204.out) hb); have n1_ := Aside0.mk (blk_below (g := gb205) (o := .cells #[.int .i64 t202, .int .i64 t203] 45 (0, 0)) (by (with_reducible repeat (first | refine blk_drewN ?_ _ | refine blk_drew ?_ | refine blk_alloc ?_ _)); exact BK205.out) hb); have n2_ := Aside0.mk (below_step (by repeat (first | (with_reducible first | exact HB.out | apply below_alloc | apply pw_below_drewN | apply below_drew1 | refine below_set ?_ GE204.out | refine below_set ?_ GE205.out) | exact HB.out)) hb); clear BK204; clear BK205; clear HB; have BK204 := n0_; have BK205 := n1_; have HB := n2_; clear n0_ n1_ n2_; (try clear hb); (try clear hb2); (try clear hk); (try clear hi); have hcz71_0 : w70.cell? ⟨gb204, 0, none⟩ = some (.int .i64 t200) := (blk_cell BK204.out 0).trans rfl; have hcz71_1 : w70.cell? ⟨gb204, 1, none⟩ = some (.int .i64 t201) := (blk_cell BK204.out 1).trans rfl; have hfz71_0 := blk_frozen BK204.out 0; have hfz71_1 := blk_frozen BK204.out 1) | (go_at_call 36; (with_reducible refine (impl_SameLink.calls kj16 t200 t201 t200 t201 t214 _ A66.out).mono ?_); rintro e w72 ⟨rfl, hb⟩; have n0_ := Aside0.mk (blk_below (g := gb204) (o := .cells #[.int .i64 t200, .int .i64 t201] 45 (0, 0)) (by (with_reducible repeat (first | refine blk_drewN ?_ _ | refine blk_drew ?_ | refine blk_alloc ?_ _)); exact BK204.out) hb); have n1_ := Aside0.mk (blk_below (g := gb205) (o := .cells #[.int .i64 t202, .int .i64 t203] 45 (0, 0)) (by (with_reducible repeat (first | refine blk_drewN ?_ _ | refine blk_drew ?_ | refine blk_alloc ?_ _)); exact BK205.out) hb); have n2_ := Aside0.mk (below_step (by repeat (first | (with_reducible first | exact HB.out | apply below_alloc | apply pw_below_drewN | apply below_drew1 | refine below_set ?_ GE204.out | refine below_set ?_ GE205.out) | exact HB.out)) hb); clear BK204; clear BK205; clear HB; have BK204 := n0_; have BK205 := n1_; have HB := n2_; clear n0_ n1_ n2_; (try clear hb); (try clear hb2); (try clear hk); (try clear hi)))
                      go_ret
                      exact ⟨by first | rfl | (simp [errW_none, errW_some] <;> rfl) | (simp [*, errW_none, errW_some] <;> rfl), by repeat (first | (with_reducible first | exact HB.out | apply below_alloc | apply pw_below_drewN | apply below_drew1 | refine below_set ?_ GE204.out | refine below_set ?_ GE205.out) | exact HB.out)⟩
                    · rw [if_neg c65] at H
                      have c65b0 : (t213 == t206) = false := by simpa using c65
                      (try (have c65b1 : decide (t213 = t206) = false := by simpa using c65))
                      (try (have c65b2 : (t213 == t206) = false := by simpa using c65))
                      (try (have c65b3 : ¬ (t213 = t206) := by simpa using c65))
                      clear c65
                      obtain rfl := Option.some.inj H
                      have hnb73 := NB204_205.out
                      have hnc73 := NB205_204.out
                      have hcz74_0 : wc.cell? ⟨gb204, 0, none⟩ = some (.int .i64 t200) := (blk_cell BK204.out 0).trans rfl
                      have hcz74_1 : wc.cell? ⟨gb204, 1, none⟩ = some (.int .i64 t201) := (blk_cell BK204.out 1).trans rfl
                      have hfz74_0 := blk_frozen BK204.out 0
                      have hfz74_1 := blk_frozen BK204.out 1
                      have hcz75_0 : wc.cell? ⟨gb205, 0, none⟩ = some (.int .i64 t202) := (blk_cell BK205.out 0).trans rfl
                      have hcz75_1 : wc.cell? ⟨gb205, 1, none⟩ = some (.int .i64 t203) := (blk_cell BK205.out 1).trans rfl
                      have hfz75_0 := blk_frozen BK205.out 0
                      have hfz75_1 := blk_frozen BK205.out 1
                      go_wp2_with (first | (go_at_call 36; (with_reducible refine (impl_SameLink.calls kj16 t202 t203 t200 t201 t213 _ A64.out).mono ?_); rintro e w76 ⟨rfl, hb⟩; have n0_ := Aside0.mk (blk_below (g := gb204) (o := .cells #[.int .i64 t200, .int .i64 t201] 45 (0, 0)) (by (with_reducible repeat (first | refine blk_drewN ?_ _ | refine blk_drew ?_ | refine blk_alloc ?_ _)); exact BK204.out) hb); have n1_ := Aside0.mk (blk_below (g := gb205) (o := .cells #[.int .i64 t202, .int .i64 t203] 45 (0, 0)) (by (with_reducible repeat (first | refine blk_drewN ?_ _ | refine blk_drew ?_ | refine blk_alloc ?_ _)); exact BK205.out) hb); have n2_ := Aside0.mk (below_step (by repeat (first | (with_reducible first | exact HB.out | apply below_alloc | apply pw_below_drewN | apply below_drew1 | refine below_set ?_ GE204.out | refine below_set ?_ GE205.out) | exact HB.out)) hb); clear BK204; clear BK205; clear HB; have BK204 := n0_; have BK205 := n1_; have HB := n2_; clear n0_ n1_ n2_; (try clear hb); (try clear hb2); (try clear hk); (try clear hi)))
                      go_ret
                      exact ⟨by first | rfl | (simp [errW_none, errW_some] <;> rfl) | (simp [*, errW_none, errW_some] <;> rfl), by repeat (first | (with_reducible first | exact HB.out | apply below_alloc | apply pw_below_drewN | apply below_drew1 | refine below_set ?_ GE204.out | refine below_set ?_ GE205.out) | exact HB.out)⟩
                  · rw [if_neg c63] at H
                    have c63b0 : (t206 == true) = false := by simpa using c63
                    (try (have c63b1 : decide (t206 = true) = false := by simpa using c63))
                    (try (have c63b2 : (t206 == true) = false := by simpa using c63))
                    (try (have c63b3 : ¬ (t206 = true) := by simpa using c63))
                    clear c63
                    obtain rfl := Option.some.inj H
                    have hnb77 := NB204_205.out
                    have hnc77 := NB205_204.out
                    have hcz78_0 : wc.cell? ⟨gb204, 0, none⟩ = some (.int .i64 t200) := (blk_cell BK204.out 0).trans rfl
                    have hcz78_1 : wc.cell? ⟨gb204, 1, none⟩ = some (.int .i64 t201) := (blk_cell BK204.out 1).trans rfl
                    have hfz78_0 := blk_frozen BK204.out 0
                    have hfz78_1 := blk_frozen BK204.out 1
                    have hcz79_0 : wc.cell? ⟨gb205, 0, none⟩ = some (.int .i64 t202) := (blk_cell BK205.out 0).trans rfl
                    have hcz79_1 : wc.cell? ⟨gb205, 1, none⟩ = some (.int .i64 t203) := (blk_cell BK205.out 1).trans rfl
                    have hfz79_0 := blk_frozen BK205.out 0
                    have hfz79_1 := blk_frozen BK205.out 1
                    go_wp2
                    go_ret
                    exact ⟨by first | rfl | (simp [errW_none, errW_some] <;> rfl) | (simp [*, errW_none, errW_some] <;> rfl), by repeat (first | (with_reducible first | exact HB.out | apply below_alloc | apply pw_below_drewN | apply below_drew1 | refine below_set ?_ GE204.out | refine below_set ?_ GE205.out) | exact HB.out)⟩
                · rw [if_neg c62] at H
                  have c62b0 : (t201 == t203) = false := beq_eq_false_iff_ne.mpr c62
                  have c62b1 : (t201 != t203) = true := bne_iff_ne.mpr c62
                  by_cases c80 : t200 = 0
                  · rw [if_pos c80] at H
                    exact absurd H (by simp)
                  · rw [if_neg c80] at H
                    have c80b0 : (t200 == 0) = false := beq_eq_false_iff_ne.mpr c80
                    have c80b1 : (t200 != 0) = true := bne_iff_ne.mpr c80
                    by_cases c81 : (t206 == ((Int.tmod (wrap64 (t201 * t203)) t200) == 1)) = true
                    · rw [if_pos c81] at H
                      have c81b0 : (t206 == ((Int.tmod (wrap64 (t201 * t203)) t200) == 1)) = true := c81
                      (try (have c81b1 : decide (t206 = ((Int.tmod (wrap64 (t201 * t203)) t200) == 1)) = true := by simpa using c81))
                      (try (have c81b2 : (t206 == ((Int.tmod (wrap64 (t201 * t203)) t200) == 1)) = true := by simpa using c81))
                      clear c81
                      replace H := Option.bind_eq_some_iff.mp H
                      obtain ⟨t215, A820, H⟩ := H
                      replace H : (if (t215 == t206) = true then ((impl_SameLink.f kj16 t200 t201 t200 t201).bind fun t216 => (some t216)) else (some false)) = some r := H
                      have A82 := Aside0.mk A820
                      clear A820
                      by_cases c83 : (t215 == t206) = true
                      · rw [if_pos c83] at H
                        have c83b0 : (t215 == t206) = true := c83
                        (try (have c83b1 : decide (t215 = t206) = true := by simpa using c83))
                        (try (have c83b2 : (t215 == t206) = true := by simpa using c83))
                        clear c83
                        replace H := Option.bind_eq_some_iff.mp H
                        obtain ⟨t216, A840, H⟩ := H
                        replace H : (some t216) = some r := H
                        have A84 := Aside0.mk A840
                        clear A840
                        obtain rfl := Option.some.inj H
                        have hnb85 := NB204_205.out
                        have hnc85 := NB205_204.out
                        have hcz86_0 : wc.cell? ⟨gb204, 0, none⟩ = some (.int .i64 t200) := (blk_cell BK204.out 0).trans rfl
                        have hcz86_1 : wc.cell? ⟨gb204, 1, none⟩ = some (.int .i64 t201) := (blk_cell BK204.out 1).trans rfl
                        have hfz86_0 := blk_frozen BK204.out 0
                        have hfz86_1 := blk_frozen BK204.out 1
                        have hcz87_0 : wc.cell? ⟨gb205, 0, none⟩ = some (.int .i64 t202) := (blk_cell BK205.out 0).trans rfl
                        have hcz87_1 : wc.cell? ⟨gb205, 1, none⟩ = some (.int .i64 t203) := (blk_cell BK205.out 1).trans rfl
                        have hfz87_0 := blk_frozen BK205.out 0
                        have hfz87_1 := blk_frozen BK205.out 1
                        go_wp2_with (first | (go_at_call 36; (with_reducible refine (impl_SameLink.calls kj16 t202 t203 t200 t201 t215 _ A82.out).mono ?_); rintro e w88 ⟨rfl, hb⟩; have n0_ := Aside0.mk (blk_below (g := gb204) (o := .cells #[.int .i64 t200, .int .i64 t201] 45 (0, 0)) (by (with_reducible repeat (first | refine blk_drewN ?_ _ | refine blk_drew ?_ | refine blk_alloc ?_ _)); exact BK204.out) hb); have n1_ := Aside0.mk (blk_below (g := gb205) (o := .cells #[.int .i64 t202, .int .i64 t203] 45 (0, 0)) (by (with_reducible repeat (first | refine blk_drewN ?_ _ | refine blk_drew ?_ | refine blk_alloc ?_ _)); exact BK205.out) hb); have n2_ := Aside0.mk (below_step (by repeat (first | (with_reducible first | exact HB.out | apply below_alloc | apply pw_below_drewN | apply below_drew1 | refine below_set ?_ GE204.out | refine below_set ?_ GE205.out) | exact HB.out)) hb); clear BK204; clear BK205; clear HB; have BK204 := n0_; have BK205 := n1_; have HB := n2_; clear n0_ n1_ n2_; (try clear hb); (try clear hb2); (try clear hk); (try clear hi); have hcz89_0 : w88.cell? ⟨gb204, 0, none⟩ = some (.int .i64 t200) := (blk_cell BK204.out 0).trans rfl; have hcz89_1 : w88.cell? ⟨gb204, 1, none⟩ = some (.int .i64 t201) := (blk_cell BK204.out 1).trans rfl; have hfz89_0 := blk_frozen BK204.out 0; have hfz89_1 := blk_frozen BK204.out 1) | (go_at_call 36; (with_reducible refine (impl_SameLink.calls kj16 t200 t201 t200 t201 t216 _ A84.out).mono ?_); rintro e w90 ⟨rfl, hb⟩; have n0_ := Aside0.mk (blk_below (g := gb204) (o := .cells #[.int .i64 t200, .int .i64 t201] 45 (0, 0)) (by (with_reducible repeat (first | refine blk_drewN ?_ _ | refine blk_drew ?_ | refine blk_alloc ?_ _)); exact BK204.out) hb); have n1_ := Aside0.mk (blk_below (g := gb205) (o := .cells #[.int .i64 t202, .int .i64 t203] 45 (0, 0)) (by (with_reducible repeat (first | refine blk_drewN ?_ _ | refine blk_drew ?_ | refine blk_alloc ?_ _)); exact BK205.out) hb); have n2_ := Aside0.mk (below_step (by repeat (first | (with_reducible first | exact HB.out | apply below_alloc | apply pw_below_drewN | apply below_drew1 | refine below_set ?_ GE204.out | refine below_set ?_ GE205.out) | exact HB.out)) hb); clear BK204; clear BK205; clear HB; have BK204 := n0_; have BK205 := n1_; have HB := n2_; clear n0_ n1_ n2_; (try clear hb); (try clear hb2); (try clear hk); (try clear hi)))
                        go_ret
                        exact ⟨by first | rfl | (simp [errW_none, errW_some] <;> rfl) | (simp [*, errW_none, errW_some] <;> rfl), by repeat (first | (with_reducible first | exact HB.out | apply below_alloc | apply pw_below_drewN | apply below_drew1 | refine below_set ?_ GE204.out | refine below_set ?_ GE205.out) | exact HB.out)⟩
                      · rw [if_neg c83] at H
                        have c83b0 : (t215 == t206) = false := by simpa using c83
                        (try (have c83b1 : decide (t215 = t206) = false := by simpa using c83))
                        (try (have c83b2 : (t215 == t206) = false := by simpa using c83))
                        (try (have c83b3 : ¬ (t215 = t206) := by simpa using c83))
                        clear c83
                        obtain rfl := Option.some.inj H
                        have hnb91 := NB204_205.out
                        have hnc91 := NB205_204.out
                        have hcz92_0 : wc.cell? ⟨gb204, 0, none⟩ = some (.int .i64 t200) := (blk_cell BK204.out 0).trans rfl
                        have hcz92_1 : wc.cell? ⟨gb204, 1, none⟩ = some (.int .i64 t201) := (blk_cell BK204.out 1).trans rfl
                        have hfz92_0 := blk_frozen BK204.out 0
                        have hfz92_1 := blk_frozen BK204.out 1
                        have hcz93_0 : wc.cell? ⟨gb205, 0, none⟩ = some (.int .i64 t202) := (blk_cell BK205.out 0).trans rfl
                        have hcz93_1 : wc.cell? ⟨gb205, 1, none⟩ = some (.int .i64 t203) := (blk_cell BK205.out 1).trans rfl
                        have hfz93_0 := blk_frozen BK205.out 0
                        have hfz93_1 := blk_frozen BK205.out 1
                        go_wp2_with (first | (go_at_call 36; (with_reducible refine (impl_SameLink.calls kj16 t202 t203 t200 t201 t215 _ A82.out).mono ?_); rintro e w94 ⟨rfl, hb⟩; have n0_ := Aside0.mk (blk_below (g := gb204) (o := .cells #[.int .i64 t200, .int .i64 t201] 45 (0, 0)) (by (with_reducible repeat (first | refine blk_drewN ?_ _ | refine blk_drew ?_ | refine blk_alloc ?_ _)); exact BK204.out) hb); have n1_ := Aside0.mk (blk_below (g := gb205) (o := .cells #[.int .i64 t202, .int .i64 t203] 45 (0, 0)) (by (with_reducible repeat (first | refine blk_drewN ?_ _ | refine blk_drew ?_ | refine blk_alloc ?_ _)); exact BK205.out) hb); have n2_ := Aside0.mk (below_step (by repeat (first | (with_reducible first | exact HB.out | apply below_alloc | apply pw_below_drewN | apply below_drew1 | refine below_set ?_ GE204.out | refine below_set ?_ GE205.out) | exact HB.out)) hb); clear BK204; clear BK205; clear HB; have BK204 := n0_; have BK205 := n1_; have HB := n2_; clear n0_ n1_ n2_; (try clear hb); (try clear hb2); (try clear hk); (try clear hi)))
                        go_ret
                        exact ⟨by first | rfl | (simp [errW_none, errW_some] <;> rfl) | (simp [*, errW_none, errW_some] <;> rfl), by repeat (first | (with_reducible first | exact HB.out | apply below_alloc | apply pw_below_drewN | apply below_drew1 | refine below_set ?_ GE204.out | refine below_set ?_ GE205.out) | exact HB.out)⟩
                    · rw [if_neg c81] at H
                      have c81b0 : (t206 == ((Int.tmod (wrap64 (t201 * t203)) t200) == 1)) = false := by simpa using c81
                      (try (have c81b1 : decide (t206 = ((Int.tmod (wrap64 (t201 * t203)) t200) == 1)) = false := by simpa using c81))
                      (try (have c81b2 : (t206 == ((Int.tmod (wrap64 (t201 * t203)) t200) == 1)) = false := by simpa using c81))
                      (try (have c81b3 : ¬ (t206 = ((Int.tmod (wrap64 (t201 * t203)) t200) == 1)) := by simpa using c81))
                      clear c81
                      obtain rfl := Option.some.inj H
                      have hnb95 := NB204_205.out
                      have hnc95 := NB205_204.out
                      have hcz96_0 : wc.cell? ⟨gb204, 0, none⟩ = some (.int .i64 t200) := (blk_cell BK204.out 0).trans rfl
                      have hcz96_1 : wc.cell? ⟨gb204, 1, none⟩ = some (.int .i64 t201) := (blk_cell BK204.out 1).trans rfl
                      have hfz96_0 := blk_frozen BK204.out 0
                      have hfz96_1 := blk_frozen BK204.out 1
                      have hcz97_0 : wc.cell? ⟨gb205, 0, none⟩ = some (.int .i64 t202) := (blk_cell BK205.out 0).trans rfl
                      have hcz97_1 : wc.cell? ⟨gb205, 1, none⟩ = some (.int .i64 t203) := (blk_cell BK205.out 1).trans rfl
                      have hfz97_0 := blk_frozen BK205.out 0
                      have hfz97_1 := blk_frozen BK205.out 1
                      go_wp2
                      go_ret
                      exact ⟨by first | rfl | (simp [errW_none, errW_some] <;> rfl) | (simp [*, errW_none, errW_some] <;> rfl), by repeat (first | (with_reducible first | exact HB.out | apply below_alloc | apply pw_below_drewN | apply below_drew1 | refine below_set ?_ GE204.out | refine below_set ?_ GE205.out) | exact HB.out)⟩
              · rw [if_neg c61] at H
                have c61b0 : (t200 == t202) = false := beq_eq_false_iff_ne.mpr c61
                have c61b1 : (t200 != t202) = true := bne_iff_ne.mpr c61
                by_cases c98 : (t206 == false) = true
                · rw [if_pos c98] at H
                  have c98b0 : (t206 == false) = true := c98
                  (try (have c98b1 : decide (t206 = false) = true := by simpa using c98))
                  (try (have c98b2 : (t206 == false) = true := by simpa using c98))
                  clear c98
                  replace H := Option.bind_eq_some_iff.mp H
                  obtain ⟨t217, A990, H⟩ := H
                  replace H : (if (t217 == t206) = true then ((impl_SameLink.f kj16 t200 t201 t200 t201).bind fun t218 => (some t218)) else (some false)) = some r := H
                  have A99 := Aside0.mk A990
                  clear A990
                  by_cases c100 : (t217 == t206) = true
                  · rw [if_pos c100] at H
                    have c100b0 : (t217 == t206) = true := c100
                    (try (have c100b1 : decide (t217 = t206) = true := by simpa using c100))
                    (try (have c100b2 : (t217 == t206) = true := by simpa using c100))
                    clear c100
                    replace H := Option.bind_eq_some_iff.mp H
                    obtain ⟨t218, A1010, H⟩ := H
                    replace H : (some t218) = some r := H
                    have A101 := Aside0.mk A1010
                    clear A1010
                    obtain rfl := Option.some.inj H
                    have hnb102 := NB204_205.out
                    have hnc102 := NB205_204.out
                    have hcz103_0 : wc.cell? ⟨gb204, 0, none⟩ = some (.int .i64 t200) := (blk_cell BK204.out 0).trans rfl
                    have hcz103_1 : wc.cell? ⟨gb204, 1, none⟩ = some (.int .i64 t201) := (blk_cell BK204.out 1).trans rfl
                    have hfz103_0 := blk_frozen BK204.out 0
                    have hfz103_1 := blk_frozen BK204.out 1
                    have hcz104_0 : wc.cell? ⟨gb205, 0, none⟩ = some (.int .i64 t202) := (blk_cell BK205.out 0).trans rfl
                    have hcz104_1 : wc.cell? ⟨gb205, 1, none⟩ = some (.int .i64 t203) := (blk_cell BK205.out 1).trans rfl
                    have hfz104_0 := blk_frozen BK205.out 0
                    have hfz104_1 := blk_frozen BK205.out 1
                    go_wp2_with (first | (go_at_call 36; (with_reducible refine (impl_SameLink.calls kj16 t202 t203 t200 t201 t217 _ A99.out).mono ?_); rintro e w105 ⟨rfl, hb⟩; have n0_ := Aside0.mk (blk_below (g := gb204) (o := .cells #[.int .i64 t200, .int .i64 t201] 45 (0, 0)) (by (with_reducible repeat (first | refine blk_drewN ?_ _ | refine blk_drew ?_ | refine blk_alloc ?_ _)); exact BK204.out) hb); have n1_ := Aside0.mk (blk_below (g := gb205) (o := .cells #[.int .i64 t202, .int .i64 t203] 45 (0, 0)) (by (with_reducible repeat (first | refine blk_drewN ?_ _ | refine blk_drew ?_ | refine blk_alloc ?_ _)); exact BK205.out) hb); have n2_ := Aside0.mk (below_step (by repeat (first | (with_reducible first | exact HB.out | apply below_alloc | apply pw_below_drewN | apply below_drew1 | refine below_set ?_ GE204.out | refine below_set ?_ GE205.out) | exact HB.out)) hb); clear BK204; clear BK205; clear HB; have BK204 := n0_; have BK205 := n1_; have HB := n2_; clear n0_ n1_ n2_; (try clear hb); (try clear hb2); (try clear hk); (try clear hi); have hcz106_0 : w105.cell? ⟨gb204, 0, none⟩ = some (.int .i64 t200) := (blk_cell BK204.out 0).trans rfl; have hcz106_1 : w105.cell? ⟨gb204, 1, none⟩ = some (.int .i64 t201) := (blk_cell BK204.out 1).trans rfl; have hfz106_0 := blk_frozen BK204.out 0; have hfz106_1 := blk_frozen BK204.out 1) | (go_at_call 36; (with_reducible refine (impl_SameLink.calls kj16 t200 t201 t200 t201 t218 _ A101.out).mono ?_); rintro e w107 ⟨rfl, hb⟩; have n0_ := Aside0.mk (blk_below (g := gb204) (o := .cells #[.int .i64 t200, .int .i64 t201] 45 (0, 0)) (by (with_reducible repeat (first | refine blk_drewN ?_ _ | refine blk_drew ?_ | refine blk_alloc ?_ _)); exact BK204.out) hb); have n1_ := Aside0.mk (blk_below (g := gb205) (o := .cells #[.int .i64 t202, .int .i64 t203] 45 (0, 0)) (by (with_reducible repeat (first | refine blk_drewN ?_ _ | refine blk_drew ?_ | refine blk_alloc ?_ _)); exact BK205.out) hb); have n2_ := Aside0.mk (below_step (by repeat (first | (with_reducible first | exact HB.out | apply below_alloc | apply pw_below_drewN | apply below_drew1 | refine below_set ?_ GE204.out | refine below_set ?_ GE205.out) | exact HB.out)) hb); clear BK204; clear BK205; clear HB; have BK204 := n0_; have BK205 := n1_; have HB := n2_; clear n0_ n1_ n2_; (try clear hb); (try clear hb2); (try clear hk); (try clear hi)))
                    go_ret
                    exact ⟨by first | rfl | (simp [errW_none, errW_some] <;> rfl) | (simp [*, errW_none, errW_some] <;> rfl), by repeat (first | (with_reducible first | exact HB.out | apply below_alloc | apply pw_below_drewN | apply below_drew1 | refine below_set ?_ GE204.out | refine below_set ?_ GE205.out) | exact HB.out)⟩
                  · rw [if_neg c100] at H
                    have c100b0 : (t217 == t206) = false := by simpa using c100
                    (try (have c100b1 : decide (t217 = t206) = false := by simpa using c100))
                    (try (have c100b2 : (t217 == t206) = false := by simpa using c100))
                    (try (have c100b3 : ¬ (t217 = t206) := by simpa using c100))
                    clear c100
                    obtain rfl := Option.some.inj H
                    have hnb108 := NB204_205.out
                    have hnc108 := NB205_204.out
                    have hcz109_0 : wc.cell? ⟨gb204, 0, none⟩ = some (.int .i64 t200) := (blk_cell BK204.out 0).trans rfl
                    have hcz109_1 : wc.cell? ⟨gb204, 1, none⟩ = some (.int .i64 t201) := (blk_cell BK204.out 1).trans rfl
                    have hfz109_0 := blk_frozen BK204.out 0
                    have hfz109_1 := blk_frozen BK204.out 1
                    have hcz110_0 : wc.cell? ⟨gb205, 0, none⟩ = some (.int .i64 t202) := (blk_cell BK205.out 0).trans rfl
                    have hcz110_1 : wc.cell? ⟨gb205, 1, none⟩ = some (.int .i64 t203) := (blk_cell BK205.out 1).trans rfl
                    have hfz110_0 := blk_frozen BK205.out 0
                    have hfz110_1 := blk_frozen BK205.out 1
                    go_wp2_with (first | (go_at_call 36; (with_reducible refine (impl_SameLink.calls kj16 t202 t203 t200 t201 t217 _ A99.out).mono ?_); rintro e w111 ⟨rfl, hb⟩; have n0_ := Aside0.mk (blk_below (g := gb204) (o := .cells #[.int .i64 t200, .int .i64 t201] 45 (0, 0)) (by (with_reducible repeat (first | refine blk_drewN ?_ _ | refine blk_drew ?_ | refine blk_alloc ?_ _)); exact BK204.out) hb); have n1_ := Aside0.mk (blk_below (g := gb205) (o := .cells #[.int .i64 t202, .int .i64 t203] 45 (0, 0)) (by (with_reducible repeat (first | refine blk_drewN ?_ _ | refine blk_drew ?_ | refine blk_alloc ?_ _)); exact BK205.out) hb); have n2_ := Aside0.mk (below_step (by repeat (first | (with_reducible first | exact HB.out | apply below_alloc | apply pw_below_drewN | apply below_drew1 | refine below_set ?_ GE204.out | refine below_set ?_ GE205.out) | exact HB.out)) hb); clear BK204; clear BK205; clear HB; have BK204 := n0_; have BK205 := n1_; have HB := n2_; clear n0_ n1_ n2_; (try clear hb); (try clear hb2); (try clear hk); (try clear hi)))
                    go_ret
                    exact ⟨by first | rfl | (simp [errW_none, errW_some] <;> rfl) | (simp [*, errW_none, errW_some] <;> rfl), by repeat (first | (with_reducible first | exact HB.out | apply below_alloc | apply pw_below_drewN | apply below_drew1 | refine below_set ?_ GE204.out | refine below_set ?_ GE205.out) | exact HB.out)⟩
                · rw [if_neg c98] at H
                  have c98b0 : (t206 == false) = false := by simpa using c98
                  (try (have c98b1 : decide (t206 = false) = false := by simpa using c98))
                  (try (have c98b2 : (t206 == false) = false := by simpa using c98))
                  (try (have c98b3 : ¬ (t206 = false) := by simpa using c98))
                  clear c98
                  obtain rfl := Option.some.inj H
                  have hnb112 := NB204_205.out
                  have hnc112 := NB205_204.out
                  have hcz113_0 : wc.cell? ⟨gb204, 0, none⟩ = some (.int .i64 t200) := (blk_cell BK204.out 0).trans rfl
                  have hcz113_1 : wc.cell? ⟨gb204, 1, none⟩ = some (.int .i64 t201) := (blk_cell BK204.out 1).trans rfl
                  have hfz113_0 := blk_frozen BK204.out 0
                  have hfz113_1 := blk_frozen BK204.out 1
                  have hcz114_0 : wc.cell? ⟨gb205, 0, none⟩ = some (.int .i64 t202) := (blk_cell BK205.out 0).trans rfl
                  have hcz114_1 : wc.cell? ⟨gb205, 1, none⟩ = some (.int .i64 t203) := (blk_cell BK205.out 1).trans rfl
                  have hfz114_0 := blk_frozen BK205.out 0
                  have hfz114_1 := blk_frozen BK205.out 1
                  go_wp2
                  go_ret
                  exact ⟨by first | rfl | (simp [errW_none, errW_some] <;> rfl) | (simp [*, errW_none, errW_some] <;> rfl), by repeat (first | (with_reducible first | exact HB.out | apply below_alloc | apply pw_below_drewN | apply below_drew1 | refine below_set ?_ GE204.out | refine below_set ?_ GE205.out) | exact HB.out)⟩

/-- THE ONE PURE STATEMENT of laws_FnSameLink: yours. -/
def laws_FnSameLink.Pure : Prop := ∀ (l0 : List Int), l0.length ≤ maxLen → l0.length * 1 ≤ 140737488351232 → (∀ x ∈ l0, (Lit.int .u8 x).wf = true) → ∃ k, laws_FnSameLink.f k l0 = some true
theorem laws_FnSameLink.walk (P : laws_FnSameLink.Pure) (a0 : Option Addr) (len0 cap0 : Nat) (z0 : List Int) (w : World) (w0 : (a0 = none ∧ len0 = 0 ∧ cap0 = 0 ∧ z0 = []) ∨ ∃ x, a0 = some x ∧ len0 ≤ cap0 ∧ cap0 ≤ maxLen ∧ z0.length = cap0 ∧ (∀ i, i < z0.length → w.cell? (x.add i) = some (.int .u8 (z0.getD i 0))) ∧ ∀ n ∈ z0, (Lit.int .u8 n).wf = true) (y0 : len0 * 1 ≤ 140737488351232) :
    Calls Try.prog 9 #[.slice a0 len0 cap0] w fun e w' => e = .returned (.bool true) ∧ Below w.heap.size w w' := by
  obtain ⟨l0, rfl, hr0, hm0, hw0, hc0⟩ := ReadsInt.ofRowC w0
  obtain ⟨k, h⟩ := P l0 hm0 y0 hw0
  refine (laws_FnSameLink.calls k _ _ l0 true w (Kd.C_of_reads (d := (0 : Int)) (h1 := fun _ => rfl) hr0) hc0 h).mono ?_
  rintro e w' ⟨rfl, hd⟩
  exact ⟨rfl, hd⟩

end Go.Proofs.Ytblbkmjneeeodaa.PFnSameLink
