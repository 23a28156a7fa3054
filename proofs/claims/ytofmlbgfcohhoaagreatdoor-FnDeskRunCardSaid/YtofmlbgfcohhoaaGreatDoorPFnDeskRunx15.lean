/- Lean functions of the Go functions that the law FnDeskRun reaches, each with its contract: made by a program of this session. -/
import Derived.Test.YtofmlbgfcohhoaaGreatDoorPFnDeskRunx0
import Derived.Test.YtofmlbgfcohhoaaGreatDoorPFnDeskRunx3
import Derived.Test.YtofmlbgfcohhoaaGreatDoorPFnDeskRunx4
import Derived.Test.YtofmlbgfcohhoaaGreatDoorPFnDeskRunx10
import Derived.Test.YtofmlbgfcohhoaaGreatDoorPFnDeskRunx11
import Derived.Test.YtofmlbgfcohhoaaGreatDoorPFnDeskRunx12
import Derived.Test.YtofmlbgfcohhoaaGreatDoorPFnDeskRunx14
namespace Go.Proofs.YtofmlbgfcohhoaaGreatDoor.PFnDeskRun
open Go.RowKit Go.Proofs.YtofmlbgfcohhoaaGreatDoorW.PrintWords Go.Proofs.YtofmlbgfcohhoaaGreatDoorW.PrintLast Go.Proofs.YtofmlbgfcohhoaaGreatDoorW.PrintMore Go.Proofs.YtofmlbgfcohhoaaGreatDoor.Lib
attribute [local go_sem] max2_int min2_int max_two min_two max_three min_three max_four min_four   -- for this text's walks alone
set_option linter.unusedVariables false
set_option linter.unusedSimpArgs false

/-! ### spec_l20Deeds: function 75 -/
def spec_l20Deeds.l0 : Nat → List (S38) → Int → List Int → Int → Option ((List (S38)) × Int)
 | 0, _, _, _, _ => none
 | k + 1, x3, x4, x1000, x1001 => if x4 > 0 then ((spec_l20Deed.f k x1000 x1001).bind fun bt390 => (if x3.length < 5864062014805 then (spec_l20Deeds.l0 k (x3 ++ [(⟨bt390.1, bt390.2.1⟩ : S38)]) (wrap64 (x4 - 1)) x1000 bt390.2.2) else (none))) else (some (x3, x1001))
def spec_l20Deeds.f (k : Nat) (s0_0 : List Int) (s0_1 : Int) : Option ((List (S38)) × Int) := (spec_l20Rd_pick.f k s0_0 s0_1 6).bind fun bt388 => (spec_l20Deeds.l0 k (([] : List (S38))) bt388.1 s0_0 bt388.2)
theorem spec_l20Deeds.mono_l : ∀ k, (∀ y0 y1 y2 y3, LeO (spec_l20Deeds.l0 k y0 y1 y2 y3) (spec_l20Deeds.l0 (k + 1) y0 y1 y2 y3))
 | 0 => fun _ _ _ _ r h => by simp [spec_l20Deeds.l0] at h
 | k + 1 => by
  have ih0 := spec_l20Deeds.mono_l k
  ·intro y0 y1 y2 y3
   unfold spec_l20Deeds.l0
   repeat' first
   | (with_reducible exact ih0 _ _ _ _)
   | (with_reducible exact spec_l20Deed.mono _ _ _)
   | (with_reducible exact spec_l20Rd_pick.mono _ _ _ _)
   | (with_reducible exact LeO.refl _)
   | (with_reducible exact LeO.none _)
   | (with_reducible refine LeO.ite ?_ ?_)
   | (with_reducible refine LeO.bind ?_ (fun _ => ?_))
theorem spec_l20Deeds.mono : ∀ a0 a1 k, LeO (spec_l20Deeds.f k a0 a1) (spec_l20Deeds.f (k + 1) a0 a1) := by
 intro a0 a1 k
 have ih0 := spec_l20Deeds.mono_l k
 unfold spec_l20Deeds.f
 repeat' first
   | (with_reducible exact ih0 _ _ _ _)
   | (with_reducible exact spec_l20Deed.mono _ _ _)
   | (with_reducible exact spec_l20Rd_pick.mono _ _ _ _)
   | (with_reducible exact LeO.refl _)
   | (with_reducible exact LeO.none _)
   | (with_reducible refine LeO.ite ?_ ?_)
   | (with_reducible refine LeO.bind ?_ (fun _ => ?_))
set_option maxHeartbeats 8000000 in
set_option maxRecDepth 100000 in
theorem spec_l20Deeds.calls (k : Nat) (g : Nat) (s0_0 : List Int) (s0_1 : Int) (r1 : List (S38)) (r2 : Int) (w0 w : World) (hI : IsS131 w0 w g s0_0 s0_1) (hB : Below w0.heap.size w0 w) (h : spec_l20Deeds.f k s0_0 s0_1 = some (r1, r2)) :
  Calls Tryz.prog 75 #[.pointer (some ⟨g, 0, none⟩)] w fun e w' => ∃ v0_ : Value, e = .returned (v0_) ∧ Kd.R k38 38 w' w.heap.size (fun _ => True) v0_ r1 ∧ IsS131 w0 w' g s0_0 r2 ∧ Below w0.heap.size w0 w' ∧ KeepBut w w' g none := by
 have HI0 := Aside0.mk hI
 have HK := Aside0.mk (KeepBut.refl w g none)
 have HL := Aside0.mk hB.size
 clear hI
 have HW0 := Aside0.mk hB.size
 have HB := Aside0.mk hB
 clear hB
 have H : ((spec_l20Rd_pick.f k s0_0 s0_1 6).bind fun bt388 => (spec_l20Deeds.l0 k (([] : List (S38))) bt388.1 s0_0 bt388.2)) = some (r1, r2) := h
 clear h
 obtain ⟨y385, hy385⟩ : ∃ y_ : List (S38), y_ = (([] : List (S38))) := ⟨_, rfl⟩
 replace H : ((spec_l20Rd_pick.f k s0_0 s0_1 6).bind fun bt388 => (spec_l20Deeds.l0 k y385 bt388.1 s0_0 bt388.2)) = some (r1, r2) := sqW hy385 H
 have Ny385 := Aside0.mk hy385
 clear hy385
 obtain ⟨⟨t388, t389⟩, A2, H⟩ := sqD H
 try dsimp only at H
 have H' := Aside0.mk H
 clear H
 go_enter Tryz.func75, Tryz.ntmps75
 go_wp2_with (first | ((with_reducible refine gate_dst (N := 5) rfl ?_); refine Kd.R_lit k38 _ 38 ?hg (N := 5) ?hd (xs := ([] : List (S38))) (inner := []) (ok := fun _ => True) (okp := fun _ => True) ?hr ?hp (fun _ hk => hk) trivial (Below.refl _ _) (Nat.le_refl _) (by simp) ?_; (case hd => rfl); (case hg => rfl); (case hr => exact Z8); (case hp => exact (Reps.none _ _)); intro v386 w3 ho4 hb hg_ hnew_; clear hg_ hnew_; (first | rw [← Ny385.out] at ho4 | (simp only [Int.reduceToNat] at ho4; rw [← Ny385.out] at ho4)); have HO387 := Aside0.mk (Kd.R_lower ho4 (keep_size (w := w) (g := g) (row := none) Z22)); replace HK := Aside0.mk (KeepBut.trans Z22 (KeepBut.of_below hb g none) (.inl rfl)); replace HB := Aside0.mk (below_step (Z23 HI0) hb); replace HI0 := Aside0.mk (IsS131.below (Z21 HI0) hb); clear hb ho4) | ((with_reducible refine gate_callee (f := 82) rfl ?_); refine goesL_ (some 7) rfl rfl Tryz.func82 (by kernel_rfl) rfl #[.pointer (some ⟨g, 0, none⟩), .int .i64 6] rfl sqA ?_; (with_reducible refine (spec_l20Rd_pick.calls k g s0_0 s0_1 6 t388 t389 w0 _ ?side1 ?side2 A2.out).mono ?_); (case side1 => exact Z21 HI0); (case side2 => exact Z23 HI0); rintro e w5 ⟨rfl, hi, hb, hk⟩; refine ⟨_, rfl, ?_⟩; replace HO387 := Aside0.mk (Kd.R_mono (Kd.R_keep (IsS131.apart (show IsS131 w0 _ g s0_0 s0_1 from by repeat (first | (with_reducible first | exact HI0.out | apply IsS131.alloc | apply IsS131.drewN | apply IsS131.drew | apply IsS131.set_1) | exact HI0.out)) (sqR HO387) (by decide)) hk (fun _ h => h.2)) (fun _ h => h.1)); replace HK := Aside0.mk (KeepBut.trans Z22 hk (.inl rfl)); replace HB := Aside0.mk (hb); replace HI0 := Aside0.mk (hi); (try clear hb)))
 go_loopg [3, 4] k (fun kq v3 v4 w' => ∃ (x3_1 : List (S38)) (x4_1 : Int) (x1001_1 : Int), v4 = .int .i64 x4_1 ∧ Aside0 (spec_l20Deeds.l0 kq x3_1 x4_1 s0_0 x1001_1 = some (r1, r2)) ∧ Aside0 (kq ≤ k) ∧ Aside0 (Kd.R k38 38 w' w.heap.size (fun _ => True) v3 x3_1) ∧ Aside0 (IsS131 w0 w' g s0_0 x1001_1) ∧ Aside0 (KeepBut w w' g none) ∧ Aside0 (Below w0.heap.size w0 w'))
 case atStart => exact ⟨(y385), (t388), (t389), Z2, H', ⟨Nat.le_refl _⟩, ⟨sqR HO387⟩, ⟨Z21 HI0⟩, ⟨Z22⟩, ⟨Z23 HI0⟩⟩
 case round =>
  clear H'
  try clear p2
  obtain ⟨x3_1, x4_1, x1001_1, rfl, HA, HK1, HO_3, HI0, HK, HB⟩ := hrel
  cases gk with
  | zero => exact absurd HA.out (by simp [spec_l20Deeds.l0])
  | succ k1 =>
   have H := HA.out
   clear HA
   simp only [spec_l20Deeds.l0] at H
   by_cases c6 : x4_1 > 0
   ·rw [if_pos c6] at H
    have c6b0 : decide (0 < x4_1) = true := decide_eq_true c6
    clear c6
    obtain ⟨⟨t390, t391, t392⟩, A7, H⟩ := sqD H
    try dsimp only at H
    obtain ⟨c8, H⟩ := sqI H
    have LMc8 := Aside0.mk c8
    clear c8
    obtain ⟨y393, hy393⟩ : ∃ y_ : List (S38), y_ = (x3_1 ++ [(⟨t390, t391⟩ : S38)]) := ⟨_, rfl⟩
    replace H : (spec_l20Deeds.l0 k1 y393 (wrap64 (x4_1 - 1)) s0_0 t392) = some (r1, r2) := sqW hy393 H
    have Ny393 := Aside0.mk hy393
    clear hy393
    have H' := Aside0.mk H
    clear H
    go_wp2_with (first | ((with_reducible refine gate_callee (f := 68) rfl ?_); refine goesL_ (some 14) rfl rfl Tryz.func68 (by kernel_rfl) rfl #[.pointer (some ⟨g, 0, none⟩)] rfl sqA ?_; (with_reducible refine (spec_l20Deed.calls k1 g s0_0 x1001_1 t390 t391 t392 w0 _ ?side1 ?side2 A7.out).mono ?_); (case side1 => exact Z21 HI0); (case side2 => exact Z23 HI0); rintro e w9 ⟨rfl, hi, hb, hk⟩; refine ⟨_, rfl, ?_⟩; replace HO_3 := Aside0.mk (Kd.R_mono (Kd.R_keep (IsS131.apart (show IsS131 w0 _ g s0_0 x1001_1 from by repeat (first | (with_reducible first | exact HI0.out | apply IsS131.alloc | apply IsS131.drewN | apply IsS131.drew | apply IsS131.set_1) | exact HI0.out)) (sqR HO_3) (by decide)) hk (fun _ h => h.2)) (fun _ h => h.1)); replace HK := Aside0.mk (KeepBut.trans Z22 hk (.inl rfl)); replace HB := Aside0.mk (hb); replace HI0 := Aside0.mk (hi); (try clear hb)) | ((with_reducible refine gate_builtin (b := .append) (xs := #[.tmp 12, .tmp 15]) rfl ?_); at_builtin; refine Kd.R_append k38 w.heap.size rfl (.tmp 12) (.tmp 15) 52 38 (.agg #[(.int .i64 0), (.string ⟨#[]⟩)]) 24 rfl Tryz.underlying52 info38 rfl (by decide) (by omega) u3 x3_1 (⟨t390, t391⟩ : S38) [.int .i64 t390, .string t391] (fun _ => True) (fun _ => False) rfl rfl ?aP (fun _ hk => hk.elim) ?aF ?aO (Below.refl _ _) ?aS ?aL ?_; (case aP => exact k38_mkM _ _ _ (⟨t390, t391⟩ : S38)); (case aF => exact (fun _ _ => trivial)); (case aO => exact (sqR HO_3)); (case aS => exact (keep_size (w := w) (g := g) (row := none) Z22)); (case aL => exact Z16 LMc8); intro v394 w10 ho hb hg hat; rw [← Ny393.out] at ho; replace HB := Aside0.mk (below_weaken (Z23 HI0) HL.out hb); replace HI0 := Aside0.mk (IsS131.grown (Z21 HI0) hg (IsS131.own_ne HI0.out HO_3.out (by decide))); replace HK := Aside0.mk (KeepBut.trans Z22 (KeepBut.of_grown hg g) (Kd.R_base2 HO_3.out)); have HO395 := Aside0.mk (ho); clear HO_3; clear ho hb hg hat))
    go_roundg k1
    case measure => have := HK1.out; omega
    case rel => exact ⟨(y393), (wrap64 (x4_1 - 1)), (t392), Z2, H', ⟨Z16 HK1⟩, ⟨sqR HO395⟩, ⟨Z21 HI0⟩, ⟨Z22⟩, ⟨Z23 HI0⟩⟩
   ·rw [if_neg c6] at H
    have c6b0 : decide (0 < x4_1) = false := decide_eq_false c6
    clear c6
    simp only [Option.some.injEq, Prod.mk.injEq] at H
    obtain ⟨rfl, rfl⟩ := H
    go_wp2
    go_ret
    exact ⟨_, Z15, Z24 HO_3, Z21 HI0, Z23 HI0, Z22⟩

/-! ### spec_DrawDeskRun: function 27 -/
def spec_DrawDeskRun.f (k : Nat) (l0 : List Int) : Option (Int × Int × (List (S31)) × (List (S38))) := (spec_l20Open.f l0).bind fun bt397 => ((spec_l20Desk.f k bt397.1 bt397.2 12).bind fun bt400 => ((spec_l20Rd_odd.f k bt397.1 bt400.2.2.2 30).bind fun bt407 => (if bt407.1 = true then (if 41 ≤ 11728124029610 then (some (bt400.1, bt400.2.1, bt400.2.2.1, (List.replicate 41 z38))) else (none)) else ((spec_l20Deeds.f k bt397.1 bt407.2).bind fun bt412 => (some (bt400.1, bt400.2.1, bt400.2.2.1, bt412.1))))))
theorem spec_DrawDeskRun.mono : ∀ a0 k, LeO (spec_DrawDeskRun.f k a0) (spec_DrawDeskRun.f (k + 1) a0) := by
 intro a0 k
 unfold spec_DrawDeskRun.f
 repeat' first
   | (with_reducible exact spec_l20Deeds.mono _ _ _)
   | (with_reducible exact spec_l20Desk.mono _ _ _ _)
   | (with_reducible exact spec_l20Rd_odd.mono _ _ _ _)
   | (with_reducible exact LeO.refl _)
   | (with_reducible exact LeO.none _)
   | (with_reducible refine LeO.ite ?_ ?_)
   | (with_reducible refine LeO.bind ?_ (fun _ => ?_))
set_option maxHeartbeats 8000000 in
set_option maxRecDepth 100000 in
theorem spec_DrawDeskRun.calls (k : Nat) (A0 : Option Addr) (c0 : Nat) (l0 : List Int) (r1 : Int) (r2 : Int) (r3 : List (S31)) (r4 : List (S38)) (w : World) (hr0 : Kd.C (Kd.int .u8) w A0 l0.length l0) (hc0 : l0.length ≤ c0) (h : spec_DrawDeskRun.f k l0 = some (r1, r2, r3, r4)) :
  Calls Tryz.prog 27 #[.slice A0 l0.length c0] w fun e w' => ∃ v2_ v3_ : Value, e = .returned (.tuple #[.agg #[.int .i64 r1, .int .i64 r2, v2_], v3_]) ∧ Kd.Q k31 31 w' w.heap.size (fun _ => True) v2_ r3 ∧ Kd.R k38 38 w' w.heap.size (fun _ => True) v3_ r4 ∧ Below w.heap.size w w' := by
 have hu34 := Tryz.underlying34
 have HR0 := Aside0.mk hr0
 have HC0 := Aside0.mk hc0
 clear hr0 hc0
 have HB := Aside0.mk (Below.refl w.heap.size w)
 have H : ((spec_l20Open.f l0).bind fun bt397 => ((spec_l20Desk.f k bt397.1 bt397.2 12).bind fun bt400 => ((spec_l20Rd_odd.f k bt397.1 bt400.2.2.2 30).bind fun bt407 => (if bt407.1 = true then (if 41 ≤ 11728124029610 then (some (bt400.1, bt400.2.1, bt400.2.2.1, (List.replicate 41 z38))) else (none)) else ((spec_l20Deeds.f k bt397.1 bt407.2).bind fun bt412 => (some (bt400.1, bt400.2.1, bt400.2.2.1, bt412.1))))))) = some (r1, r2, r3, r4) := h
 clear h
 obtain ⟨⟨t397, t398⟩, A2, H⟩ := sqD H
 try dsimp only at H
 obtain ⟨⟨t400, t401, t402, t405⟩, A3, H⟩ := sqD H
 try dsimp only at H
 obtain ⟨⟨t407, t408⟩, A4, H⟩ := sqD H
 try dsimp only at H
 by_cases c5 : t407 = true
 ·subst c5
  rw [if_pos rfl] at H
  obtain ⟨c6, H⟩ := sqI H
  have c6b0 := eq_true c6
  have c6b1 : decide (41 ≤ 11728124029610) = true := decide_eq_true c6
  clear c6
  obtain ⟨y409, hy409⟩ : ∃ y_ : List (S38), y_ = (List.replicate 41 z38) := ⟨_, rfl⟩
  replace H : (some (t400, t401, t402, y409)) = some (r1, r2, r3, r4) := sqW hy409 H
  have Ny409 := Aside0.mk hy409
  clear hy409
  simp only [Option.some.injEq, Prod.mk.injEq] at H
  obtain ⟨rfl, rfl, rfl, rfl⟩ := H
  go_enter Tryz.func27, Tryz.ntmps27
  try go_wp2_with (first | ((with_reducible refine gate_dst (N := 2) rfl ?_); refine sqBox (N := 2) (cs := #[.int .i64 0, .int .i64 0, .slice none 0 0]) (t := 34) ?_; intro gb396 hg w7 BK396 hb; have GW396 := Aside0.mk ((sqG hg (sqB HB))); have GE396 := GW396; replace HB := sqS (sqB HB) hb; clear hb hg) | ((with_reducible refine gate_callee (f := 66) rfl ?_); refine goesL_ (some 7) rfl rfl Tryz.func66 (by kernel_rfl) rfl #[.slice A0 l0.length c0] rfl sqA ?_; (with_reducible refine (spec_l20Open.calls _ _ l0 t397 t398 w _ ?side1 ?side2 ?side3 A2.out).mono ?_); (case side1 => exact Z25 GE396); (case side2 => exact HR0.out); (case side3 => exact HC0.out); rintro e w8 ⟨g399, rfl, hi, hb, hb2⟩; refine ⟨_, rfl, ?_⟩; replace HB := Aside0.mk (hb); have HI399 := Aside0.mk (hi); have NB399_396 := Aside0.mk (IsS131.ne_blk hi (blk_below (sqK BK396) hb2) (by decide)); have NB396_399 := Aside0.mk (Ne.symm (IsS131.ne_blk hi (blk_below (sqK BK396) hb2) (by decide))); replace BK396 := Aside0.mk (blk_below (sqK BK396) hb2); (try clear hb)) | ((with_reducible refine gate_callee (f := 67) rfl ?_); refine goesL_ (some 9) rfl rfl Tryz.func67 (by kernel_rfl) rfl #[.pointer (some ⟨g399, 0, none⟩), .int .i64 12] rfl sqA ?_; (with_reducible refine (spec_l20Desk.calls k g399 t397 t398 12 t400 t401 t402 t405 w _ ?side1 ?side2 A3.out).mono ?_); (case side1 => exact Z26 HI399 NB399_396); (case side2 => exact Z27 HI399 GE396); rintro e w9 ⟨v403, rfl, ho0, hi, hb, hk⟩; refine ⟨_, rfl, ?_⟩; replace BK396 := Aside0.mk (KeepBut.blk hk (g' := gb396) (o := .cells #[.int .i64 0, .int .i64 0, .slice none 0 0] 34 (0, 0)) (sqK BK396) NB396_399.out (by simp)); have HO404 := Aside0.mk (Kd.Q_lower ho0 (below_size (Z27 HI399 GE396))); replace HB := Aside0.mk (hb); replace HI399 := Aside0.mk (hi); (try clear hb); (try clear ho0)) | ((with_reducible refine gate_dst (N := 5) rfl ?_); refine sqBox (N := 5) (cs := #[.int .i64 0, .int .i64 0, .slice none 0 0]) (t := 34) ?_; intro gb406 hg w10 BK406 hb; replace HO404 := Aside0.mk (Kd.Q_below (Z10 HO404) hb); have GW406 := Aside0.mk ((by rw [hg]; exact (below_size (Z27 HI399 GE396)) : w.heap.size ≤ gb406)); have GE406 := GW406; replace HB := Aside0.mk (below_step (Z27 HI399 GE396) hb); obtain ⟨NB396_406, NB406_396⟩ := sqM hg BK396; replace BK396 := sqT BK396 hb; have NB399_406 := Aside0.mk ((Z28 HI399 NB399_396 : g399 ≠ gb406)); have NB406_399 := Aside0.mk ((Z29 HI399 NB399_396 : gb406 ≠ g399)); replace HI399 := Aside0.mk (IsS131.below (Z26 HI399 NB399_396) hb); clear hb hg; have hnb11 := NB406_396.out; have hnc11 := NB396_406.out; have hnb12 := NB406_399.out; have hnc12 := NB399_406.out; obtain ⟨hcz13_0, hcz13_1, hcz13_2, hfz13_0, hfz13_1, hfz13_2⟩ := sqY3 BK406; obtain ⟨Ao14, co14, eo14, _⟩ := Kd.Q_slice HO404.out; subst eo14) | ((with_reducible refine gate_callee (f := 74) rfl ?_); refine goesL_ (some 11) rfl rfl Tryz.func74 (by kernel_rfl) rfl #[.pointer (some ⟨g399, 0, none⟩), .int .i64 30] rfl sqA ?_; (with_reducible refine (spec_l20Rd_odd.calls k g399 t397 t405 30 true t408 w _ ?side1 ?side2 A4.out).mono ?_); (case side1 => exact Z30 HI399 NB399_396 NB399_406); (case side2 => exact Z31 HI399 GE396 GE406); rintro e w15 ⟨rfl, hi, hb, hk⟩; refine ⟨_, rfl, ?_⟩; replace BK396 := Aside0.mk (KeepBut.blk hk (g' := gb396) (o := .cells #[.int .i64 0, .int .i64 0, .slice none 0 0] 34 (0, 0)) (Z5 NB396_406 BK396) NB396_399.out (by simp)); replace HO404 := Aside0.mk (Kd.Q_mono (Kd.Q_keep (IsS131.apartQ (show IsS131 w _ g399 t397 t405 from by repeat (first | (with_reducible first | exact HI399.out | apply IsS131.alloc | apply IsS131.drewN | apply IsS131.drew | apply IsS131.set_1 | refine IsS131.far ?_ NB399_396.out _ | refine IsS131.far ?_ NB399_406.out _) | exact HI399.out)) (by (with_reducible repeat (first | apply Kd.Q_alloc | apply Kd.Q_drewN | apply Kd.Q_drew)); exact (Kd.Q_mono (Kd.Q_far (p := ⟨gb406, 2, none⟩) (Kd.Q_far (p := ⟨gb406, 1, none⟩) (Kd.Q_far (p := ⟨gb406, 0, none⟩) (Kd.Q_types HO404.out BK406.out (by decide)) (fun _ hk => hk.2) (.int .i64 t400)) (fun _ hk => hk.2) (.int .i64 t401)) (fun _ hk => hk.2) (.slice Ao14 t402.length co14)) (fun _ h_ => h_.1))) (by decide)) hk (fun _ h => h.2)) (fun _ h => h.1)); replace BK406 := Aside0.mk (KeepBut.blk hk (g' := gb406) (o := .cells #[.int .i64 t400, .int .i64 t401, .slice Ao14 t402.length co14] 34 (0, 0)) (Z32 BK406) NB406_399.out (by simp)); replace HB := Aside0.mk (hb); replace HI399 := Aside0.mk (hi); (try clear hb)))
  replace HO404 := Aside0.mk (Kd.Q_drew HO404.out)
  replace BK396 := Aside0.mk (blk_drew BK396.out)
  replace BK406 := Aside0.mk (blk_drew BK406.out)
  replace HI399 := Aside0.mk (IsS131.drew HI399.out)
  replace HB := Aside0.mk (below_drew1 HB.out)
  refine start_ (n := 4) (S := fun w' => w'.cell? ⟨gb406, 0, none⟩ = some (.int .i64 t400) ∧ w'.cell? ⟨gb406, 1, none⟩ = some (.int .i64 t401) ∧ w'.cell? ⟨gb406, 2, none⟩ = some (.slice Ao14 t402.length co14)) (ds := []) #[false, false, false, false] (by kernel_rfl) rfl rfl ⟨(blk_cell BK406.out 0).trans rfl, (blk_cell BK406.out 1).trans rfl, (blk_cell BK406.out 2).trans rfl⟩ (fun hHeld => ?_)
  generalize w15.drew = w16 at HO404 BK396 BK406 HI399 HB hHeld ⊢
  refine take_ (i := 0) (N := some 12) (v := ?_) (a' := ?_) #[true, false, false, false] rfl rfl (by kernel_rfl) (fun _ _ _ h => h) (Or.inl ⟨by rfl, ?_⟩) hHeld ?_ ?_
  rotate_left
  ·rintro w' ⟨s0, s1, s2⟩
   go_simp
   with_reducible rfl
  rotate_left
  ·simp only [Act.put, List.setIfInBounds_toArray, List.set_cons_zero, List.set_cons_succ, i64_w, i32_w]
   rfl
  refine join_ (σ := Value) 1 #[true, true, true, false] (fun s_ => [(13, s_)]) (fun s_ w' => (w'.cell? ⟨gb406, 0, none⟩ = some (.int .i64 t400) ∧ w'.cell? ⟨gb406, 1, none⟩ = some (.int .i64 t401) ∧ w'.cell? ⟨gb406, 2, none⟩ = some (.slice Ao14 t402.length co14)) ∧ (Kd.Q k31 31 w' w.heap.size (fun _ => True) (.slice Ao14 t402.length co14) t402) ∧ (Kd.R k38 38 w' w.heap.size (fun _ => True) s_ y409) ∧ (w'.heap[gb396]? = some (.cells #[.int .i64 t400, .int .i64 t401, .slice Ao14 t402.length co14] 34 (0, 0))) ∧ (w'.heap[gb406]? = some (.cells #[.int .i64 t400, .int .i64 t401, .slice Ao14 t402.length co14] 34 (0, 0))) ∧ (IsS131 w w' g399 t397 t408) ∧ (Below w.heap.size w w')) ?_ ?_
  rotate_left
  ·intro hCont
   refine two_ (i := 1) (j := 2) (Ni := some 13) (Nj := none) #[true, true, false, false] #[true, false, true, false] rfl rfl rfl rfl (by kernel_rfl) (by decide) (by decide) (fun K hK => ?_) (fun K hK => ?_)
   ·skip
    refine Kd.R_make_step k38 _ 38 (by rfl) (N := 13) rfl 52 _ _ rfl 41 rfl rfl Tryz.underlying52 (.agg #[(.int .i64 0), (.string ⟨#[]⟩)]) 24 info38 rfl (by decide) (by omega) z38 (ok := fun _ => True) (okp := fun _ => True) (k38_mkM _ _ _ z38 ) (fun _ hk => hk) trivial (by omega) (by omega) (Below.refl _ _) (Nat.le_refl _) ?_
    intro v410 w17 ho18 hb hg_ hnew_
    clear hg_ hnew_
    (first | rw [← Ny409.out] at ho18 | (simp only [Int.reduceToNat] at ho18; rw [← Ny409.out] at ho18))
    replace HO404 := Aside0.mk (Kd.Q_below (Z10 HO404) hb)
    have HO411 := Aside0.mk (Kd.R_lower ho18 (below_size (Z31 HI399 GE396 GE406)))
    replace BK396 := sqT BK396 hb
    replace BK406 := sqT BK406 hb
    replace HB := Aside0.mk (below_step (Z31 HI399 GE396 GE406) hb)
    replace HI399 := Aside0.mk (IsS131.below (Z30 HI399 NB399_396 NB399_406) hb)
    clear hb ho18
    refine hK.out _ _ ⟨(blk_cell BK406.out 0).trans rfl, (blk_cell BK406.out 1).trans rfl, (blk_cell BK406.out 2).trans rfl⟩ (fun hHeld => ?_)
    clear hK K
    refine sqN (some 13) ?_
    refine one_ (i := 2) (N := none) #[true, true, true, false] rfl rfl (by kernel_rfl) (by decide) (fun K hK => ?_)
    have hs19 : w17.cell? ⟨gb396, 0, none⟩ = some (.int .i64 0) := (blk_cell BK396.out 0).trans rfl
    have hfs19 := blk_frozen BK396.out 0
    have hns19_1 := NB406_396.out
    have hms19_1 := NB396_406.out
    have hs20 : w17.cell? ⟨gb396, 1, none⟩ = some (.int .i64 0) := (blk_cell BK396.out 1).trans rfl
    have hfs20 := blk_frozen BK396.out 1
    have hns20_1 := NB406_396.out
    have hms20_1 := NB396_406.out
    have hs21 : w17.cell? ⟨gb396, 2, none⟩ = some (.slice none 0 0) := (blk_cell BK396.out 2).trans rfl
    have hfs21 := blk_frozen BK396.out 2
    have hns21_1 := NB406_396.out
    have hms21_1 := NB396_406.out
    refine skip_ (w1 := ?_) (by rfl) rfl ?_ ?_
    rotate_left
    ·go_simp
     rfl
    refine hK.out _ _ ⟨((cell_far (p := ⟨gb396, _, none⟩) NB406_396.out _).trans (((cell_far (p := ⟨gb396, _, none⟩) NB406_396.out _).trans (((cell_far (p := ⟨gb396, _, none⟩) NB406_396.out _).trans (hHeld.1)))))), ((cell_far (p := ⟨gb396, _, none⟩) NB406_396.out _).trans (((cell_far (p := ⟨gb396, _, none⟩) NB406_396.out _).trans (((cell_far (p := ⟨gb396, _, none⟩) NB406_396.out _).trans (hHeld.2.1)))))), ((cell_far (p := ⟨gb396, _, none⟩) NB406_396.out _).trans (((cell_far (p := ⟨gb396, _, none⟩) NB406_396.out _).trans (((cell_far (p := ⟨gb396, _, none⟩) NB406_396.out _).trans (hHeld.2.2))))))⟩ (fun hHeld => ?_)
    clear hK K
    exact norm_ Z33 (hCont (v410) _ ⟨hHeld, (by (with_reducible repeat (first | apply Kd.Q_alloc | apply Kd.Q_drewN | apply Kd.Q_drew)); exact Kd.Q_mono (Kd.Q_far (p := ⟨gb396, 2, none⟩) (Kd.Q_far (p := ⟨gb396, 1, none⟩) (Kd.Q_far (p := ⟨gb396, 0, none⟩) (Kd.Q_types HO404.out BK396.out (by decide)) (fun _ hk => hk.2) (.int .i64 t400)) (fun _ hk => hk.2) (.int .i64 t401)) (fun _ hk => hk.2) (.slice Ao14 t402.length co14)) (fun _ hk => trivial)), (by (with_reducible repeat (first | apply Kd.R_alloc | apply Kd.R_drewN | apply Kd.R_drew)); exact Kd.R_mono (Kd.R_far (p := ⟨gb396, 2, none⟩) (Kd.R_far (p := ⟨gb396, 1, none⟩) (Kd.R_far (p := ⟨gb396, 0, none⟩) (Kd.R_types HO411.out BK396.out (by decide)) (fun _ hk => hk.2) (.int .i64 t400)) (fun _ hk => hk.2) (.int .i64 t401)) (fun _ hk => hk.2) (.slice Ao14 t402.length co14)) (fun _ hk => trivial)), (Z32 BK396), (Z5 NB406_396 BK406), (Z30 HI399 NB399_396 NB399_406), (Z31 HI399 GE396 GE406)⟩)
   ·skip
    have hs17 : w16.cell? ⟨gb396, 0, none⟩ = some (.int .i64 0) := (blk_cell BK396.out 0).trans rfl
    have hfs17 := blk_frozen BK396.out 0
    have hns17_1 := NB406_396.out
    have hms17_1 := NB396_406.out
    have hs18 : w16.cell? ⟨gb396, 1, none⟩ = some (.int .i64 0) := (blk_cell BK396.out 1).trans rfl
    have hfs18 := blk_frozen BK396.out 1
    have hns18_1 := NB406_396.out
    have hms18_1 := NB396_406.out
    have hs19 : w16.cell? ⟨gb396, 2, none⟩ = some (.slice none 0 0) := (blk_cell BK396.out 2).trans rfl
    have hfs19 := blk_frozen BK396.out 2
    have hns19_1 := NB406_396.out
    have hms19_1 := NB396_406.out
    refine skip_ (w1 := ?_) (by rfl) rfl ?_ ?_
    rotate_left
    ·go_simp
     rfl
    refine hK.out _ _ ⟨((cell_far (p := ⟨gb396, _, none⟩) NB406_396.out _).trans (((cell_far (p := ⟨gb396, _, none⟩) NB406_396.out _).trans (((cell_far (p := ⟨gb396, _, none⟩) NB406_396.out _).trans (hHeld.1)))))), ((cell_far (p := ⟨gb396, _, none⟩) NB406_396.out _).trans (((cell_far (p := ⟨gb396, _, none⟩) NB406_396.out _).trans (((cell_far (p := ⟨gb396, _, none⟩) NB406_396.out _).trans (hHeld.2.1)))))), ((cell_far (p := ⟨gb396, _, none⟩) NB406_396.out _).trans (((cell_far (p := ⟨gb396, _, none⟩) NB406_396.out _).trans (((cell_far (p := ⟨gb396, _, none⟩) NB406_396.out _).trans (hHeld.2.2))))))⟩ (fun hHeld => ?_)
    clear hK K
    refine one_ (i := 1) (N := some 13) #[true, true, true, false] rfl rfl (by kernel_rfl) (by decide) (fun K hK => ?_)
    refine Kd.R_make_step k38 _ 38 (by rfl) (N := 13) rfl 52 _ _ rfl 41 rfl rfl Tryz.underlying52 (.agg #[(.int .i64 0), (.string ⟨#[]⟩)]) 24 info38 rfl (by decide) (by omega) z38 (ok := fun _ => True) (okp := fun _ => True) (k38_mkM _ _ _ z38 ) (fun _ hk => hk) trivial (by omega) (by omega) (Below.refl _ _) (Nat.le_refl _) ?_
    intro v410 w20 ho21 hb hg_ hnew_
    clear hg_ hnew_
    (first | rw [← Ny409.out] at ho21 | (simp only [Int.reduceToNat] at ho21; rw [← Ny409.out] at ho21))
    replace HO404 := Aside0.mk (Kd.Q_below (by (with_reducible repeat (first | apply Kd.Q_alloc | apply Kd.Q_drewN | apply Kd.Q_drew)); exact (Kd.Q_mono (Kd.Q_far (p := ⟨gb396, 2, none⟩) (Kd.Q_far (p := ⟨gb396, 1, none⟩) (Kd.Q_far (p := ⟨gb396, 0, none⟩) (Kd.Q_types HO404.out BK396.out (by decide)) (fun _ hk => hk.2) (.int .i64 t400)) (fun _ hk => hk.2) (.int .i64 t401)) (fun _ hk => hk.2) (.slice Ao14 t402.length co14)) (fun _ h_ => h_.1))) hb)
    have HO411 := Aside0.mk (Kd.R_lower ho21 (below_size (Z31 HI399 GE396 GE406)))
    replace BK396 := Aside0.mk (blk_below (g := gb396) (o := .cells #[.int .i64 t400, .int .i64 t401, .slice Ao14 t402.length co14] 34 (0, 0)) (Z32 BK396) hb)
    replace BK406 := Aside0.mk (blk_below (g := gb406) (o := .cells #[.int .i64 t400, .int .i64 t401, .slice Ao14 t402.length co14] 34 (0, 0)) (Z5 NB406_396 BK406) hb)
    replace HB := Aside0.mk (below_step (Z31 HI399 GE396 GE406) hb)
    replace HI399 := Aside0.mk (IsS131.below (show IsS131 w (((w16.setCell ⟨gb396, 0, none⟩ (.int .i64 t400)).setCell ⟨gb396, 1, none⟩ (.int .i64 t401)).setCell ⟨gb396, 2, none⟩ (.slice Ao14 t402.length co14)) g399 t397 t408 from by repeat (first | (with_reducible first | exact HI399.out | apply IsS131.alloc | apply IsS131.drewN | apply IsS131.drew | apply IsS131.set_1 | refine IsS131.far ?_ NB399_396.out _ | refine IsS131.far ?_ NB399_406.out _) | exact HI399.out)) hb)
    clear hb ho21
    refine hK.out _ _ ⟨(blk_cell BK406.out 0).trans rfl, (blk_cell BK406.out 1).trans rfl, (blk_cell BK406.out 2).trans rfl⟩ (fun hHeld => ?_)
    clear hK K
    refine sqN (some 13) ?_
    exact norm_ Z33 (hCont (v410) _ ⟨hHeld, (Z10 HO404), (sqR HO411), (sqK BK396), (sqK BK406), (Z30 HI399 NB399_396 NB399_406), (Z31 HI399 GE396 GE406)⟩)
  rintro v410 w22 ⟨hS_, h0_, h1_, h2_, h3_, h4_, h5_⟩
  have n0_ : Aside0 (Kd.Q k31 31 w22 w.heap.size (fun _ => True) (.slice Ao14 t402.length co14) t402) := ⟨h0_⟩
  have n1_ : Aside0 (Kd.R k38 38 w22 w.heap.size (fun _ => True) v410 y409) := ⟨h1_⟩
  have n2_ : Aside0 (w22.heap[gb396]? = some (.cells #[.int .i64 t400, .int .i64 t401, .slice Ao14 t402.length co14] 34 (0, 0))) := ⟨h2_⟩
  have n3_ : Aside0 (w22.heap[gb406]? = some (.cells #[.int .i64 t400, .int .i64 t401, .slice Ao14 t402.length co14] 34 (0, 0))) := ⟨h3_⟩
  have n4_ : Aside0 (IsS131 w w22 g399 t397 t408) := ⟨h4_⟩
  have n5_ : Aside0 (Below w.heap.size w w22) := ⟨h5_⟩
  clear HO404
  clear BK396
  clear BK406
  clear HI399
  clear HB
  clear h0_ h1_ h2_ h3_ h4_ h5_
  have HO404 := n0_
  have HO411 := n1_
  have BK396 := n2_
  have BK406 := n3_
  have HI399 := n4_
  have HB := n5_
  clear n0_ n1_ n2_ n3_ n4_ n5_
  have hHeld : w22.cell? ⟨gb406, 0, none⟩ = some (.int .i64 t400) ∧ w22.cell? ⟨gb406, 1, none⟩ = some (.int .i64 t401) ∧ w22.cell? ⟨gb406, 2, none⟩ = some (.slice Ao14 t402.length co14) := hS_
  refine norm_ (a' := ?_) ?_ ?_
  rotate_left
  ·simp only [putAll, Act.put, List.setIfInBounds_toArray, List.set_cons_zero, List.set_cons_succ]
   rfl
  refine pure_ (i := 3) (N := some 3) (v := ?_) (a' := ?_) #[true, true, true, true] rfl rfl (by kernel_rfl) (fun _ _ _ h => h) (Or.inl ⟨by rfl, ?_⟩) ?_ ?_
  rotate_left
  ·intro w'
   go_simp
   with_reducible rfl
  rotate_left
  ·simp only [Act.put, List.setIfInBounds_toArray, List.set_cons_zero, List.set_cons_succ, i64_w, i32_w]
   rfl
  refine done_ (by kernel_rfl) ?_
  try go_wp2
  refine bodyPost_ret (results_ct rfl _ _ gb396 34 #[.int .i64 t400, .int .i64 t401, .slice Ao14 t402.length co14] (0, 0) _ rfl (sqK BK396) Tryz.underlying34 rfl (by kernel_rfl)) rfl ?_
  exact ⟨_, _, Z15, Z10 HO404, Z24 HO411, Z31 HI399 GE396 GE406⟩
 ·replace c5 := Bool.eq_false_iff.mpr c5
  subst c5
  rw [if_neg sqF] at H
  obtain ⟨⟨t412, t415⟩, A23, H⟩ := sqD H
  try dsimp only at H
  simp only [Option.some.injEq, Prod.mk.injEq] at H
  obtain ⟨rfl, rfl, rfl, rfl⟩ := H
  go_enter Tryz.func27, Tryz.ntmps27
  try go_wp2_with (first | ((with_reducible refine gate_dst (N := 2) rfl ?_); refine sqBox (N := 2) (cs := #[.int .i64 0, .int .i64 0, .slice none 0 0]) (t := 34) ?_; intro gb396 hg w24 BK396 hb; have GW396 := Aside0.mk ((sqG hg (sqB HB))); have GE396 := GW396; replace HB := sqS (sqB HB) hb; clear hb hg) | ((with_reducible refine gate_callee (f := 66) rfl ?_); refine goesL_ (some 7) rfl rfl Tryz.func66 (by kernel_rfl) rfl #[.slice A0 l0.length c0] rfl sqA ?_; (with_reducible refine (spec_l20Open.calls _ _ l0 t397 t398 w _ ?side1 ?side2 ?side3 A2.out).mono ?_); (case side1 => exact Z25 GE396); (case side2 => exact HR0.out); (case side3 => exact HC0.out); rintro e w25 ⟨g399, rfl, hi, hb, hb2⟩; refine ⟨_, rfl, ?_⟩; replace HB := Aside0.mk (hb); have HI399 := Aside0.mk (hi); have NB399_396 := Aside0.mk (IsS131.ne_blk hi (blk_below (sqK BK396) hb2) (by decide)); have NB396_399 := Aside0.mk (Ne.symm (IsS131.ne_blk hi (blk_below (sqK BK396) hb2) (by decide))); replace BK396 := Aside0.mk (blk_below (sqK BK396) hb2); (try clear hb)) | ((with_reducible refine gate_callee (f := 67) rfl ?_); refine goesL_ (some 9) rfl rfl Tryz.func67 (by kernel_rfl) rfl #[.pointer (some ⟨g399, 0, none⟩), .int .i64 12] rfl sqA ?_; (with_reducible refine (spec_l20Desk.calls k g399 t397 t398 12 t400 t401 t402 t405 w _ ?side1 ?side2 A3.out).mono ?_); (case side1 => exact Z26 HI399 NB399_396); (case side2 => exact Z27 HI399 GE396); rintro e w26 ⟨v403, rfl, ho0, hi, hb, hk⟩; refine ⟨_, rfl, ?_⟩; replace BK396 := Aside0.mk (KeepBut.blk hk (g' := gb396) (o := .cells #[.int .i64 0, .int .i64 0, .slice none 0 0] 34 (0, 0)) (sqK BK396) NB396_399.out (by simp)); have HO404 := Aside0.mk (Kd.Q_lower ho0 (below_size (Z27 HI399 GE396))); replace HB := Aside0.mk (hb); replace HI399 := Aside0.mk (hi); (try clear hb); (try clear ho0)) | ((with_reducible refine gate_dst (N := 5) rfl ?_); refine sqBox (N := 5) (cs := #[.int .i64 0, .int .i64 0, .slice none 0 0]) (t := 34) ?_; intro gb406 hg w27 BK406 hb; replace HO404 := Aside0.mk (Kd.Q_below (Z10 HO404) hb); have GW406 := Aside0.mk ((by rw [hg]; exact (below_size (Z27 HI399 GE396)) : w.heap.size ≤ gb406)); have GE406 := GW406; replace HB := Aside0.mk (below_step (Z27 HI399 GE396) hb); obtain ⟨NB396_406, NB406_396⟩ := sqM hg BK396; replace BK396 := sqT BK396 hb; have NB399_406 := Aside0.mk ((Z28 HI399 NB399_396 : g399 ≠ gb406)); have NB406_399 := Aside0.mk ((Z29 HI399 NB399_396 : gb406 ≠ g399)); replace HI399 := Aside0.mk (IsS131.below (Z26 HI399 NB399_396) hb); clear hb hg; have hnb28 := NB406_396.out; have hnc28 := NB396_406.out; have hnb29 := NB406_399.out; have hnc29 := NB399_406.out; obtain ⟨hcz30_0, hcz30_1, hcz30_2, hfz30_0, hfz30_1, hfz30_2⟩ := sqY3 BK406; obtain ⟨Ao31, co31, eo31, _⟩ := Kd.Q_slice HO404.out; subst eo31) | ((with_reducible refine gate_callee (f := 74) rfl ?_); refine goesL_ (some 11) rfl rfl Tryz.func74 (by kernel_rfl) rfl #[.pointer (some ⟨g399, 0, none⟩), .int .i64 30] rfl sqA ?_; (with_reducible refine (spec_l20Rd_odd.calls k g399 t397 t405 30 false t408 w _ ?side1 ?side2 A4.out).mono ?_); (case side1 => exact Z30 HI399 NB399_396 NB399_406); (case side2 => exact Z31 HI399 GE396 GE406); rintro e w32 ⟨rfl, hi, hb, hk⟩; refine ⟨_, rfl, ?_⟩; replace BK396 := Aside0.mk (KeepBut.blk hk (g' := gb396) (o := .cells #[.int .i64 0, .int .i64 0, .slice none 0 0] 34 (0, 0)) (Z5 NB396_406 BK396) NB396_399.out (by simp)); replace HO404 := Aside0.mk (Kd.Q_mono (Kd.Q_keep (IsS131.apartQ (show IsS131 w _ g399 t397 t405 from by repeat (first | (with_reducible first | exact HI399.out | apply IsS131.alloc | apply IsS131.drewN | apply IsS131.drew | apply IsS131.set_1 | refine IsS131.far ?_ NB399_396.out _ | refine IsS131.far ?_ NB399_406.out _) | exact HI399.out)) (by (with_reducible repeat (first | apply Kd.Q_alloc | apply Kd.Q_drewN | apply Kd.Q_drew)); exact (Kd.Q_mono (Kd.Q_far (p := ⟨gb406, 2, none⟩) (Kd.Q_far (p := ⟨gb406, 1, none⟩) (Kd.Q_far (p := ⟨gb406, 0, none⟩) (Kd.Q_types HO404.out BK406.out (by decide)) (fun _ hk => hk.2) (.int .i64 t400)) (fun _ hk => hk.2) (.int .i64 t401)) (fun _ hk => hk.2) (.slice Ao31 t402.length co31)) (fun _ h_ => h_.1))) (by decide)) hk (fun _ h => h.2)) (fun _ h => h.1)); replace BK406 := Aside0.mk (KeepBut.blk hk (g' := gb406) (o := .cells #[.int .i64 t400, .int .i64 t401, .slice Ao31 t402.length co31] 34 (0, 0)) (Z32 BK406) NB406_399.out (by simp)); replace HB := Aside0.mk (hb); replace HI399 := Aside0.mk (hi); (try clear hb)))
  replace HO404 := Aside0.mk (Kd.Q_drew HO404.out)
  replace BK396 := Aside0.mk (blk_drew BK396.out)
  replace BK406 := Aside0.mk (blk_drew BK406.out)
  replace HI399 := Aside0.mk (IsS131.drew HI399.out)
  replace HB := Aside0.mk (below_drew1 HB.out)
  refine start_ (n := 5) (S := fun w' => w'.cell? ⟨gb406, 0, none⟩ = some (.int .i64 t400) ∧ w'.cell? ⟨gb406, 1, none⟩ = some (.int .i64 t401) ∧ w'.cell? ⟨gb406, 2, none⟩ = some (.slice Ao31 t402.length co31)) (ds := []) #[false, false, false, false, false] (by kernel_rfl) rfl rfl ⟨(blk_cell BK406.out 0).trans rfl, (blk_cell BK406.out 1).trans rfl, (blk_cell BK406.out 2).trans rfl⟩ (fun hHeld => ?_)
  generalize w32.drew = w33 at HO404 BK396 BK406 HI399 HB hHeld ⊢
  refine pure_ (i := 1) (N := some 15) (v := ?_) (a' := ?_) #[false, true, false, false, false] rfl rfl (by kernel_rfl) (fun _ _ _ h => h) (Or.inl ⟨by rfl, ?_⟩) ?_ ?_
  rotate_left
  ·intro w'
   go_simp
   with_reducible rfl
  rotate_left
  ·simp only [Act.put, List.setIfInBounds_toArray, List.set_cons_zero, List.set_cons_succ, i64_w, i32_w]
   rfl
  refine take_ (i := 0) (N := some 14) (v := ?_) (a' := ?_) #[true, true, false, false, false] rfl rfl (by kernel_rfl) (fun _ _ _ h => h) (Or.inl ⟨by rfl, ?_⟩) hHeld ?_ ?_
  rotate_left
  ·rintro w' ⟨s0, s1, s2⟩
   go_simp
   with_reducible rfl
  rotate_left
  ·simp only [Act.put, List.setIfInBounds_toArray, List.set_cons_zero, List.set_cons_succ, i64_w, i32_w]
   rfl
  refine one_ (i := 2) (N := some 16) #[true, true, true, false, false] rfl rfl (by kernel_rfl) (by decide) (fun K hK => ?_)
  refine goes_ Tryz.func75 (by kernel_rfl) rfl #[.pointer (some ⟨g399, 0, none⟩)] (by rfl) rfl rfl sqA ?_
  with_reducible refine (spec_l20Deeds.calls k g399 t397 t408 t412 t415 w _ ?side1 ?side2 A23.out).mono ?_
  (case side1 => exact Z30 HI399 NB399_396 NB399_406)
  (case side2 => exact Z31 HI399 GE396 GE406)
  rintro e w34 ⟨v413, rfl, ho0, hi, hb, hk⟩
  refine ⟨_, rfl, ?_⟩
  replace BK396 := Aside0.mk (KeepBut.blk hk (g' := gb396) (o := .cells #[.int .i64 0, .int .i64 0, .slice none 0 0] 34 (0, 0)) (sqK BK396) NB396_399.out (by simp))
  replace HO404 := Aside0.mk (Kd.Q_mono (Kd.Q_keep (IsS131.apartQ (show IsS131 w _ g399 t397 t408 from by repeat (first | (with_reducible first | exact HI399.out | apply IsS131.alloc | apply IsS131.drewN | apply IsS131.drew | apply IsS131.set_1 | refine IsS131.far ?_ NB399_396.out _ | refine IsS131.far ?_ NB399_406.out _) | exact HI399.out)) (Z10 HO404) (by decide)) hk (fun _ h => h.2)) (fun _ h => h.1))
  replace BK406 := Aside0.mk (KeepBut.blk hk (g' := gb406) (o := .cells #[.int .i64 t400, .int .i64 t401, .slice Ao31 t402.length co31] 34 (0, 0)) (sqK BK406) NB406_399.out (by simp))
  have HO414 := Aside0.mk (Kd.R_lower ho0 (below_size (Z31 HI399 GE396 GE406)))
  replace HB := Aside0.mk (hb)
  replace HI399 := Aside0.mk (hi)
  (try clear hb)
  (try clear hb2)
  (try clear hk)
  (try clear hi)
  (try clear ho0)
  refine hK.out _ _ ⟨(blk_cell BK406.out 0).trans rfl, (blk_cell BK406.out 1).trans rfl, (blk_cell BK406.out 2).trans rfl⟩ (fun hHeld => ?_)
  clear hK K
  refine sqN (some 16) ?_
  refine one_ (i := 3) (N := none) #[true, true, true, true, false] rfl rfl (by kernel_rfl) (by decide) (fun K hK => ?_)
  have hs35 : w34.cell? ⟨gb396, 0, none⟩ = some (.int .i64 0) := (blk_cell BK396.out 0).trans rfl
  have hfs35 := blk_frozen BK396.out 0
  have hns35_1 := NB406_396.out
  have hms35_1 := NB396_406.out
  have hs36 : w34.cell? ⟨gb396, 1, none⟩ = some (.int .i64 0) := (blk_cell BK396.out 1).trans rfl
  have hfs36 := blk_frozen BK396.out 1
  have hns36_1 := NB406_396.out
  have hms36_1 := NB396_406.out
  have hs37 : w34.cell? ⟨gb396, 2, none⟩ = some (.slice none 0 0) := (blk_cell BK396.out 2).trans rfl
  have hfs37 := blk_frozen BK396.out 2
  have hns37_1 := NB406_396.out
  have hms37_1 := NB396_406.out
  refine skip_ (w1 := ?_) (by rfl) rfl ?_ ?_
  rotate_left
  ·go_simp
   rfl
  refine hK.out _ _ ⟨((cell_far (p := ⟨gb396, _, none⟩) NB406_396.out _).trans (((cell_far (p := ⟨gb396, _, none⟩) NB406_396.out _).trans (((cell_far (p := ⟨gb396, _, none⟩) NB406_396.out _).trans (hHeld.1)))))), ((cell_far (p := ⟨gb396, _, none⟩) NB406_396.out _).trans (((cell_far (p := ⟨gb396, _, none⟩) NB406_396.out _).trans (((cell_far (p := ⟨gb396, _, none⟩) NB406_396.out _).trans (hHeld.2.1)))))), ((cell_far (p := ⟨gb396, _, none⟩) NB406_396.out _).trans (((cell_far (p := ⟨gb396, _, none⟩) NB406_396.out _).trans (((cell_far (p := ⟨gb396, _, none⟩) NB406_396.out _).trans (hHeld.2.2))))))⟩ (fun hHeld => ?_)
  clear hK K
  refine pure_ (i := 4) (N := some 3) (v := ?_) (a' := ?_) #[true, true, true, true, true] rfl rfl (by kernel_rfl) (fun _ _ _ h => h) (Or.inl ⟨by rfl, ?_⟩) ?_ ?_
  rotate_left
  ·intro w'
   go_simp
   with_reducible rfl
  rotate_left
  ·simp only [Act.put, List.setIfInBounds_toArray, List.set_cons_zero, List.set_cons_succ, i64_w, i32_w]
   rfl
  refine done_ (by kernel_rfl) ?_
  try go_wp2
  refine bodyPost_ret (results_ct rfl _ _ gb396 34 #[.int .i64 t400, .int .i64 t401, .slice Ao31 t402.length co31] (0, 0) _ rfl (Z32 BK396) Tryz.underlying34 rfl (by kernel_rfl)) rfl ?_
  exact ⟨_, _, Z15, by (with_reducible repeat (first | apply Kd.Q_alloc | apply Kd.Q_drewN | apply Kd.Q_drew)); exact Kd.Q_mono (Kd.Q_far (p := ⟨gb396, 2, none⟩) (Kd.Q_far (p := ⟨gb396, 1, none⟩) (Kd.Q_far (p := ⟨gb396, 0, none⟩) (Kd.Q_types HO404.out BK396.out (by decide)) (fun _ hk => hk.2) (.int .i64 t400)) (fun _ hk => hk.2) (.int .i64 t401)) (fun _ hk => hk.2) (.slice Ao31 t402.length co31)) (fun _ hk => trivial), by (with_reducible repeat (first | apply Kd.R_alloc | apply Kd.R_drewN | apply Kd.R_drew)); exact Kd.R_mono (Kd.R_far (p := ⟨gb396, 2, none⟩) (Kd.R_far (p := ⟨gb396, 1, none⟩) (Kd.R_far (p := ⟨gb396, 0, none⟩) (Kd.R_types HO414.out BK396.out (by decide)) (fun _ hk => hk.2) (.int .i64 t400)) (fun _ hk => hk.2) (.int .i64 t401)) (fun _ hk => hk.2) (.slice Ao31 t402.length co31)) (fun _ hk => trivial), Z31 HI399 GE396 GE406⟩

/-! ### impl_copyDesk: function 76 -/
def impl_copyDesk.f (a0_0 : Int) (a0_1 : Int) (l0_2 : List (S31)) : Option (Int × Int × (List (S31))) := (some (([] : List (S31)) : List (S31))).bind fun y418 => (if y418.length + l0_2.length < 8796093022208 then (some (a0_0, a0_1, (y418 ++ l0_2))) else (none))
def impl_copyDesk.T1 : Bool × List (List Nat × List Nat) := (true, [([], []), ([0], [0]), ([], []), ([], []), ([3], [3]), ([2, 4], [2, 4]), ([1, 5], [1, 5]), ([6, 5, 0, 1, 2, 3, 4, 5, 6], [6])])
def impl_copyDesk.B1 : List Nat := [0, 1, 0, 0, 8, 28, 63, 127]
theorem impl_copyDesk.tab1 : rtab .any (opsOf Tryz.f76 1) = impl_copyDesk.T1 := by kernel_rfl
theorem impl_copyDesk.bits1 : waitsOk impl_copyDesk.T1.2 impl_copyDesk.B1 = true := by kernel_rfl
set_option maxHeartbeats 8000000 in
set_option maxRecDepth 100000 in
theorem impl_copyDesk.calls (a0_0 : Int) (a0_1 : Int) (A0_2 : Option Addr) (c0_2 : Nat) (l0_2 : List (S31)) (r1 : Int) (r2 : Int) (r3 : List (S31)) (w : World) (hr0_2 : Kd.C k31 w A0_2 l0_2.length l0_2) (hc0_2 : l0_2.length ≤ c0_2) (h : impl_copyDesk.f a0_0 a0_1 l0_2 = some (r1, r2, r3)) :
  Calls Tryz.prog 76 #[.agg #[.int .i64 a0_0, .int .i64 a0_1, .slice A0_2 l0_2.length c0_2]] w fun e w' => ∃ v2_ : Value, e = .returned (.agg #[.int .i64 r1, .int .i64 r2, v2_]) ∧ Kd.R k31 31 w' w.heap.size (fun _ => True) v2_ r3 ∧ Below w.heap.size w w' := by
 have hu34 := Tryz.underlying34
 have hu31 := Tryz.underlying31
 have HR0_2 := Aside0.mk hr0_2
 have HC0_2 := Aside0.mk hc0_2
 clear hr0_2 hc0_2
 have HB := Aside0.mk (Below.refl w.heap.size w)
 have H : ((some (([] : List (S31)) : List (S31))).bind fun y418 => (if y418.length + l0_2.length < 8796093022208 then (some (a0_0, a0_1, (y418 ++ l0_2))) else (none))) = some (r1, r2, r3) := h
 clear h
 obtain ⟨y418, hy418⟩ : ∃ y_ : List (S31), y_ = (([] : List (S31))) := ⟨_, rfl⟩
 replace H : (if y418.length + l0_2.length < 8796093022208 then (some (a0_0, a0_1, (y418 ++ l0_2))) else (none)) = some (r1, r2, r3) := sqW hy418 H
 have Ny418 := Aside0.mk hy418
 clear hy418
 obtain ⟨c2, H⟩ := sqI H
 have LMc2 := Aside0.mk c2
 clear c2
 obtain ⟨y421, hy421⟩ : ∃ y_ : List (S31), y_ = (y418 ++ l0_2) := ⟨_, rfl⟩
 replace H : (some (a0_0, a0_1, y421)) = some (r1, r2, r3) := sqW hy421 H
 have Ny421 := Aside0.mk hy421
 clear hy421
 simp only [Option.some.injEq, Prod.mk.injEq] at H
 obtain ⟨rfl, rfl, rfl⟩ := H
 go_enter Tryz.func76, Tryz.ntmps76
 try go_wp2_with (first | ((with_reducible refine gate_dst (N := 1) rfl ?_); refine sqBox (N := 1) (cs := #[.int .i64 a0_0, .int .i64 a0_1, .slice A0_2 l0_2.length c0_2]) (t := 34) ?_; intro gb416 hg w3 BK416 hb; have GW416 := Aside0.mk ((sqG hg (sqB HB))); have GE416 := GW416; replace HB := sqS (sqB HB) hb; clear hb hg) | ((with_reducible refine gate_dst (N := 2) rfl ?_); refine sqBox (N := 2) (cs := #[.int .i64 0, .int .i64 0, .slice none 0 0]) (t := 34) ?_; intro gb417 hg w4 BK417 hb; have GW417 := Aside0.mk ((sqG hg (sqB1 HB GE416))); have GE417 := GW417; replace HB := sqS (sqB1 HB GE416) hb; obtain ⟨NB416_417, NB417_416⟩ := sqM hg BK416; replace BK416 := sqT BK416 hb; clear hb hg))
 replace BK416 := Aside0.mk (blk_drew BK416.out)
 replace BK417 := Aside0.mk (blk_drew BK417.out)
 replace HB := Aside0.mk (below_drew1 HB.out)
 refine start_ (n := 8) (S := fun w' => w'.cell? ⟨gb416, 0, none⟩ = some (.int .i64 a0_0) ∧ w'.cell? ⟨gb416, 1, none⟩ = some (.int .i64 a0_1) ∧ w'.cell? ⟨gb416, 2, none⟩ = some (.slice A0_2 l0_2.length c0_2)) (ds := []) #[false, false, false, false, false, false, false, false] (by kernel_rfl) rfl rfl ⟨(blk_cell BK416.out 0).trans rfl, (blk_cell BK416.out 1).trans rfl, (blk_cell BK416.out 2).trans rfl⟩ (fun hHeld => ?_); refine with_tabW impl_copyDesk.tab1 impl_copyDesk.bits1 (fun HT_ HW_ => ?_)
 generalize w4.drew = w5 at BK416 BK417 HB hHeld ⊢
 refine sqP (i := 0) (N := some 3) (h := ?_)
 refine sqP (i := 3) (N := some 6) (h := ?_)
 refine take_ (i := 1) (N := some 4) (v := ?_) (a' := ?_) #[true, true, false, true, false, false, false, false] rfl rfl (take_ofW HT_.out HW_.out (by kernel_rfl)) (fun _ _ _ h => h) (Or.inl ⟨by rfl, ?_⟩) hHeld ?_ ?_
 rotate_left
 ·rintro w' ⟨s0, s1, s2⟩
  go_simp
  with_reducible rfl
 rotate_left
 ·simp only [Act.put, List.setIfInBounds_toArray, List.set_cons_zero, List.set_cons_succ, i64_w, i32_w]
  rfl
 refine take_ (i := 4) (N := some 7) (v := ?_) (a' := ?_) #[true, true, false, true, true, false, false, false] rfl rfl (take_ofW HT_.out HW_.out (by kernel_rfl)) (fun _ _ _ h => h) (Or.inl ⟨by rfl, ?_⟩) hHeld ?_ ?_
 rotate_left
 ·rintro w' ⟨s0, s1, s2⟩
  go_simp
  with_reducible rfl
 rotate_left
 ·simp only [Act.put, List.setIfInBounds_toArray, List.set_cons_zero, List.set_cons_succ, i64_w, i32_w]
  rfl
 refine one_ (i := 2) (N := some 5) #[true, true, true, true, true, false, false, false] rfl rfl (one_of HT_.out (by kernel_rfl)) (by decide) (fun K hK => ?_)
 refine Kd.R_lit_step k31 _ 31 ?hg (N := 5) ?hd (xs := ([] : List (S31))) (inner := []) (ok := fun _ => True) (okp := fun _ => True) ?hr ?hp (fun _ hk => hk) trivial (Below.refl _ _) (Nat.le_refl _) (by simp) ?_; (case hd => rfl); (case hg => rfl); (case hr => exact Z8); (case hp => exact (Reps.none _ _))
 intro v419 w6 ho7 hb hg_ hnew_
 clear hg_ hnew_
 (first | rw [← Ny418.out] at ho7 | (simp only [Int.reduceToNat] at ho7; rw [← Ny418.out] at ho7))
 have HO420 := sqL ho7 (sqB2 HB GE416 GE417)
 replace BK416 := sqT BK416 hb
 replace BK417 := sqT BK417 hb
 replace HB := sqS (sqB2 HB GE416 GE417) hb
 clear hb ho7
 refine hK.out _ _ ⟨(blk_cell BK416.out 0).trans rfl, (blk_cell BK416.out 1).trans rfl, (blk_cell BK416.out 2).trans rfl⟩ (fun hHeld => ?_)
 clear hK K
 refine sqN (some 5) ?_
 refine one_ (i := 5) (N := some 8) #[true, true, true, true, true, true, false, false] rfl rfl (one_of HT_.out (by kernel_rfl)) (by decide) (fun K hK => ?_)
 refine Kd.R_append_rows_step k31 (w0 := w) w.heap.size (by rfl) (.tmp 5) (.tmp 7) 32 31 (.agg #[(.int .i64 0), (.int .i64 0)]) 16 rfl Tryz.underlying32 info31 rfl (by decide) (by omega) v419 y418 l0_2 _ _ _ (fun _ => True) (fun _ => False) rfl rfl ?aO ?aR (fun _ _ h => h) (fun _ h => h.elim) ?aF ?aB ?aS ?aL ?_
 (case aR => exact Z1)
 (case aB => exact (sqB2 HB GE416 GE417))
 (case aF => exact (fun _ _ => trivial))
 (case aO => exact (sqR HO420))
 (case aS => exact (below_size (sqB2 HB GE416 GE417)))
 (case aL => exact Z16 LMc2)
 intro v422 w8 ho hb hg hat
 rw [← Ny421.out] at ho
 replace BK416 := Aside0.mk (blk_grown (sqK BK416) hg (Kd.R_ne HO420.out BK416.out (by decide)))
 replace BK417 := Aside0.mk (blk_grown (sqK BK417) hg (Kd.R_ne HO420.out BK417.out (by decide)))
 replace HB := Aside0.mk (hb)
 have HO423 := Aside0.mk (ho)
 clear HO420
 clear ho hb hg hat
 obtain ⟨Ao9, co9, eo9⟩ := Kd.R_slice HO423.out
 (first | subst eo9 | (injection eo9 with f1_ f2_ f3_; have f4_ := f1_.symm; have f5_ := f3_.symm; clear f1_ f2_ f3_; subst f4_; subst f5_))
 refine hK.out _ _ ⟨(blk_cell BK416.out 0).trans rfl, (blk_cell BK416.out 1).trans rfl, (blk_cell BK416.out 2).trans rfl⟩ (fun hHeld => ?_)
 clear hK K
 refine sqN (some 8) ?_
 refine sqP (i := 6) (N := some 9) (h := ?_)
 refine one_ (i := 7) (N := none) #[true, true, true, true, true, true, true, true] rfl rfl (one_of HT_.out (by kernel_rfl)) (by decide) (fun K hK => ?_)
 have hs10 : w8.cell? ⟨gb417, 0, none⟩ = some (.int .i64 0) := (blk_cell BK417.out 0).trans rfl
 have hfs10 := blk_frozen BK417.out 0
 have hns10_0 := NB416_417.out
 have hms10_0 := NB417_416.out
 have hs11 : w8.cell? ⟨gb417, 1, none⟩ = some (.int .i64 0) := (blk_cell BK417.out 1).trans rfl
 have hfs11 := blk_frozen BK417.out 1
 have hns11_0 := NB416_417.out
 have hms11_0 := NB417_416.out
 have hs12 : w8.cell? ⟨gb417, 2, none⟩ = some (.slice none 0 0) := (blk_cell BK417.out 2).trans rfl
 have hfs12 := blk_frozen BK417.out 2
 have hns12_0 := NB416_417.out
 have hms12_0 := NB417_416.out
 refine skip_ (w1 := ?_) (by rfl) rfl ?_ ?_
 rotate_left
 ·go_simp
  rfl
 refine hK.out _ _ ⟨((cell_far (p := ⟨gb417, _, none⟩) NB416_417.out _).trans (((cell_far (p := ⟨gb417, _, none⟩) NB416_417.out _).trans (((cell_far (p := ⟨gb417, _, none⟩) NB416_417.out _).trans (hHeld.1)))))), ((cell_far (p := ⟨gb417, _, none⟩) NB416_417.out _).trans (((cell_far (p := ⟨gb417, _, none⟩) NB416_417.out _).trans (((cell_far (p := ⟨gb417, _, none⟩) NB416_417.out _).trans (hHeld.2.1)))))), ((cell_far (p := ⟨gb417, _, none⟩) NB416_417.out _).trans (((cell_far (p := ⟨gb417, _, none⟩) NB416_417.out _).trans (((cell_far (p := ⟨gb417, _, none⟩) NB416_417.out _).trans (hHeld.2.2))))))⟩ (fun hHeld => ?_)
 clear hK K
 refine done_ (done_of HT_.out (by kernel_rfl)) ?_
 try go_wp2
 refine bodyPost_ret (results_cell_row rfl _ _ gb417 34 #[.int .i64 a0_0, .int .i64 a0_1, .slice Ao9 y421.length co9] (0, 0) _ rfl (Z34 BK417) Tryz.underlying34 rfl (by kernel_rfl)) rfl ?_
 exact ⟨_, Z15, by (with_reducible repeat (first | apply Kd.R_alloc | apply Kd.R_drewN | apply Kd.R_drew)); exact Kd.R_mono (Kd.R_far (p := ⟨gb417, 2, none⟩) (Kd.R_far (p := ⟨gb417, 1, none⟩) (Kd.R_far (p := ⟨gb417, 0, none⟩) (Kd.R_types HO423.out BK417.out (by decide)) (fun _ hk => hk.2) (.int .i64 a0_0)) (fun _ hk => hk.2) (.int .i64 a0_1)) (fun _ hk => hk.2) (.slice Ao9 y421.length co9)) (fun _ hk => trivial), sqB2 HB GE416 GE417⟩

-- given: function 139 (strings_Trim)

/-! ### impl_areMoves: function 118 -/
def impl_areMoves.f (a0 : ByteArray) : Option (Bool) := (strings_Trim.f a0 (⟨#[84, 116, 82]⟩ : ByteArray)).bind fun t424 => (some (t424.toList == ([] : List UInt8)))
set_option maxHeartbeats 8000000 in
set_option maxRecDepth 100000 in
theorem impl_areMoves.calls (a0 : ByteArray) (r : Bool) (w : World) (h : impl_areMoves.f a0 = some r) :
  Calls Tryz.prog 118 #[.string a0] w fun e w' => e = .returned (.bool r) ∧ Below w.heap.size w w' := by
 have HB := Aside0.mk (Below.refl w.heap.size w)
 have H : ((strings_Trim.f a0 (⟨#[84, 116, 82]⟩ : ByteArray)).bind fun t424 => (some (t424.toList == ([] : List UInt8)))) = some r := h
 clear h
 obtain ⟨t424, A2, H⟩ := sqD H
 obtain rfl := Option.some.inj H
 go_enter Tryz.func118, Tryz.ntmps118
 go_wp2_with (first | ((with_reducible refine gate_callee (f := 139) rfl ?_); refine goesL_ (some 4) rfl rfl Tryz.func139 (by kernel_rfl) rfl #[.string a0, .string (⟨#[84, 116, 82]⟩ : ByteArray)] rfl sqA ?_; (with_reducible refine (strings_Trim.calls a0 (⟨#[84, 116, 82]⟩ : ByteArray) t424 _ A2.out).mono ?_); rintro e w3 ⟨rfl, hb⟩; refine ⟨_, rfl, ?_⟩; replace HB := sqS (sqB HB) hb; (try clear hb)))
 go_ret
 exact ⟨Z15, sqB HB⟩

/-! ### impl_isDance: function 71 -/
def impl_isDance.f (a0 : ByteArray) : Option (Bool) := if (a0.size : Int) ≤ 40 then ((impl_areMoves.f a0).bind fun t425 => (some t425)) else (some false)
set_option maxHeartbeats 8000000 in
set_option maxRecDepth 100000 in
theorem impl_isDance.calls (a0 : ByteArray) (r : Bool) (w : World) (h : impl_isDance.f a0 = some r) :
  Calls Tryz.prog 71 #[.string a0] w fun e w' => e = .returned (.bool r) ∧ Below w.heap.size w w' := by
 have HB := Aside0.mk (Below.refl w.heap.size w)
 have H : (if (a0.size : Int) ≤ 40 then ((impl_areMoves.f a0).bind fun t425 => (some t425)) else (some false)) = some r := h
 clear h
 by_cases c2 : (a0.size : Int) ≤ 40
 ·rw [if_pos c2] at H
  have c2b0 : decide ((a0.size : Int) ≤ 40) = true := decide_eq_true c2
  have c2b1 : decide (a0.size ≤ 40) = true := decide_eq_true (by omega)
  clear c2
  obtain ⟨t425, A3, H⟩ := sqD H
  obtain rfl := Option.some.inj H
  go_enter Tryz.func71, Tryz.ntmps71
  go_wp2_with (first | (go_at_call 118; (with_reducible refine (impl_areMoves.calls a0 t425 _ A3.out).mono ?_); rintro e w4 ⟨rfl, hb⟩; replace HB := sqS (sqB HB) hb; (try clear hb)))
  go_ret
  exact ⟨Z15, sqB HB⟩
 ·rw [if_neg c2] at H
  have c2b0 : decide ((a0.size : Int) ≤ 40) = false := decide_eq_false c2
  have c2b1 : decide (a0.size ≤ 40) = false := decide_eq_false (by omega)
  clear c2
  obtain rfl := Option.some.inj H
  go_enter Tryz.func71, Tryz.ntmps71
  go_wp2
  go_ret
  exact ⟨Z15, sqB HB⟩

/-! ### impl_plus: function 119 -/
def impl_plus.f (k : Nat) (a0_0 : Int) (a0_1 : Int) (a1 : Int) : Option (Int × Int × Bool) := (impl_isFraction.f k (wrap64 (a0_0 + (wrap64 (a1 * a0_1)))) a0_1).bind fun t428 => (if t428 = true then (some (wrap64 (a0_0 + (wrap64 (a1 * a0_1))), a0_1, true)) else (some (0, 0, false)))
theorem impl_plus.mono : ∀ a0 a1 a2 k, LeO (impl_plus.f k a0 a1 a2) (impl_plus.f (k + 1) a0 a1 a2) := by
 intro a0 a1 a2 k
 unfold impl_plus.f
 repeat' first
   | (with_reducible exact impl_isFraction.mono _ _ _)
   | (with_reducible exact LeO.refl _)
   | (with_reducible exact LeO.none _)
   | (with_reducible refine LeO.ite ?_ ?_)
   | (with_reducible refine LeO.bind ?_ (fun _ => ?_))
set_option maxHeartbeats 8000000 in
set_option maxRecDepth 100000 in
theorem impl_plus.calls (k : Nat) (a0_0 : Int) (a0_1 : Int) (a1 : Int) (r1 : Int) (r2 : Int) (r3 : Bool) (w : World) (h : impl_plus.f k a0_0 a0_1 a1 = some (r1, r2, r3)) :
  Calls Tryz.prog 119 #[.agg #[.int .i64 a0_0, .int .i64 a0_1], .int .i64 a1] w fun e w' => e = .returned (.tuple #[.agg #[.int .i64 r1, .int .i64 r2], .bool r3]) ∧ Below w.heap.size w w' := by
 have hu31 := Tryz.underlying31
 have HB := Aside0.mk (Below.refl w.heap.size w)
 have H : ((impl_isFraction.f k (wrap64 (a0_0 + (wrap64 (a1 * a0_1)))) a0_1).bind fun t428 => (if t428 = true then (some (wrap64 (a0_0 + (wrap64 (a1 * a0_1))), a0_1, true)) else (some (0, 0, false)))) = some (r1, r2, r3) := h
 clear h
 obtain ⟨t428, A3, H⟩ := sqD H
 by_cases c4 : t428 = true
 ·subst c4
  rw [if_pos rfl] at H
  simp only [Option.some.injEq, Prod.mk.injEq] at H
  obtain ⟨rfl, rfl, rfl⟩ := H
  go_enter Tryz.func119, Tryz.ntmps119
  go_wp2_with (first | ((with_reducible refine gate_dst (N := 2) rfl ?_); refine sqBox (N := 2) (cs := #[.int .i64 a0_0, .int .i64 a0_1]) (t := 31) ?_; intro gb426 hg w5 BK426 hb; have GW426 := Aside0.mk ((sqG hg (sqB HB))); have GE426 := GW426; replace HB := sqS (sqB HB) hb; clear hb hg) | ((with_reducible refine gate_dst (N := 4) rfl ?_); refine sqBox (N := 4) (cs := #[.int .i64 0, .int .i64 0]) (t := 31) ?_; intro gb427 hg w6 BK427 hb; have GW427 := Aside0.mk ((sqG hg (sqB1 HB GE426))); have GE427 := GW427; replace HB := sqS (sqB1 HB GE426) hb; obtain ⟨NB426_427, NB427_426⟩ := sqM hg BK426; replace BK426 := sqT BK426 hb; clear hb hg; have hnb7 := NB426_427.out; have hnc7 := NB427_426.out; obtain ⟨hcz8_0, hcz8_1, hfz8_0, hfz8_1⟩ := sqY2 BK426) | ((with_reducible refine gate_callee (f := 70) rfl ?_); refine goesL_ (some 15) rfl rfl Tryz.func70 (by kernel_rfl) rfl #[.agg #[.int .i64 (wrap64 (a0_0 + (wrap64 (a1 * a0_1)))), .int .i64 a0_1]] rfl sqA ?_; (with_reducible refine (impl_isFraction.calls k (wrap64 (a0_0 + (wrap64 (a1 * a0_1)))) a0_1 true _ A3.out).mono ?_); rintro e w9 ⟨rfl, hb⟩; refine ⟨_, rfl, ?_⟩; replace BK426 := Aside0.mk (blk_below (g := gb426) (o := .cells #[.int .i64 (wrap64 (a0_0 + (wrap64 (a1 * a0_1)))), .int .i64 a0_1] 31 (0, 0)) (by refine sqPut (cs := #[.int .i64 a0_0, .int .i64 a0_1]) ?_ 0; exact sqK BK426) hb); replace BK427 := Aside0.mk (blk_below (g := gb427) (o := .cells #[.int .i64 0, .int .i64 0] 31 (0, 0)) (Z17 NB427_426 BK427) hb); replace HB := sqS (sqB2 HB GE426 GE427) hb; (try clear hb); have hcz10_0 : w9.cell? ⟨gb426, 0, none⟩ = some (.int .i64 (wrap64 (a0_0 + (wrap64 (a1 * a0_1))))) := (blk_cell BK426.out 0).trans rfl; have hcz10_1 := sqZ BK426 1 (.int .i64 a0_1); have hfz10_0 := blk_frozen BK426.out 0; have hfz10_1 := blk_frozen BK426.out 1; obtain ⟨hcz11_0, hcz11_1, hfz11_0, hfz11_1⟩ := sqY2 BK427))
  refine bodyPost_ret (results_ct rfl _ _ gb427 31 #[.int .i64 (wrap64 (a0_0 + (wrap64 (a1 * a0_1)))), .int .i64 a0_1] (0, 0) _ rfl (Z35 BK427) Tryz.underlying31 rfl (by kernel_rfl)) rfl ?_
  exact ⟨Z15, sqB2 HB GE426 GE427⟩
 ·replace c4 := Bool.eq_false_iff.mpr c4
  subst c4
  rw [if_neg sqF] at H
  simp only [Option.some.injEq, Prod.mk.injEq] at H
  obtain ⟨rfl, rfl, rfl⟩ := H
  go_enter Tryz.func119, Tryz.ntmps119
  go_wp2_with (first | ((with_reducible refine gate_dst (N := 2) rfl ?_); refine sqBox (N := 2) (cs := #[.int .i64 a0_0, .int .i64 a0_1]) (t := 31) ?_; intro gb426 hg w12 BK426 hb; have GW426 := Aside0.mk ((sqG hg (sqB HB))); have GE426 := GW426; replace HB := sqS (sqB HB) hb; clear hb hg) | ((with_reducible refine gate_dst (N := 4) rfl ?_); refine sqBox (N := 4) (cs := #[.int .i64 0, .int .i64 0]) (t := 31) ?_; intro gb427 hg w13 BK427 hb; have GW427 := Aside0.mk ((sqG hg (sqB1 HB GE426))); have GE427 := GW427; replace HB := sqS (sqB1 HB GE426) hb; obtain ⟨NB426_427, NB427_426⟩ := sqM hg BK426; replace BK426 := sqT BK426 hb; clear hb hg; have hnb14 := NB426_427.out; have hnc14 := NB427_426.out; obtain ⟨hcz15_0, hcz15_1, hfz15_0, hfz15_1⟩ := sqY2 BK426) | ((with_reducible refine gate_callee (f := 70) rfl ?_); refine goesL_ (some 15) rfl rfl Tryz.func70 (by kernel_rfl) rfl #[.agg #[.int .i64 (wrap64 (a0_0 + (wrap64 (a1 * a0_1)))), .int .i64 a0_1]] rfl sqA ?_; (with_reducible refine (impl_isFraction.calls k (wrap64 (a0_0 + (wrap64 (a1 * a0_1)))) a0_1 false _ A3.out).mono ?_); rintro e w16 ⟨rfl, hb⟩; refine ⟨_, rfl, ?_⟩; replace BK426 := Aside0.mk (blk_below (g := gb426) (o := .cells #[.int .i64 (wrap64 (a0_0 + (wrap64 (a1 * a0_1)))), .int .i64 a0_1] 31 (0, 0)) (by refine sqPut (cs := #[.int .i64 a0_0, .int .i64 a0_1]) ?_ 0; exact sqK BK426) hb); replace BK427 := Aside0.mk (blk_below (g := gb427) (o := .cells #[.int .i64 0, .int .i64 0] 31 (0, 0)) (Z17 NB427_426 BK427) hb); replace HB := sqS (sqB2 HB GE426 GE427) hb; (try clear hb); obtain ⟨hcz17_0, hcz17_1, hfz17_0, hfz17_1⟩ := sqY2 BK427))
  refine bodyPost_ret (results_ct rfl _ _ gb427 31 #[.int .i64 0, .int .i64 0] (0, 0) _ rfl (Z36 BK427) Tryz.underlying31 rfl (by kernel_rfl)) rfl ?_
  exact ⟨Z15, sqB2 HB GE426 GE427⟩

end Go.Proofs.YtofmlbgfcohhoaaGreatDoor.PFnDeskRun
