/- Lean functions of the Go functions that the law FnExactDeskLine reaches, each with its contract: made by a program of this session. -/
import Derived.Test.YtofmlbgfcohhoaaGreatDoorPFnExactDeskLinex8
namespace Go.Proofs.YtofmlbgfcohhoaaGreatDoor.PFnExactDeskLine
open Go.RowKit Go.Proofs.YtofmlbgfcohhoaaGreatDoorW.PrintWords Go.Proofs.YtofmlbgfcohhoaaGreatDoorW.PrintLast Go.Proofs.YtofmlbgfcohhoaaGreatDoorW.PrintMore Go.Proofs.YtofmlbgfcohhoaaGreatDoor.Lib
attribute [local go_sem] max2_int min2_int max_two min_two max_three min_three max_four min_four   -- for this text's walks alone
set_option linter.unusedVariables false
set_option linter.unusedSimpArgs false

/-! ### impl_TermsOf: function 142 -/
def impl_TermsOf.f (k : Nat) (a0_0 : Int) (a0_1 : Int) : Option (List Int × Bool) := (impl_isSmall.f k a0_0 a0_1 60).bind fun t285 => (if t285 = true then (if a0_1 = 0 then (some (([] : List Int), false)) else ((impl_termsOf.f k a0_0 a0_1).bind fun t286 => (some (t286, true)))) else (some (([] : List Int), false)))
theorem impl_TermsOf.mono : ∀ a0 a1 k, LeO (impl_TermsOf.f k a0 a1) (impl_TermsOf.f (k + 1) a0 a1) := by
 intro a0 a1 k
 unfold impl_TermsOf.f
 repeat' (with_reducible first | exact impl_isSmall.mono _ _ _ _ | exact impl_termsOf.mono _ _ _ | exact LeO.refl _ | exact LeO.none _ | refine LeO.ite ?_ ?_ | refine LeO.bind ?_ fun _ => ?_)
set_option maxHeartbeats 8000000 in
set_option maxRecDepth 100000 in
theorem impl_TermsOf.calls (k : Nat) (a0_0 : Int) (a0_1 : Int) (r1 : List Int) (r2 : Bool) (w : World) (h : impl_TermsOf.f k a0_0 a0_1 = some (r1, r2)) :
  Calls Tryz.prog 142 #[.agg #[.int .i64 a0_0, .int .i64 a0_1]] w fun e w' => ∃ v0_ : Value, e = .returned (.tuple #[v0_, .bool r2]) ∧ Kd.R (Kd.int .i64) 3 w' w.heap.size (fun _ => True) v0_ r1 ∧ Below w.heap.size w w' := by
 have hu31 := Tryz.underlying31
 have HB := Aside0.mk (Below.refl w.heap.size w)
 unfold impl_TermsOf.f at h
 have H := h
 clear h
 obtain ⟨t285, A2, H⟩ := sqD H
 by_cases c3 : t285 = true
 ·subst c3
  rw [if_pos rfl] at H
  by_cases c4 : a0_1 = 0
  ·rw [if_pos c4] at H
   have c4b0 : (a0_1 == 0) = true := beq_iff_eq.mpr c4
   have c4b1 : (a0_1 != 0) = false := bne_eq_false_iff_eq.mpr c4
   clear c4
   obtain ⟨rfl, rfl⟩ := sqO2 H
   go_enter Tryz.func142, Tryz.ntmps142
   go_wp2_with (first | ((with_reducible refine gate_dst (N := 1) rfl ?_); refine sqBx w (sqB HB) (N := 1) (cs := #[.int .i64 a0_0, .int .i64 a0_1]) (t := 31) ?_; intro gb284 hg w5 BK284 GE284 HB hb; clear hb hg; obtain ⟨hcz6_0, hcz6_1, hfz6_0, hfz6_1⟩ := sqY2 BK284) | ((with_reducible refine gate_callee (f := 104) rfl ?_); refine sqC (some 5) Tryz.func104 #[.agg #[.int .i64 a0_0, .int .i64 a0_1], .int .i64 60] ?_; (with_reducible refine (impl_isSmall.calls k a0_0 a0_1 60 true _ A2.out).mono ?_); rintro e w7 ⟨rfl, hb⟩; refine ⟨_, rfl, ?_⟩; replace BK284 := sqT BK284 hb; replace HB := sqS (sqB1 HB GE284) hb; (try clear hb); obtain ⟨hcz8_0, hcz8_1, hfz8_0, hfz8_1⟩ := sqY2 BK284))
   go_ret2
   exact ⟨_, Z6, Z18, sqB1 HB GE284⟩
  rw [if_neg c4] at H
  have c4b0 : (a0_1 == 0) = false := beq_eq_false_iff_ne.mpr c4
  have c4b1 : (a0_1 != 0) = true := bne_iff_ne.mpr c4
  obtain ⟨t286, A9, H⟩ := sqD H
  obtain ⟨rfl, rfl⟩ := sqO2 H
  go_enter Tryz.func142, Tryz.ntmps142
  go_wp2_with (first | ((with_reducible refine gate_dst (N := 1) rfl ?_); refine sqBx w (sqB HB) (N := 1) (cs := #[.int .i64 a0_0, .int .i64 a0_1]) (t := 31) ?_; intro gb284 hg w10 BK284 GE284 HB hb; clear hb hg; obtain ⟨hcz11_0, hcz11_1, hfz11_0, hfz11_1⟩ := sqY2 BK284) | ((with_reducible refine gate_callee (f := 104) rfl ?_); refine sqC (some 5) Tryz.func104 #[.agg #[.int .i64 a0_0, .int .i64 a0_1], .int .i64 60] ?_; (with_reducible refine (impl_isSmall.calls k a0_0 a0_1 60 true _ A2.out).mono ?_); rintro e w12 ⟨rfl, hb⟩; refine ⟨_, rfl, ?_⟩; replace BK284 := sqT BK284 hb; replace HB := sqS (sqB1 HB GE284) hb; (try clear hb); obtain ⟨hcz13_0, hcz13_1, hfz13_0, hfz13_1⟩ := sqY2 BK284) | ((with_reducible refine gate_callee (f := 165) rfl ?_); refine sqC (some 13) Tryz.func165 #[.agg #[.int .i64 a0_0, .int .i64 a0_1]] ?_; (with_reducible refine (impl_termsOf.calls k a0_0 a0_1 t286 _ A9.out).mono ?_); rintro e w14 ⟨v287, rfl, ho0, hb⟩; refine ⟨_, rfl, ?_⟩; have HO288 := sqL ho0 (sqB1 HB GE284); replace BK284 := sqT BK284 hb; replace HB := sqS (sqB1 HB GE284) hb; (try clear hb); (try clear ho0)))
  go_ret2
  exact ⟨_, Z6, Z35 HO288, sqB1 HB GE284⟩
 replace c3 := Bool.eq_false_iff.mpr c3
 subst c3
 rw [if_neg sqF] at H
 obtain ⟨rfl, rfl⟩ := sqO2 H
 go_enter Tryz.func142, Tryz.ntmps142
 go_wp2_with (first | ((with_reducible refine gate_dst (N := 1) rfl ?_); refine sqBx w (sqB HB) (N := 1) (cs := #[.int .i64 a0_0, .int .i64 a0_1]) (t := 31) ?_; intro gb284 hg w15 BK284 GE284 HB hb; clear hb hg; obtain ⟨hcz16_0, hcz16_1, hfz16_0, hfz16_1⟩ := sqY2 BK284) | ((with_reducible refine gate_callee (f := 104) rfl ?_); refine sqC (some 5) Tryz.func104 #[.agg #[.int .i64 a0_0, .int .i64 a0_1], .int .i64 60] ?_; (with_reducible refine (impl_isSmall.calls k a0_0 a0_1 60 false _ A2.out).mono ?_); rintro e w17 ⟨rfl, hb⟩; refine ⟨_, rfl, ?_⟩; replace BK284 := sqT BK284 hb; replace HB := sqS (sqB1 HB GE284) hb; (try clear hb)))
 go_ret2
 exact ⟨_, Z6, Z18, sqB1 HB GE284⟩

-- given: function 166 (strings_Join)

/-! ### impl_listText: function 143 -/
def impl_listText.l0 : Nat → List ByteArray → List Int → Int → Int → Option (ByteArray)
 | 0, _, _, _, _ => none
 | k + 1, x3, x7, x8, x9 => if x9 < x8 then (if 0 ≤ x9 then (if x9 < (x7.length : Int) then ((strconv_Itoa.f (rd x7 x9)).bind fun t293 => (if x3.length < 8796093022208 then (impl_listText.l0 k (x3 ++ [t293]) x7 x8 (wrap64 (x9 + 1))) else (none))) else (none)) else (none)) else ((strings_Join.f x3 (⟨#[44]⟩ : ByteArray)).bind fun t297 => (some t297))
def impl_listText.f (k : Nat) (l0 : List Int) : Option (ByteArray) := impl_listText.l0 k (([] : List ByteArray)) l0 (l0.length : Int) 0
abbrev impl_listText.M (k : Nat) : Prop := (∀ y0 y1 y2 y3, LeO (impl_listText.l0 k y0 y1 y2 y3) (impl_listText.l0 (k + 1) y0 y1 y2 y3))
theorem impl_listText.mono_t : ∀ k, impl_listText.M k → impl_listText.M (k + 1) ∧ ∀ a0, LeO (impl_listText.f k a0) (impl_listText.f (k + 1) a0) := by
  rintro k ih0
  refine ⟨?_, ?_⟩ <;> (try unfold impl_listText.M) <;> intros <;> (first | unfold impl_listText.l0 | unfold impl_listText.f) <;> repeat' (with_reducible first | exact ih0 _ _ _ _ | exact LeO.refl _ | exact LeO.none _ | refine LeO.ite ?_ ?_ | refine LeO.bind ?_ fun _ => ?_)
theorem impl_listText.mono_l : ∀ k, impl_listText.M k
 | 0 => fun _ _ _ _ r h => by simp [impl_listText.l0] at h
 | k + 1 => (impl_listText.mono_t k (impl_listText.mono_l k)).1
theorem impl_listText.mono a0 k : LeO (impl_listText.f k a0) (impl_listText.f (k + 1) a0) := (impl_listText.mono_t k (impl_listText.mono_l k)).2 a0
set_option maxHeartbeats 8000000 in
set_option maxRecDepth 100000 in
theorem impl_listText.calls (k : Nat) (A0 : Option Addr) (c0 : Nat) (l0 : List Int) (r : ByteArray) (w : World) (hG : Glob w) (hr0 : Kd.C (Kd.int .i64) w A0 l0.length l0) (hc0 : l0.length ≤ c0) (h : impl_listText.f k l0 = some r) :
  Calls Tryz.prog 143 #[.slice A0 l0.length c0] w fun e w' => e = .returned (.string r) ∧ Below w.heap.size w w' := by
 have HR0 := Aside0.mk hr0
 have HC0 := Aside0.mk hc0
 clear hr0 hc0
 have HB := Aside0.mk (Below.refl w.heap.size w)
 unfold impl_listText.f at h
 have H := h
 clear h
 obtain ⟨y289, hy289⟩ : ∃ y_ : List ByteArray, y_ = (([] : List ByteArray)) := ⟨_, rfl⟩
 replace H : (impl_listText.l0 k y289 l0 (l0.length : Int) 0) = some r := sqW hy289 H
 have Ny289 := Aside0.mk hy289
 clear hy289
 have H' := Aside0.mk H
 clear H
 go_enter Tryz.func143, Tryz.ntmps143
 go_wp2_with (first | ((with_reducible refine gate_dst (N := 6) rfl ?_); refine Kd.R_lit Kd.string _ 9 ?hg (N := 6) ?hd (xs := ([] : List ByteArray)) (inner := []) (ok := fun _ => True) (okp := fun _ => True) ?hr ?hp (fun _ hk => hk) trivial (Below.refl _ _) (Nat.le_refl _) (by simp) ?_; (case hd => rfl); (case hg => rfl); (case hr => exact Z21); (case hp => exact Z22); intro v290 w2 ho3 hb hg_ hnew_; clear hg_ hnew_; (first | rw [← Ny289.out] at ho3 | (simp only [Int.reduceToNat] at ho3; rw [← Ny289.out] at ho3)); have HO291 := sqL ho3 (sqB HB); replace HB := sqS (sqB HB) hb; clear hb ho3))
 go_loopg [3, 9] k (fun kq v3 v9 w' => ∃ (x3_1 : List ByteArray) (x9_1 : Int), v9 = .int .i64 x9_1 ∧ Aside0 (impl_listText.l0 kq x3_1 l0 (l0.length : Int) x9_1 = some r) ∧ Aside0 (kq ≤ k) ∧ Aside0 (Kd.R Kd.string 9 w' w.heap.size (fun _ => True) v3 x3_1) ∧ Aside0 (Below w.heap.size w w'))
 case atStart => exact ⟨(y289), (0), Z2, H', ⟨Nat.le_refl _⟩, ⟨sqR HO291⟩, ⟨sqB HB⟩⟩
 case round =>
  clear H'
  obtain ⟨x3_1, x9_1, rfl, HA, HK1, HO_3, HB⟩ := hrel
  cases gk with
  | zero => exact absurd HA.out (by simp [impl_listText.l0])
  | succ k1 =>
   have H := HA.out
   clear HA
   simp only [impl_listText.l0] at H
   by_cases c4 : x9_1 < (l0.length : Int)
   ·rw [if_pos c4] at H
    have c4b0 : decide (x9_1 < (l0.length : Int)) = true := decide_eq_true c4
    clear c4
    obtain ⟨c5, H⟩ := sqI H
    have c5b0 : decide (0 ≤ x9_1) = true := decide_eq_true c5
    clear c5
    obtain ⟨c6, H⟩ := sqI H
    have c6b0 : decide (x9_1 < (l0.length : Int)) = true := decide_eq_true c6
    clear c6
    obtain ⟨t293, A7, H⟩ := sqD H
    obtain ⟨c8, H⟩ := sqI H
    have LMc8 := Aside0.mk c8
    clear c8
    obtain ⟨y294, hy294⟩ : ∃ y_ : List ByteArray, y_ = (x3_1 ++ [t293]) := ⟨_, rfl⟩
    replace H : (impl_listText.l0 k1 y294 l0 (l0.length : Int) (wrap64 (x9_1 + 1))) = some r := sqW hy294 H
    have Ny294 := Aside0.mk hy294
    clear hy294
    have H' := Aside0.mk H
    clear H
    have p292 : 0 ≤ (x9_1 : Int) := of_decide_eq_true Z20
    have q292 : x9_1 < (l0.length : Int) := of_decide_eq_true Z20
    obtain ⟨ad292, e292, hx292_0⟩ := Kd.at_int HR0.out x9_1 p292 q292
    cases e292
    replace hx292_0 := (HB.out.cell (World.block_lt_of_cell? w _ hx292_0)).trans hx292_0
    replace p292 := eq_true p292
    replace q292 := eq_true q292
    go_wp2_with (first | ((with_reducible refine gate_callee (f := 144) rfl ?_); refine sqC (some 15) Tryz.func144 #[.int .i64 (rd l0 x9_1)] ?_; (with_reducible refine (strconv_Itoa.calls (rd l0 x9_1) t293 _ ?sideG A7.out).mono ?_); (case sideG => exact Glob.below hG (sqB HB)); rintro e w9 ⟨rfl, hb⟩; refine ⟨_, rfl, ?_⟩; replace HO_3 := sqU HO_3 hb; replace HB := sqS (sqB HB) hb; (try clear hb)) | ((with_reducible refine gate_builtin (b := .append) (xs := #[.tmp 13, .tmp 16]) rfl ?_); at_builtin; refine Kd.R_append Kd.string (w0 := w) w.heap.size rfl (.tmp 13) (.tmp 16) 73 9 (.string ⟨#[]⟩) 16 rfl Tryz.underlying73 info9 rfl (by decide) (by omega) u3 x3_1 t293 [.string t293] (fun _ => True) (fun _ => False) rfl rfl ?aP (fun _ hk => hk.elim) ?aF ?aO ?aB ?aS ?aL ?_; (case aP => exact rfl); (case aB => exact (sqB HB)); (case aF => exact Z23); (case aO => exact (sqR HO_3)); (case aS => exact (below_size (sqB HB))); (case aL => exact Z3 LMc8); intro v295 w10 ho hb hg hat; rw [← Ny294.out] at ho; replace HB := Aside0.mk (hb); have HO296 := Aside0.mk (ho); clear HO_3; clear ho hb hg hat))
    go_roundg k1
    case measure => have := HK1.out; omega
    case rel => exact ⟨(y294), (wrap64 (x9_1 + 1)), Z2, H', ⟨Z3 HK1⟩, ⟨sqR HO296⟩, ⟨sqB HB⟩⟩
   rw [if_neg c4] at H
   have c4b0 : decide (x9_1 < (l0.length : Int)) = false := decide_eq_false c4
   clear c4
   obtain ⟨t297, A11, H⟩ := sqD H
   obtain rfl := Option.some.inj H
   obtain ⟨Ao12, co12, eo12⟩ := Kd.R_slice HO_3.out
   subst eo12
   go_wp2_with (first | ((with_reducible refine gate_callee (f := 166) rfl ?_); refine sqC (some 20) Tryz.func166 #[.slice Ao12 x3_1.length co12, .string (⟨#[44]⟩ : ByteArray)] ?_; (with_reducible refine (strings_Join.calls _ _ x3_1 (⟨#[44]⟩ : ByteArray) t297 _ ?side1 ?side2 A11.out).mono ?_); (case side1 => exact Z8 HO_3); (case side2 => exact spot_of HO_3.out); rintro e w13 ⟨rfl, hb⟩; refine ⟨_, rfl, ?_⟩; replace HO_3 := sqU HO_3 hb; replace HB := sqS (sqB HB) hb; (try clear hb)))
   go_ret
   exact ⟨Z6, sqB HB⟩

/-! ### impl_quotients: function 168 -/
def impl_quotients.l0 : Nat → List Int → Int → Int → Option (List Int)
 | 0, _, _, _ => none
 | k + 1, x3, x4, x5 => if x5 > 0 then (if x5 = 0 then (none) else (if x3.length < 17592186044416 then (impl_quotients.l0 k (x3 ++ [wrap64 (Int.tdiv x4 x5)]) x5 (Int.tmod x4 x5)) else (none))) else (some x3)
def impl_quotients.f (k : Nat) (a0_0 : Int) (a0_1 : Int) : Option (List Int) := impl_quotients.l0 k (([] : List Int)) (mx a0_0 (wrap64 (-a0_0))) a0_1
abbrev impl_quotients.M (k : Nat) : Prop := (∀ y0 y1 y2, LeO (impl_quotients.l0 k y0 y1 y2) (impl_quotients.l0 (k + 1) y0 y1 y2))
theorem impl_quotients.mono_t : ∀ k, impl_quotients.M k → impl_quotients.M (k + 1) ∧ ∀ a0 a1, LeO (impl_quotients.f k a0 a1) (impl_quotients.f (k + 1) a0 a1) := by
  rintro k ih0
  refine ⟨?_, ?_⟩ <;> (try unfold impl_quotients.M) <;> intros <;> (first | unfold impl_quotients.l0 | unfold impl_quotients.f) <;> repeat' (with_reducible first | exact ih0 _ _ _ | exact LeO.refl _ | exact LeO.none _ | refine LeO.ite ?_ ?_ | refine LeO.bind ?_ fun _ => ?_)
theorem impl_quotients.mono_l : ∀ k, impl_quotients.M k
 | 0 => fun _ _ _ r h => by simp [impl_quotients.l0] at h
 | k + 1 => (impl_quotients.mono_t k (impl_quotients.mono_l k)).1
theorem impl_quotients.mono a0 a1 k : LeO (impl_quotients.f k a0 a1) (impl_quotients.f (k + 1) a0 a1) := (impl_quotients.mono_t k (impl_quotients.mono_l k)).2 a0 a1
set_option maxHeartbeats 8000000 in
set_option maxRecDepth 100000 in
theorem impl_quotients.calls (k : Nat) (a0_0 : Int) (a0_1 : Int) (r : List Int) (w : World) (h : impl_quotients.f k a0_0 a0_1 = some r) :
  Calls Tryz.prog 168 #[.agg #[.int .i64 a0_0, .int .i64 a0_1]] w fun e w' => ∃ v0_ : Value, e = .returned (v0_) ∧ Kd.R (Kd.int .i64) 3 w' w.heap.size (fun _ => True) v0_ r ∧ Below w.heap.size w w' := by
 have hu31 := Tryz.underlying31
 have HB := Aside0.mk (Below.refl w.heap.size w)
 unfold impl_quotients.f at h
 have H := h
 clear h
 obtain ⟨y299, hy299⟩ : ∃ y_ : List Int, y_ = (([] : List Int)) := ⟨_, rfl⟩
 replace H : (impl_quotients.l0 k y299 (mx a0_0 (wrap64 (-a0_0))) a0_1) = some r := sqW hy299 H
 have Ny299 := Aside0.mk hy299
 clear hy299
 obtain ⟨ji2, hji2⟩ : ∃ j_ : Int, (mx a0_0 (wrap64 (-a0_0))) = j_ := ⟨_, rfl⟩
 replace H : (impl_quotients.l0 k y299 ji2 a0_1) = some r := by first | (rw [hji2] at H; exact H) | (simp only [hji2] at H ⊢; exact H)
 have hji2_ : (if a0_0 < (wrap64 (-a0_0)) then (wrap64 (-a0_0)) else a0_0) = ji2 := hji2
 have H' := Aside0.mk H
 clear H
 go_enter Tryz.func168, Tryz.ntmps168
 go_wp2_with (first | ((with_reducible refine gate_dst (N := 1) rfl ?_); refine sqBx w (sqB HB) (N := 1) (cs := #[.int .i64 a0_0, .int .i64 a0_1]) (t := 31) ?_; intro gb298 hg w3 BK298 GE298 HB hb; clear hb hg) | ((with_reducible refine gate_dst (N := 6) rfl ?_); refine Kd.R_lit (Kd.int .i64) _ 3 ?hg (N := 6) ?hd (xs := ([] : List Int)) (inner := []) (ok := fun _ => True) (okp := fun _ => True) ?hr ?hp (fun _ hk => hk) trivial (Below.refl _ _) (Nat.le_refl _) (by simp) ?_; (case hd => rfl); (case hg => rfl); (case hr => exact Z21); (case hp => exact Z22); intro v300 w4 ho5 hb hg_ hnew_; clear hg_ hnew_; (first | rw [← Ny299.out] at ho5 | (simp only [Int.reduceToNat] at ho5; rw [← Ny299.out] at ho5)); have HO301 := sqL ho5 (sqB1 HB GE298); replace BK298 := sqT BK298 hb; replace HB := sqS (sqB1 HB GE298) hb; clear hb ho5; obtain ⟨hcz6_0, hcz6_1, hfz6_0, hfz6_1⟩ := sqY2 BK298))
 repeat (go_quiet (first | ((with_reducible refine gate_dst (N := 1) rfl ?_); refine sqBx w (sqB HB) (N := 1) (cs := #[.int .i64 a0_0, .int .i64 a0_1]) (t := 31) ?_; intro gb298 hg w3 BK298 GE298 HB hb; clear hb hg) | ((with_reducible refine gate_dst (N := 6) rfl ?_); refine Kd.R_lit (Kd.int .i64) _ 3 ?hg (N := 6) ?hd (xs := ([] : List Int)) (inner := []) (ok := fun _ => True) (okp := fun _ => True) ?hr ?hp (fun _ hk => hk) trivial (Below.refl _ _) (Nat.le_refl _) (by simp) ?_; (case hd => rfl); (case hg => rfl); (case hr => exact Z21); (case hp => exact Z22); intro v300 w4 ho5 hb hg_ hnew_; clear hg_ hnew_; (first | rw [← Ny299.out] at ho5 | (simp only [Int.reduceToNat] at ho5; rw [← Ny299.out] at ho5)); have HO301 := sqL ho5 (sqB1 HB GE298); replace BK298 := sqT BK298 hb; replace HB := sqS (sqB1 HB GE298) hb; clear hb ho5; obtain ⟨hcz6_0, hcz6_1, hfz6_0, hfz6_1⟩ := sqY2 BK298)); try go_wp2_with (first | ((with_reducible refine gate_dst (N := 1) rfl ?_); refine sqBx w (sqB HB) (N := 1) (cs := #[.int .i64 a0_0, .int .i64 a0_1]) (t := 31) ?_; intro gb298 hg w3 BK298 GE298 HB hb; clear hb hg) | ((with_reducible refine gate_dst (N := 6) rfl ?_); refine Kd.R_lit (Kd.int .i64) _ 3 ?hg (N := 6) ?hd (xs := ([] : List Int)) (inner := []) (ok := fun _ => True) (okp := fun _ => True) ?hr ?hp (fun _ hk => hk) trivial (Below.refl _ _) (Nat.le_refl _) (by simp) ?_; (case hd => rfl); (case hg => rfl); (case hr => exact Z21); (case hp => exact Z22); intro v300 w4 ho5 hb hg_ hnew_; clear hg_ hnew_; (first | rw [← Ny299.out] at ho5 | (simp only [Int.reduceToNat] at ho5; rw [← Ny299.out] at ho5)); have HO301 := sqL ho5 (sqB1 HB GE298); replace BK298 := sqT BK298 hb; replace HB := sqS (sqB1 HB GE298) hb; clear hb ho5; obtain ⟨hcz6_0, hcz6_1, hfz6_0, hfz6_1⟩ := sqY2 BK298)))
 go_loopg [3, 4, 5] k (fun kq v3 v4 v5 w' => ∃ (x3_1 : List Int) (x4_1 : Int) (x5_1 : Int), v4 = .int .i64 x4_1 ∧ v5 = .int .i64 x5_1 ∧ Aside0 (impl_quotients.l0 kq x3_1 x4_1 x5_1 = some r) ∧ Aside0 (kq ≤ k) ∧ Aside0 (Kd.R (Kd.int .i64) 3 w' w.heap.size (fun _ => True) v3 x3_1) ∧ Aside0 (w'.heap[gb298]? = some (.cells #[.int .i64 a0_0, .int .i64 a0_1] 31 (0, 0))) ∧ Aside0 (Below w.heap.size w w'))
 case atStart => exact ⟨(y299), (ji2), (a0_1), Z55, Z2, H', ⟨Nat.le_refl _⟩, ⟨sqR HO301⟩, ⟨sqK BK298⟩, ⟨sqB1 HB GE298⟩⟩
 case round =>
  clear H'
  try clear hcz6_0; try clear hcz6_1; try clear hfz6_0; try clear hfz6_1
  obtain ⟨x3_1, x4_1, x5_1, rfl, rfl, HA, HK1, HO_3, BK298, HB⟩ := hrel
  cases gk with
  | zero => exact absurd HA.out (by simp [impl_quotients.l0])
  | succ k1 =>
   have H := HA.out
   clear HA
   simp only [impl_quotients.l0] at H
   by_cases c7 : x5_1 > 0
   ·rw [if_pos c7] at H
    have c7b0 : decide (0 < x5_1) = true := decide_eq_true c7
    clear c7
    by_cases c8 : x5_1 = 0
    ·rw [if_pos c8] at H
     exact absurd H (by simp)
    rw [if_neg c8] at H
    have c8b0 : (x5_1 == 0) = false := beq_eq_false_iff_ne.mpr c8
    have c8b1 : (x5_1 != 0) = true := bne_iff_ne.mpr c8
    obtain ⟨c9, H⟩ := sqI H
    have LMc9 := Aside0.mk c9
    clear c9
    obtain ⟨y302, hy302⟩ : ∃ y_ : List Int, y_ = (x3_1 ++ [wrap64 (Int.tdiv x4_1 x5_1)]) := ⟨_, rfl⟩
    replace H : (impl_quotients.l0 k1 y302 x5_1 (Int.tmod x4_1 x5_1)) = some r := sqW hy302 H
    have Ny302 := Aside0.mk hy302
    clear hy302
    have H' := Aside0.mk H
    clear H
    go_wp2_with (first | ((with_reducible refine gate_builtin (b := .append) (xs := #[.tmp 17, .tmp 21]) rfl ?_); at_builtin; refine Kd.R_append (Kd.int .i64) (w0 := w) w.heap.size rfl (.tmp 17) (.tmp 21) 109 3 (.int .i64 0) 8 rfl Tryz.underlying109 info3 rfl (by decide) (by omega) u3 x3_1 (wrap64 (Int.tdiv x4_1 x5_1)) [.int .i64 (wrap64 (Int.tdiv x4_1 x5_1))] (fun _ => True) (fun _ => False) rfl rfl ?aP (fun _ hk => hk.elim) ?aF ?aO ?aB ?aS ?aL ?_; (case aP => exact rfl); (case aB => exact (sqB1 HB GE298)); (case aF => exact Z23); (case aO => exact (sqR HO_3)); (case aS => exact (below_size (sqB1 HB GE298))); (case aL => exact Z3 LMc9); intro v303 w10 ho hb hg hat; rw [← Ny302.out] at ho; replace BK298 := Aside0.mk (blk_grown (sqK BK298) hg (Kd.R_ne HO_3.out BK298.out (by decide))); replace HB := Aside0.mk (hb); have HO304 := Aside0.mk (ho); clear HO_3; clear ho hb hg hat))
    repeat (go_quiet (first | ((with_reducible refine gate_builtin (b := .append) (xs := #[.tmp 17, .tmp 21]) rfl ?_); at_builtin; refine Kd.R_append (Kd.int .i64) (w0 := w) w.heap.size rfl (.tmp 17) (.tmp 21) 109 3 (.int .i64 0) 8 rfl Tryz.underlying109 info3 rfl (by decide) (by omega) u3 x3_1 (wrap64 (Int.tdiv x4_1 x5_1)) [.int .i64 (wrap64 (Int.tdiv x4_1 x5_1))] (fun _ => True) (fun _ => False) rfl rfl ?aP (fun _ hk => hk.elim) ?aF ?aO ?aB ?aS ?aL ?_; (case aP => exact rfl); (case aB => exact (sqB1 HB GE298)); (case aF => exact Z23); (case aO => exact (sqR HO_3)); (case aS => exact (below_size (sqB1 HB GE298))); (case aL => exact Z3 LMc9); intro v303 w10 ho hb hg hat; rw [← Ny302.out] at ho; replace BK298 := Aside0.mk (blk_grown (sqK BK298) hg (Kd.R_ne HO_3.out BK298.out (by decide))); replace HB := Aside0.mk (hb); have HO304 := Aside0.mk (ho); clear HO_3; clear ho hb hg hat)); try go_wp2_with (first | ((with_reducible refine gate_builtin (b := .append) (xs := #[.tmp 17, .tmp 21]) rfl ?_); at_builtin; refine Kd.R_append (Kd.int .i64) (w0 := w) w.heap.size rfl (.tmp 17) (.tmp 21) 109 3 (.int .i64 0) 8 rfl Tryz.underlying109 info3 rfl (by decide) (by omega) u3 x3_1 (wrap64 (Int.tdiv x4_1 x5_1)) [.int .i64 (wrap64 (Int.tdiv x4_1 x5_1))] (fun _ => True) (fun _ => False) rfl rfl ?aP (fun _ hk => hk.elim) ?aF ?aO ?aB ?aS ?aL ?_; (case aP => exact rfl); (case aB => exact (sqB1 HB GE298)); (case aF => exact Z23); (case aO => exact (sqR HO_3)); (case aS => exact (below_size (sqB1 HB GE298))); (case aL => exact Z3 LMc9); intro v303 w10 ho hb hg hat; rw [← Ny302.out] at ho; replace BK298 := Aside0.mk (blk_grown (sqK BK298) hg (Kd.R_ne HO_3.out BK298.out (by decide))); replace HB := Aside0.mk (hb); have HO304 := Aside0.mk (ho); clear HO_3; clear ho hb hg hat)))
    go_roundg k1
    case measure => have := HK1.out; omega
    case rel => exact ⟨(y302), (x5_1), (Int.tmod x4_1 x5_1), Z2, Z2, H', ⟨Z3 HK1⟩, ⟨sqR HO304⟩, ⟨sqK BK298⟩, ⟨sqB1 HB GE298⟩⟩
   rw [if_neg c7] at H
   have c7b0 : decide (0 < x5_1) = false := decide_eq_false c7
   clear c7
   obtain rfl := Option.some.inj H
   go_wp2
   repeat (go_quiet (fail); try go_wp2)
   go_ret
   exact ⟨_, Z56, Z35 HO_3, sqB1 HB GE298⟩

/-! ### impl_CrossingsOf: function 145 -/
def impl_CrossingsOf.l0 : Nat → Int → List Int → Int → Int → Option (Int)
 | 0, _, _, _, _ => none
 | k + 1, x3, x10, x11, x12 => if x12 < x11 then (if 0 ≤ x12 then (if x12 < (x10.length : Int) then (impl_CrossingsOf.l0 k (wrap64 (x3 + (rd x10 x12))) x10 x11 (wrap64 (x12 + 1))) else (none)) else (none)) else (some x3)
def impl_CrossingsOf.f (k : Nat) (a0_0 : Int) (a0_1 : Int) : Option (Int) := (impl_isFraction.f k a0_0 a0_1).bind fun t306 => (if t306 = true then ((impl_quotients.f k a0_0 a0_1).bind fun t307 => (impl_CrossingsOf.l0 k 0 t307 (t307.length : Int) 0)) else (some (-1)))
abbrev impl_CrossingsOf.M (k : Nat) : Prop := (∀ y0 y1 y2 y3, LeO (impl_CrossingsOf.l0 k y0 y1 y2 y3) (impl_CrossingsOf.l0 (k + 1) y0 y1 y2 y3))
theorem impl_CrossingsOf.mono_t : ∀ k, impl_CrossingsOf.M k → impl_CrossingsOf.M (k + 1) ∧ ∀ a0 a1, LeO (impl_CrossingsOf.f k a0 a1) (impl_CrossingsOf.f (k + 1) a0 a1) := by
  rintro k ih0
  refine ⟨?_, ?_⟩ <;> (try unfold impl_CrossingsOf.M) <;> intros <;> (first | unfold impl_CrossingsOf.l0 | unfold impl_CrossingsOf.f) <;> repeat' (with_reducible first | exact ih0 _ _ _ _ | exact impl_isFraction.mono _ _ _ | exact impl_quotients.mono _ _ _ | exact LeO.refl _ | exact LeO.none _ | refine LeO.ite ?_ ?_ | refine LeO.bind ?_ fun _ => ?_)
theorem impl_CrossingsOf.mono_l : ∀ k, impl_CrossingsOf.M k
 | 0 => fun _ _ _ _ r h => by simp [impl_CrossingsOf.l0] at h
 | k + 1 => (impl_CrossingsOf.mono_t k (impl_CrossingsOf.mono_l k)).1
theorem impl_CrossingsOf.mono a0 a1 k : LeO (impl_CrossingsOf.f k a0 a1) (impl_CrossingsOf.f (k + 1) a0 a1) := (impl_CrossingsOf.mono_t k (impl_CrossingsOf.mono_l k)).2 a0 a1
set_option maxHeartbeats 8000000 in
set_option maxRecDepth 100000 in
theorem impl_CrossingsOf.calls (k : Nat) (a0_0 : Int) (a0_1 : Int) (r : Int) (w : World) (h : impl_CrossingsOf.f k a0_0 a0_1 = some r) :
  Calls Tryz.prog 145 #[.agg #[.int .i64 a0_0, .int .i64 a0_1]] w fun e w' => e = .returned (.int .i64 r) ∧ Below w.heap.size w w' := by
 have hu31 := Tryz.underlying31
 have HB := Aside0.mk (Below.refl w.heap.size w)
 unfold impl_CrossingsOf.f at h
 have H := h
 clear h
 obtain ⟨t306, A2, H⟩ := sqD H
 by_cases c3 : t306 = true
 ·subst c3
  rw [if_pos rfl] at H
  obtain ⟨t307, A4, H⟩ := sqD H
  have H' := Aside0.mk H
  clear H
  go_enter Tryz.func145, Tryz.ntmps145
  go_wp2_with (first | ((with_reducible refine gate_dst (N := 1) rfl ?_); refine sqBx w (sqB HB) (N := 1) (cs := #[.int .i64 a0_0, .int .i64 a0_1]) (t := 31) ?_; intro gb305 hg w5 BK305 GE305 HB hb; clear hb hg; obtain ⟨hcz6_0, hcz6_1, hfz6_0, hfz6_1⟩ := sqY2 BK305) | ((with_reducible refine gate_callee (f := 70) rfl ?_); refine sqC (some 7) Tryz.func70 #[.agg #[.int .i64 a0_0, .int .i64 a0_1]] ?_; (with_reducible refine (impl_isFraction.calls k a0_0 a0_1 true _ A2.out).mono ?_); rintro e w7 ⟨rfl, hb⟩; refine ⟨_, rfl, ?_⟩; replace BK305 := sqT BK305 hb; replace HB := sqS (sqB1 HB GE305) hb; (try clear hb); obtain ⟨hcz8_0, hcz8_1, hfz8_0, hfz8_1⟩ := sqY2 BK305) | ((with_reducible refine gate_callee (f := 168) rfl ?_); refine sqC (some 10) Tryz.func168 #[.agg #[.int .i64 a0_0, .int .i64 a0_1]] ?_; (with_reducible refine (impl_quotients.calls k a0_0 a0_1 t307 _ A4.out).mono ?_); rintro e w9 ⟨v308, rfl, ho0, hb⟩; refine ⟨_, rfl, ?_⟩; have HO309 := sqL ho0 (sqB1 HB GE305); replace BK305 := sqT BK305 hb; replace HB := sqS (sqB1 HB GE305) hb; (try clear hb); (try clear ho0); obtain ⟨Ao10, co10, eo10⟩ := Kd.R_slice HO309.out; subst eo10))
  go_loopg [3, 12] k (fun kq v3 v12 w' => ∃ (x3_1 : Int) (x12_1 : Int), v3 = .int .i64 x3_1 ∧ v12 = .int .i64 x12_1 ∧ Aside0 (impl_CrossingsOf.l0 kq x3_1 t307 (t307.length : Int) x12_1 = some r) ∧ Aside0 (kq ≤ k) ∧ Aside0 (Kd.R (Kd.int .i64) 3 w' w.heap.size (fun _ => True) (.slice Ao10 t307.length co10) t307) ∧ Aside0 (w'.heap[gb305]? = some (.cells #[.int .i64 a0_0, .int .i64 a0_1] 31 (0, 0))) ∧ Aside0 (Below w.heap.size w w'))
  case atStart => exact ⟨(0), (0), Z2, Z2, H', ⟨Nat.le_refl _⟩, ⟨sqR HO309⟩, ⟨sqK BK305⟩, ⟨sqB1 HB GE305⟩⟩
  case round =>
   clear H'
   try clear c3; try clear hcz6_0; try clear hcz6_1; try clear hcz8_0; try clear hcz8_1; try clear hfz6_0; try clear hfz6_1; try clear hfz8_0; try clear hfz8_1
   obtain ⟨x3_1, x12_1, rfl, rfl, HA, HK1, HO_10, BK305, HB⟩ := hrel
   cases gk with
   | zero => exact absurd HA.out (by simp [impl_CrossingsOf.l0])
   | succ k1 =>
    have H := HA.out
    clear HA
    simp only [impl_CrossingsOf.l0] at H
    by_cases c11 : x12_1 < (t307.length : Int)
    ·rw [if_pos c11] at H
     have c11b0 : decide (x12_1 < (t307.length : Int)) = true := decide_eq_true c11
     clear c11
     obtain ⟨c12, H⟩ := sqI H
     have c12b0 : decide (0 ≤ x12_1) = true := decide_eq_true c12
     clear c12
     obtain ⟨c13, H⟩ := sqI H
     have c13b0 : decide (x12_1 < (t307.length : Int)) = true := decide_eq_true c13
     clear c13
     have H' := Aside0.mk H
     clear H
     have p310 : 0 ≤ (x12_1 : Int) := of_decide_eq_true Z20
     have q310 : x12_1 < (t307.length : Int) := of_decide_eq_true Z20
     obtain ⟨ad310, e310, hx310_0⟩ := Kd.at_int (Kd.R_reads' HO_10.out).2.2 x12_1 p310 q310
     cases e310
     replace p310 := eq_true p310
     replace q310 := eq_true q310
     go_wp2
     go_roundg k1
     case measure => have := HK1.out; omega
     case rel => exact ⟨(wrap64 (x3_1 + (rd t307 x12_1))), (wrap64 (x12_1 + 1)), Z2, Z2, H', ⟨Z3 HK1⟩, ⟨sqR HO_10⟩, ⟨sqK BK305⟩, ⟨sqB1 HB GE305⟩⟩
    rw [if_neg c11] at H
    have c11b0 : decide (x12_1 < (t307.length : Int)) = false := decide_eq_false c11
    clear c11
    obtain rfl := Option.some.inj H
    go_wp2
    go_ret
    exact ⟨Z6, sqB1 HB GE305⟩
 replace c3 := Bool.eq_false_iff.mpr c3
 subst c3
 rw [if_neg sqF] at H
 obtain rfl := Option.some.inj H
 go_enter Tryz.func145, Tryz.ntmps145
 go_wp2_with (first | ((with_reducible refine gate_dst (N := 1) rfl ?_); refine sqBx w (sqB HB) (N := 1) (cs := #[.int .i64 a0_0, .int .i64 a0_1]) (t := 31) ?_; intro gb305 hg w14 BK305 GE305 HB hb; clear hb hg; obtain ⟨hcz15_0, hcz15_1, hfz15_0, hfz15_1⟩ := sqY2 BK305) | ((with_reducible refine gate_callee (f := 70) rfl ?_); refine sqC (some 7) Tryz.func70 #[.agg #[.int .i64 a0_0, .int .i64 a0_1]] ?_; (with_reducible refine (impl_isFraction.calls k a0_0 a0_1 false _ A2.out).mono ?_); rintro e w16 ⟨rfl, hb⟩; refine ⟨_, rfl, ?_⟩; replace BK305 := sqT BK305 hb; replace HB := sqS (sqB1 HB GE305) hb; (try clear hb)))
 go_ret
 exact ⟨Z6, sqB1 HB GE305⟩

/-! ### impl_kindOf: function 169 -/
def impl_kindOf.f (a0_0 : Int) (a0_1 : Int) : Option (Int) := if (Int.tmod a0_0 2) = 0 then (some 0) else (if (Int.tmod a0_1 2) = 0 then (some 1) else (some 2))
set_option maxHeartbeats 8000000 in
set_option maxRecDepth 100000 in
theorem impl_kindOf.calls (a0_0 : Int) (a0_1 : Int) (r : Int) (w : World) (h : impl_kindOf.f a0_0 a0_1 = some r) :
  Calls Tryz.prog 169 #[.agg #[.int .i64 a0_0, .int .i64 a0_1]] w fun e w' => e = .returned (.int .i64 r) ∧ Below w.heap.size w w' := by
 have hu31 := Tryz.underlying31
 have HB := Aside0.mk (Below.refl w.heap.size w)
 unfold impl_kindOf.f at h
 have H := h
 clear h
 by_cases c2 : (Int.tmod a0_0 2) = 0
 ·rw [if_pos c2] at H
  have c2b0 : ((Int.tmod a0_0 2) == 0) = true := beq_iff_eq.mpr c2
  have c2b1 : ((Int.tmod a0_0 2) != 0) = false := bne_eq_false_iff_eq.mpr c2
  clear c2
  obtain rfl := Option.some.inj H
  go_enter Tryz.func169, Tryz.ntmps169
  go_wp2_with (first | ((with_reducible refine gate_dst (N := 1) rfl ?_); refine sqBx w (sqB HB) (N := 1) (cs := #[.int .i64 a0_0, .int .i64 a0_1]) (t := 31) ?_; intro gb311 hg w3 BK311 GE311 HB hb; clear hb hg; obtain ⟨hcz4_0, hcz4_1, hfz4_0, hfz4_1⟩ := sqY2 BK311))
  go_ret
  exact ⟨Z6, sqB1 HB GE311⟩
 rw [if_neg c2] at H
 have c2b0 : ((Int.tmod a0_0 2) == 0) = false := beq_eq_false_iff_ne.mpr c2
 have c2b1 : ((Int.tmod a0_0 2) != 0) = true := bne_iff_ne.mpr c2
 by_cases c5 : (Int.tmod a0_1 2) = 0
 ·rw [if_pos c5] at H
  have c5b0 : ((Int.tmod a0_1 2) == 0) = true := beq_iff_eq.mpr c5
  have c5b1 : ((Int.tmod a0_1 2) != 0) = false := bne_eq_false_iff_eq.mpr c5
  clear c5
  obtain rfl := Option.some.inj H
  go_enter Tryz.func169, Tryz.ntmps169
  go_wp2_with (first | ((with_reducible refine gate_dst (N := 1) rfl ?_); refine sqBx w (sqB HB) (N := 1) (cs := #[.int .i64 a0_0, .int .i64 a0_1]) (t := 31) ?_; intro gb311 hg w6 BK311 GE311 HB hb; clear hb hg; obtain ⟨hcz7_0, hcz7_1, hfz7_0, hfz7_1⟩ := sqY2 BK311))
  go_ret
  exact ⟨Z6, sqB1 HB GE311⟩
 rw [if_neg c5] at H
 have c5b0 : ((Int.tmod a0_1 2) == 0) = false := beq_eq_false_iff_ne.mpr c5
 have c5b1 : ((Int.tmod a0_1 2) != 0) = true := bne_iff_ne.mpr c5
 obtain rfl := Option.some.inj H
 go_enter Tryz.func169, Tryz.ntmps169
 go_wp2_with (first | ((with_reducible refine gate_dst (N := 1) rfl ?_); refine sqBx w (sqB HB) (N := 1) (cs := #[.int .i64 a0_0, .int .i64 a0_1]) (t := 31) ?_; intro gb311 hg w8 BK311 GE311 HB hb; clear hb hg; obtain ⟨hcz9_0, hcz9_1, hfz9_0, hfz9_1⟩ := sqY2 BK311))
 go_ret
 exact ⟨Z6, sqB1 HB GE311⟩

/-! ### impl_EndsFor: function 146 -/
def impl_EndsFor.f (k : Nat) (a0_0 : Int) (a0_1 : Int) : Option (List Int) := (impl_isFraction.f k a0_0 a0_1).bind fun t313 => (if t313 = true then ((impl_kindOf.f a0_0 a0_1).bind fun t314 => (if t314 = 0 then (some (([1, 0, 3, 2] : List Int))) else (if t314 = 1 then (some (([2, 3, 0, 1] : List Int))) else (some (([3, 2, 1, 0] : List Int)))))) else (some ([] : List Int)))
theorem impl_EndsFor.mono : ∀ a0 a1 k, LeO (impl_EndsFor.f k a0 a1) (impl_EndsFor.f (k + 1) a0 a1) := by
 intro a0 a1 k
 unfold impl_EndsFor.f
 repeat' (with_reducible first | exact impl_isFraction.mono _ _ _ | exact LeO.refl _ | exact LeO.none _ | refine LeO.ite ?_ ?_ | refine LeO.bind ?_ fun _ => ?_)
set_option maxHeartbeats 8000000 in
set_option maxRecDepth 100000 in
theorem impl_EndsFor.calls (k : Nat) (a0_0 : Int) (a0_1 : Int) (r : List Int) (w : World) (h : impl_EndsFor.f k a0_0 a0_1 = some r) :
  Calls Tryz.prog 146 #[.agg #[.int .i64 a0_0, .int .i64 a0_1]] w fun e w' => ∃ v0_ : Value, e = .returned (v0_) ∧ Kd.R (Kd.int .i64) 3 w' w.heap.size (fun _ => True) v0_ r ∧ Below w.heap.size w w' := by
 have hu31 := Tryz.underlying31
 have HB := Aside0.mk (Below.refl w.heap.size w)
 unfold impl_EndsFor.f at h
 have H := h
 clear h
 obtain ⟨t313, A2, H⟩ := sqD H
 by_cases c3 : t313 = true
 ·subst c3
  rw [if_pos rfl] at H
  obtain ⟨t314, A4, H⟩ := sqD H
  by_cases c5 : t314 = 0
  ·rw [if_pos c5] at H
   have c5b0 : (t314 == 0) = true := beq_iff_eq.mpr c5
   have c5b1 : (t314 != 0) = false := bne_eq_false_iff_eq.mpr c5
   clear c5
   obtain ⟨y315, hy315⟩ : ∃ y_ : List Int, y_ = (([1, 0, 3, 2] : List Int)) := ⟨_, rfl⟩
   replace H : (some y315) = some r := sqW hy315 H
   have Ny315 := Aside0.mk hy315
   clear hy315
   obtain rfl := Option.some.inj H
   go_enter Tryz.func146, Tryz.ntmps146
   go_wp2_with (first | ((with_reducible refine gate_dst (N := 1) rfl ?_); refine sqBx w (sqB HB) (N := 1) (cs := #[.int .i64 a0_0, .int .i64 a0_1]) (t := 31) ?_; intro gb312 hg w6 BK312 GE312 HB hb; clear hb hg; obtain ⟨hcz7_0, hcz7_1, hfz7_0, hfz7_1⟩ := sqY2 BK312) | ((with_reducible refine gate_callee (f := 70) rfl ?_); refine sqC (some 4) Tryz.func70 #[.agg #[.int .i64 a0_0, .int .i64 a0_1]] ?_; (with_reducible refine (impl_isFraction.calls k a0_0 a0_1 true _ A2.out).mono ?_); rintro e w8 ⟨rfl, hb⟩; refine ⟨_, rfl, ?_⟩; replace BK312 := sqT BK312 hb; replace HB := sqS (sqB1 HB GE312) hb; (try clear hb); obtain ⟨hcz9_0, hcz9_1, hfz9_0, hfz9_1⟩ := sqY2 BK312) | ((with_reducible refine gate_callee (f := 169) rfl ?_); refine sqC (some 7) Tryz.func169 #[.agg #[.int .i64 a0_0, .int .i64 a0_1]] ?_; (with_reducible refine (impl_kindOf.calls a0_0 a0_1 t314 _ A4.out).mono ?_); rintro e w10 ⟨rfl, hb⟩; refine ⟨_, rfl, ?_⟩; replace BK312 := sqT BK312 hb; replace HB := sqS (sqB1 HB GE312) hb; (try clear hb)) | ((with_reducible refine gate_dst (N := 10) rfl ?_); refine Kd.R_lit (Kd.int .i64) _ 3 ?hg (N := 10) ?hd (xs := ([1, 0, 3, 2] : List Int)) (inner := [.int .i64 1, .int .i64 0, .int .i64 3, .int .i64 2]) (ok := fun _ => True) (okp := fun _ => True) ?hr ?hp (fun _ hk => hk) trivial (Below.refl _ _) (Nat.le_refl _) (by simp) ?_; (case hd => rfl); (case hg => rfl); (case hr => exact Z21); (case hp => exact Z57); intro v316 w11 ho12 hb hg_ hnew_; clear hg_ hnew_; (first | rw [← Ny315.out] at ho12 | (simp only [Int.reduceToNat] at ho12; rw [← Ny315.out] at ho12)); have HO317 := sqL ho12 (sqB1 HB GE312); replace BK312 := sqT BK312 hb; replace HB := sqS (sqB1 HB GE312) hb; clear hb ho12))
   go_ret
   exact ⟨_, Z6, Z35 HO317, sqB1 HB GE312⟩
  rw [if_neg c5] at H
  have c5b0 : (t314 == 0) = false := beq_eq_false_iff_ne.mpr c5
  have c5b1 : (t314 != 0) = true := bne_iff_ne.mpr c5
  by_cases c13 : t314 = 1
  ·rw [if_pos c13] at H
   have c13b0 : (t314 == 1) = true := beq_iff_eq.mpr c13
   have c13b1 : (t314 != 1) = false := bne_eq_false_iff_eq.mpr c13
   clear c13
   obtain ⟨y318, hy318⟩ : ∃ y_ : List Int, y_ = (([2, 3, 0, 1] : List Int)) := ⟨_, rfl⟩
   replace H : (some y318) = some r := sqW hy318 H
   have Ny318 := Aside0.mk hy318
   clear hy318
   obtain rfl := Option.some.inj H
   go_enter Tryz.func146, Tryz.ntmps146
   go_wp2_with (first | ((with_reducible refine gate_dst (N := 1) rfl ?_); refine sqBx w (sqB HB) (N := 1) (cs := #[.int .i64 a0_0, .int .i64 a0_1]) (t := 31) ?_; intro gb312 hg w14 BK312 GE312 HB hb; clear hb hg; obtain ⟨hcz15_0, hcz15_1, hfz15_0, hfz15_1⟩ := sqY2 BK312) | ((with_reducible refine gate_callee (f := 70) rfl ?_); refine sqC (some 4) Tryz.func70 #[.agg #[.int .i64 a0_0, .int .i64 a0_1]] ?_; (with_reducible refine (impl_isFraction.calls k a0_0 a0_1 true _ A2.out).mono ?_); rintro e w16 ⟨rfl, hb⟩; refine ⟨_, rfl, ?_⟩; replace BK312 := sqT BK312 hb; replace HB := sqS (sqB1 HB GE312) hb; (try clear hb); obtain ⟨hcz17_0, hcz17_1, hfz17_0, hfz17_1⟩ := sqY2 BK312) | ((with_reducible refine gate_callee (f := 169) rfl ?_); refine sqC (some 7) Tryz.func169 #[.agg #[.int .i64 a0_0, .int .i64 a0_1]] ?_; (with_reducible refine (impl_kindOf.calls a0_0 a0_1 t314 _ A4.out).mono ?_); rintro e w18 ⟨rfl, hb⟩; refine ⟨_, rfl, ?_⟩; replace BK312 := sqT BK312 hb; replace HB := sqS (sqB1 HB GE312) hb; (try clear hb)) | ((with_reducible refine gate_dst (N := 13) rfl ?_); refine Kd.R_lit (Kd.int .i64) _ 3 ?hg (N := 13) ?hd (xs := ([2, 3, 0, 1] : List Int)) (inner := [.int .i64 2, .int .i64 3, .int .i64 0, .int .i64 1]) (ok := fun _ => True) (okp := fun _ => True) ?hr ?hp (fun _ hk => hk) trivial (Below.refl _ _) (Nat.le_refl _) (by simp) ?_; (case hd => rfl); (case hg => rfl); (case hr => exact Z21); (case hp => exact Z58); intro v319 w19 ho20 hb hg_ hnew_; clear hg_ hnew_; (first | rw [← Ny318.out] at ho20 | (simp only [Int.reduceToNat] at ho20; rw [← Ny318.out] at ho20)); have HO320 := sqL ho20 (sqB1 HB GE312); replace BK312 := sqT BK312 hb; replace HB := sqS (sqB1 HB GE312) hb; clear hb ho20))
   go_ret
   exact ⟨_, Z6, Z35 HO320, sqB1 HB GE312⟩
  rw [if_neg c13] at H
  have c13b0 : (t314 == 1) = false := beq_eq_false_iff_ne.mpr c13
  have c13b1 : (t314 != 1) = true := bne_iff_ne.mpr c13
  obtain ⟨y321, hy321⟩ : ∃ y_ : List Int, y_ = (([3, 2, 1, 0] : List Int)) := ⟨_, rfl⟩
  replace H : (some y321) = some r := sqW hy321 H
  have Ny321 := Aside0.mk hy321
  clear hy321
  obtain rfl := Option.some.inj H
  go_enter Tryz.func146, Tryz.ntmps146
  go_wp2_with (first | ((with_reducible refine gate_dst (N := 1) rfl ?_); refine sqBx w (sqB HB) (N := 1) (cs := #[.int .i64 a0_0, .int .i64 a0_1]) (t := 31) ?_; intro gb312 hg w21 BK312 GE312 HB hb; clear hb hg; obtain ⟨hcz22_0, hcz22_1, hfz22_0, hfz22_1⟩ := sqY2 BK312) | ((with_reducible refine gate_callee (f := 70) rfl ?_); refine sqC (some 4) Tryz.func70 #[.agg #[.int .i64 a0_0, .int .i64 a0_1]] ?_; (with_reducible refine (impl_isFraction.calls k a0_0 a0_1 true _ A2.out).mono ?_); rintro e w23 ⟨rfl, hb⟩; refine ⟨_, rfl, ?_⟩; replace BK312 := sqT BK312 hb; replace HB := sqS (sqB1 HB GE312) hb; (try clear hb); obtain ⟨hcz24_0, hcz24_1, hfz24_0, hfz24_1⟩ := sqY2 BK312) | ((with_reducible refine gate_callee (f := 169) rfl ?_); refine sqC (some 7) Tryz.func169 #[.agg #[.int .i64 a0_0, .int .i64 a0_1]] ?_; (with_reducible refine (impl_kindOf.calls a0_0 a0_1 t314 _ A4.out).mono ?_); rintro e w25 ⟨rfl, hb⟩; refine ⟨_, rfl, ?_⟩; replace BK312 := sqT BK312 hb; replace HB := sqS (sqB1 HB GE312) hb; (try clear hb)) | ((with_reducible refine gate_dst (N := 14) rfl ?_); refine Kd.R_lit (Kd.int .i64) _ 3 ?hg (N := 14) ?hd (xs := ([3, 2, 1, 0] : List Int)) (inner := [.int .i64 3, .int .i64 2, .int .i64 1, .int .i64 0]) (ok := fun _ => True) (okp := fun _ => True) ?hr ?hp (fun _ hk => hk) trivial (Below.refl _ _) (Nat.le_refl _) (by simp) ?_; (case hd => rfl); (case hg => rfl); (case hr => exact Z21); (case hp => exact Z59); intro v322 w26 ho27 hb hg_ hnew_; clear hg_ hnew_; (first | rw [← Ny321.out] at ho27 | (simp only [Int.reduceToNat] at ho27; rw [← Ny321.out] at ho27)); have HO323 := sqL ho27 (sqB1 HB GE312); replace BK312 := sqT BK312 hb; replace HB := sqS (sqB1 HB GE312) hb; clear hb ho27))
  go_ret
  exact ⟨_, Z6, Z35 HO323, sqB1 HB GE312⟩
 replace c3 := Bool.eq_false_iff.mpr c3
 subst c3
 rw [if_neg sqF] at H
 obtain rfl := Option.some.inj H
 go_enter Tryz.func146, Tryz.ntmps146
 go_wp2_with (first | ((with_reducible refine gate_dst (N := 1) rfl ?_); refine sqBx w (sqB HB) (N := 1) (cs := #[.int .i64 a0_0, .int .i64 a0_1]) (t := 31) ?_; intro gb312 hg w28 BK312 GE312 HB hb; clear hb hg; obtain ⟨hcz29_0, hcz29_1, hfz29_0, hfz29_1⟩ := sqY2 BK312) | ((with_reducible refine gate_callee (f := 70) rfl ?_); refine sqC (some 4) Tryz.func70 #[.agg #[.int .i64 a0_0, .int .i64 a0_1]] ?_; (with_reducible refine (impl_isFraction.calls k a0_0 a0_1 false _ A2.out).mono ?_); rintro e w30 ⟨rfl, hb⟩; refine ⟨_, rfl, ?_⟩; replace BK312 := sqT BK312 hb; replace HB := sqS (sqB1 HB GE312) hb; (try clear hb)))
 go_ret
 exact ⟨_, Z6, Z18, sqB1 HB GE312⟩

/-! ### impl_RingsOf: function 147 -/
def impl_RingsOf.f (k : Nat) (a0_0 : Int) (a0_1 : Int) : Option (Int) := (impl_isFraction.f k a0_0 a0_1).bind fun t325 => (if t325 = true then ((impl_kindOf.f a0_0 a0_1).bind fun t326 => (if t326 = 0 then (some 2) else (some 1))) else (some (-1)))
theorem impl_RingsOf.mono : ∀ a0 a1 k, LeO (impl_RingsOf.f k a0 a1) (impl_RingsOf.f (k + 1) a0 a1) := by
 intro a0 a1 k
 unfold impl_RingsOf.f
 repeat' (with_reducible first | exact impl_isFraction.mono _ _ _ | exact LeO.refl _ | exact LeO.none _ | refine LeO.ite ?_ ?_ | refine LeO.bind ?_ fun _ => ?_)
set_option maxHeartbeats 8000000 in
set_option maxRecDepth 100000 in
theorem impl_RingsOf.calls (k : Nat) (a0_0 : Int) (a0_1 : Int) (r : Int) (w : World) (h : impl_RingsOf.f k a0_0 a0_1 = some r) :
  Calls Tryz.prog 147 #[.agg #[.int .i64 a0_0, .int .i64 a0_1]] w fun e w' => e = .returned (.int .i64 r) ∧ Below w.heap.size w w' := by
 have hu31 := Tryz.underlying31
 have HB := Aside0.mk (Below.refl w.heap.size w)
 unfold impl_RingsOf.f at h
 have H := h
 clear h
 obtain ⟨t325, A2, H⟩ := sqD H
 by_cases c3 : t325 = true
 ·subst c3
  rw [if_pos rfl] at H
  obtain ⟨t326, A4, H⟩ := sqD H
  by_cases c5 : t326 = 0
  ·rw [if_pos c5] at H
   have c5b0 : (t326 == 0) = true := beq_iff_eq.mpr c5
   have c5b1 : (t326 != 0) = false := bne_eq_false_iff_eq.mpr c5
   clear c5
   obtain rfl := Option.some.inj H
   go_enter Tryz.func147, Tryz.ntmps147
   go_wp2_with (first | ((with_reducible refine gate_dst (N := 1) rfl ?_); refine sqBx w (sqB HB) (N := 1) (cs := #[.int .i64 a0_0, .int .i64 a0_1]) (t := 31) ?_; intro gb324 hg w6 BK324 GE324 HB hb; clear hb hg; obtain ⟨hcz7_0, hcz7_1, hfz7_0, hfz7_1⟩ := sqY2 BK324) | ((with_reducible refine gate_callee (f := 70) rfl ?_); refine sqC (some 4) Tryz.func70 #[.agg #[.int .i64 a0_0, .int .i64 a0_1]] ?_; (with_reducible refine (impl_isFraction.calls k a0_0 a0_1 true _ A2.out).mono ?_); rintro e w8 ⟨rfl, hb⟩; refine ⟨_, rfl, ?_⟩; replace BK324 := sqT BK324 hb; replace HB := sqS (sqB1 HB GE324) hb; (try clear hb); obtain ⟨hcz9_0, hcz9_1, hfz9_0, hfz9_1⟩ := sqY2 BK324) | ((with_reducible refine gate_callee (f := 169) rfl ?_); refine sqC (some 7) Tryz.func169 #[.agg #[.int .i64 a0_0, .int .i64 a0_1]] ?_; (with_reducible refine (impl_kindOf.calls a0_0 a0_1 t326 _ A4.out).mono ?_); rintro e w10 ⟨rfl, hb⟩; refine ⟨_, rfl, ?_⟩; replace BK324 := sqT BK324 hb; replace HB := sqS (sqB1 HB GE324) hb; (try clear hb)))
   go_ret
   exact ⟨Z6, sqB1 HB GE324⟩
  rw [if_neg c5] at H
  have c5b0 : (t326 == 0) = false := beq_eq_false_iff_ne.mpr c5
  have c5b1 : (t326 != 0) = true := bne_iff_ne.mpr c5
  obtain rfl := Option.some.inj H
  go_enter Tryz.func147, Tryz.ntmps147
  go_wp2_with (first | ((with_reducible refine gate_dst (N := 1) rfl ?_); refine sqBx w (sqB HB) (N := 1) (cs := #[.int .i64 a0_0, .int .i64 a0_1]) (t := 31) ?_; intro gb324 hg w11 BK324 GE324 HB hb; clear hb hg; obtain ⟨hcz12_0, hcz12_1, hfz12_0, hfz12_1⟩ := sqY2 BK324) | ((with_reducible refine gate_callee (f := 70) rfl ?_); refine sqC (some 4) Tryz.func70 #[.agg #[.int .i64 a0_0, .int .i64 a0_1]] ?_; (with_reducible refine (impl_isFraction.calls k a0_0 a0_1 true _ A2.out).mono ?_); rintro e w13 ⟨rfl, hb⟩; refine ⟨_, rfl, ?_⟩; replace BK324 := sqT BK324 hb; replace HB := sqS (sqB1 HB GE324) hb; (try clear hb); obtain ⟨hcz14_0, hcz14_1, hfz14_0, hfz14_1⟩ := sqY2 BK324) | ((with_reducible refine gate_callee (f := 169) rfl ?_); refine sqC (some 7) Tryz.func169 #[.agg #[.int .i64 a0_0, .int .i64 a0_1]] ?_; (with_reducible refine (impl_kindOf.calls a0_0 a0_1 t326 _ A4.out).mono ?_); rintro e w15 ⟨rfl, hb⟩; refine ⟨_, rfl, ?_⟩; replace BK324 := sqT BK324 hb; replace HB := sqS (sqB1 HB GE324) hb; (try clear hb)))
  go_ret
  exact ⟨Z6, sqB1 HB GE324⟩
 replace c3 := Bool.eq_false_iff.mpr c3
 subst c3
 rw [if_neg sqF] at H
 obtain rfl := Option.some.inj H
 go_enter Tryz.func147, Tryz.ntmps147
 go_wp2_with (first | ((with_reducible refine gate_dst (N := 1) rfl ?_); refine sqBx w (sqB HB) (N := 1) (cs := #[.int .i64 a0_0, .int .i64 a0_1]) (t := 31) ?_; intro gb324 hg w16 BK324 GE324 HB hb; clear hb hg; obtain ⟨hcz17_0, hcz17_1, hfz17_0, hfz17_1⟩ := sqY2 BK324) | ((with_reducible refine gate_callee (f := 70) rfl ?_); refine sqC (some 4) Tryz.func70 #[.agg #[.int .i64 a0_0, .int .i64 a0_1]] ?_; (with_reducible refine (impl_isFraction.calls k a0_0 a0_1 false _ A2.out).mono ?_); rintro e w18 ⟨rfl, hb⟩; refine ⟨_, rfl, ?_⟩; replace BK324 := sqT BK324 hb; replace HB := sqS (sqB1 HB GE324) hb; (try clear hb)))
 go_ret
 exact ⟨Z6, sqB1 HB GE324⟩

/-! ### impl_linkOf: function 148 -/
def impl_linkOf.j0 : Nat → Bool → Int → Int → Option (Int × Int × Bool)
 | 0, _, _, _ => none
 | k + 1, x18, x328000, x328001 => if x18 = true then (some (0, 0, false)) else (if x328000 = 0 then (some (0, 1, true)) else (if (mx x328000 (wrap64 (-x328000))) = 0 then (none) else (if x328000 < 0 then (some (mx x328000 (wrap64 (-x328000)), Int.tmod (wrap64 ((mx x328000 (wrap64 (-x328000))) - (Int.tmod x328001 (mx x328000 (wrap64 (-x328000)))))) (mx x328000 (wrap64 (-x328000))), true)) else (some (mx x328000 (wrap64 (-x328000)), Int.tmod x328001 (mx x328000 (wrap64 (-x328000))), true)))))
def impl_linkOf.f (k : Nat) (a0_0 : Int) (a0_1 : Int) : Option (Int × Int × Bool) := (impl_isFraction.f k a0_0 a0_1).bind fun t329 => (if t329 = true then (if a0_0 < (-60) then (impl_linkOf.j0 k true a0_0 a0_1) else (impl_linkOf.j0 k (decide (a0_0 > 60)) a0_0 a0_1)) else (impl_linkOf.j0 k true a0_0 a0_1))
abbrev impl_linkOf.M (k : Nat) : Prop := (∀ y0 y1 y2, LeO (impl_linkOf.j0 k y0 y1 y2) (impl_linkOf.j0 (k + 1) y0 y1 y2))
theorem impl_linkOf.mono_t : ∀ k, impl_linkOf.M k → impl_linkOf.M (k + 1) ∧ ∀ a0 a1, LeO (impl_linkOf.f k a0 a1) (impl_linkOf.f (k + 1) a0 a1) := by
  rintro k ih0
  refine ⟨?_, ?_⟩ <;> (try unfold impl_linkOf.M) <;> intros <;> (first | unfold impl_linkOf.j0 | unfold impl_linkOf.f) <;> repeat' (with_reducible first | exact ih0 _ _ _ | exact impl_isFraction.mono _ _ _ | exact LeO.refl _ | exact LeO.none _ | refine LeO.ite ?_ ?_ | refine LeO.bind ?_ fun _ => ?_)
theorem impl_linkOf.mono_l : ∀ k, impl_linkOf.M k
 | 0 => fun _ _ _ r h => by simp [impl_linkOf.j0] at h
 | k + 1 => (impl_linkOf.mono_t k (impl_linkOf.mono_l k)).1
theorem impl_linkOf.mono a0 a1 k : LeO (impl_linkOf.f k a0 a1) (impl_linkOf.f (k + 1) a0 a1) := (impl_linkOf.mono_t k (impl_linkOf.mono_l k)).2 a0 a1
set_option maxHeartbeats 8000000 in
set_option maxRecDepth 100000 in
theorem impl_linkOf.calls (k : Nat) (a0_0 : Int) (a0_1 : Int) (r1 : Int) (r2 : Int) (r3 : Bool) (w : World) (h : impl_linkOf.f k a0_0 a0_1 = some (r1, r2, r3)) :
  Calls Tryz.prog 148 #[.agg #[.int .i64 a0_0, .int .i64 a0_1]] w fun e w' => e = .returned (.tuple #[.agg #[.int .i64 r1, .int .i64 r2], .bool r3]) ∧ Below w.heap.size w w' := by
 have hu31 := Tryz.underlying31
 have hu116 := Tryz.underlying116
 have HB := Aside0.mk (Below.refl w.heap.size w)
 unfold impl_linkOf.f at h
 have H := h
 clear h
 have HC2 := Aside0.mk H
 clear H
 go_enter Tryz.func148, Tryz.ntmps148
 go_upto_region 1 with (first | ((with_reducible refine gate_dst (N := 1) rfl ?_); refine sqBx w (sqB HB) (N := 1) (cs := #[.int .i64 a0_0, .int .i64 a0_1]) (t := 31) ?_; intro gb327 hg w3 BK327 GE327 HB hb; clear hb hg) | ((with_reducible refine gate_dst (N := 2) rfl ?_); refine sqBx w (sqB1 HB GE327) (N := 2) (cs := #[.int .i64 0, .int .i64 0]) (t := 116) ?_; intro gb328 hg w4 BK328 GE328 HB hb; obtain ⟨NB327_328, NB328_327⟩ := sqM hg BK327; replace BK327 := sqT BK327 hb; clear hb hg))
 (try simp only [Act.put, List.setIfInBounds_toArray, List.set_cons_zero, List.set_cons_succ])
 go_cut [18] (fun v18 wc => ∃ (kq : Nat) (x18_1 : Bool), v18 = .bool x18_1 ∧ Aside0 (impl_linkOf.j0 kq x18_1 a0_0 a0_1 = some (r1, r2, r3)) ∧ Aside0 (kq ≤ k) ∧ Aside0 (wc.heap[gb327]? = some (.cells #[.int .i64 a0_0, .int .i64 a0_1] 31 (0, 0))) ∧ Aside0 (wc.heap[gb328]? = some (.cells #[.int .i64 0, .int .i64 0] 116 (0, 0))) ∧ Aside0 (Below w.heap.size w wc))
 case first =>
  have H := HC2.out
  clear HC2
  obtain ⟨t329, A5, H⟩ := sqD H
  by_cases c6 : t329 = true
  ·subst c6
   rw [if_pos rfl] at H
   by_cases c7 : a0_0 < (-60)
   ·rw [if_pos c7] at H
    have c7b0 : decide (a0_0 < (-60)) = true := decide_eq_true c7
    clear c7
    (first | rw [c7b0] | (simp only [i64_w, i32_w]; rw [c7b0]) | skip)
    have H' := Aside0.mk H
    clear H
    have hnb8 := NB327_328.out
    have hnc8 := NB328_327.out
    obtain ⟨hcz9_0, hcz9_1, hfz9_0, hfz9_1⟩ := sqY2 BK327
    go_wp2_with (first | ((with_reducible refine gate_callee (f := 70) rfl ?_); refine sqC (some 7) Tryz.func70 #[.agg #[.int .i64 a0_0, .int .i64 a0_1]] ?_; (with_reducible refine (impl_isFraction.calls k a0_0 a0_1 true _ A5.out).mono ?_); rintro e w10 ⟨rfl, hb⟩; refine ⟨_, rfl, ?_⟩; replace BK327 := sqT BK327 hb; replace BK328 := sqT BK328 hb; replace HB := sqS (sqB2 HB GE327 GE328) hb; (try clear hb); obtain ⟨hcz11_0, hcz11_1, hfz11_0, hfz11_1⟩ := sqY2 BK327))
    go_meet
    case rel => exact ⟨_, (true), Z2, H', ⟨Z12⟩, ⟨sqK BK327⟩, ⟨sqK BK328⟩, ⟨sqB2 HB GE327 GE328⟩⟩
   rw [if_neg c7] at H
   have c7b0 : decide (a0_0 < (-60)) = false := decide_eq_false c7
   clear c7
   (first | rw [c7b0] | (simp only [i64_w, i32_w]; rw [c7b0]) | skip)
   have H' := Aside0.mk H
   clear H
   have hnb12 := NB327_328.out
   have hnc12 := NB328_327.out
   obtain ⟨hcz13_0, hcz13_1, hfz13_0, hfz13_1⟩ := sqY2 BK327
   go_wp2_with (first | ((with_reducible refine gate_callee (f := 70) rfl ?_); refine sqC (some 7) Tryz.func70 #[.agg #[.int .i64 a0_0, .int .i64 a0_1]] ?_; (with_reducible refine (impl_isFraction.calls k a0_0 a0_1 true _ A5.out).mono ?_); rintro e w14 ⟨rfl, hb⟩; refine ⟨_, rfl, ?_⟩; replace BK327 := sqT BK327 hb; replace BK328 := sqT BK328 hb; replace HB := sqS (sqB2 HB GE327 GE328) hb; (try clear hb); obtain ⟨hcz15_0, hcz15_1, hfz15_0, hfz15_1⟩ := sqY2 BK327))
   go_meet
   case rel => exact ⟨_, (decide (a0_0 > 60)), Z2, H', ⟨Z12⟩, ⟨sqK BK327⟩, ⟨sqK BK328⟩, ⟨sqB2 HB GE327 GE328⟩⟩
  replace c6 := Bool.eq_false_iff.mpr c6
  subst c6
  rw [if_neg sqF] at H
  have H' := Aside0.mk H
  clear H
  have hnb16 := NB327_328.out
  have hnc16 := NB328_327.out
  obtain ⟨hcz17_0, hcz17_1, hfz17_0, hfz17_1⟩ := sqY2 BK327
  go_wp2_with (first | ((with_reducible refine gate_callee (f := 70) rfl ?_); refine sqC (some 7) Tryz.func70 #[.agg #[.int .i64 a0_0, .int .i64 a0_1]] ?_; (with_reducible refine (impl_isFraction.calls k a0_0 a0_1 false _ A5.out).mono ?_); rintro e w18 ⟨rfl, hb⟩; refine ⟨_, rfl, ?_⟩; replace BK327 := sqT BK327 hb; replace BK328 := sqT BK328 hb; replace HB := sqS (sqB2 HB GE327 GE328) hb; (try clear hb)))
  go_meet
  case rel => exact ⟨_, (true), Z2, H', ⟨Z12⟩, ⟨sqK BK327⟩, ⟨sqK BK328⟩, ⟨sqB2 HB GE327 GE328⟩⟩
 case rest =>
  clear HC2
  obtain ⟨kq, x18_1, rfl, HA, HJ1, BK327, BK328, HB⟩ := hcut
  cases kq with
  | zero => exact absurd HA.out (by simp [impl_linkOf.j0])
  | succ kj1 =>
   have H := HA.out
   clear HA
   simp only [impl_linkOf.j0] at H
   by_cases c19 : x18_1 = true
   ·subst c19
    rw [if_pos rfl] at H
    obtain ⟨rfl, rfl, rfl⟩ := sqO3 H
    have hnb20 := NB328_327.out
    have hnc20 := NB327_328.out
    obtain ⟨hcz21_0, hcz21_1, hfz21_0, hfz21_1⟩ := sqY2 BK328
    go_wp2
    refine bodyPost_ret (results_ct rfl _ _ gb328 116 #[.int .i64 0, .int .i64 0] (0, 0) _ rfl (Z27 BK328) Tryz.underlying116 rfl (by kernel_rfl)) rfl ?_
    exact ⟨Z6, sqB2 HB GE327 GE328⟩
   replace c19 := Bool.eq_false_iff.mpr c19
   subst c19
   rw [if_neg sqF] at H
   by_cases c22 : a0_0 = 0
   ·rw [if_pos c22] at H
    have c22b0 : (a0_0 == 0) = true := beq_iff_eq.mpr c22
    have c22b1 : (a0_0 != 0) = false := bne_eq_false_iff_eq.mpr c22
    clear c22
    obtain ⟨rfl, rfl, rfl⟩ := sqO3 H
    have hnb23 := NB327_328.out
    have hnc23 := NB328_327.out
    obtain ⟨hcz24_0, hcz24_1, hfz24_0, hfz24_1⟩ := sqY2 BK327
    obtain ⟨hcz25_0, hcz25_1, hfz25_0, hfz25_1⟩ := sqY2 BK328
    go_wp2
    refine bodyPost_ret (results_ct rfl _ _ gb328 116 #[.int .i64 0, .int .i64 1] (0, 0) _ rfl (Z27 BK328) Tryz.underlying116 rfl (by kernel_rfl)) rfl ?_
    exact ⟨Z6, sqB2 HB GE327 GE328⟩
   rw [if_neg c22] at H
   have c22b0 : (a0_0 == 0) = false := beq_eq_false_iff_ne.mpr c22
   have c22b1 : (a0_0 != 0) = true := bne_iff_ne.mpr c22
   obtain ⟨ji26, hji26⟩ : ∃ j_ : Int, (mx a0_0 (wrap64 (-a0_0))) = j_ := ⟨_, rfl⟩
   replace H : (if (ji26) = 0 then (none) else (if a0_0 < 0 then (some (ji26, Int.tmod (wrap64 ((ji26) - (Int.tmod a0_1 (ji26)))) (ji26), true)) else (some (ji26, Int.tmod a0_1 (ji26), true)))) = some (r1, r2, r3) := by first | (rw [hji26] at H; exact H) | (simp only [hji26] at H ⊢; exact H)
   have hji26_ : (if a0_0 < (wrap64 (-a0_0)) then (wrap64 (-a0_0)) else a0_0) = ji26 := hji26
   by_cases c27 : (ji26) = 0
   ·rw [if_pos c27] at H
    exact absurd H (by simp)
   rw [if_neg c27] at H
   have c27b0 : ((ji26) == 0) = false := beq_eq_false_iff_ne.mpr c27
   have c27b1 : ((ji26) != 0) = true := bne_iff_ne.mpr c27
   by_cases c28 : a0_0 < 0
   ·rw [if_pos c28] at H
    have c28b0 : decide (a0_0 < 0) = true := decide_eq_true c28
    clear c28
    obtain ⟨rfl, rfl, rfl⟩ := sqO3 H
    have hnb29 := NB327_328.out
    have hnc29 := NB328_327.out
    obtain ⟨hcz30_0, hcz30_1, hfz30_0, hfz30_1⟩ := sqY2 BK327
    obtain ⟨hcz31_0, hcz31_1, hfz31_0, hfz31_1⟩ := sqY2 BK328
    go_wp2
    refine bodyPost_ret (results_ct rfl _ _ gb328 116 #[.int .i64 ji26, .int .i64 (Int.tmod (wrap64 ((ji26) - (Int.tmod a0_1 (ji26)))) (ji26))] (0, 0) _ rfl (Z89 BK328) Tryz.underlying116 rfl (by kernel_rfl)) rfl ?_
    exact ⟨Z90, sqB2 HB GE327 GE328⟩
   rw [if_neg c28] at H
   have c28b0 : decide (a0_0 < 0) = false := decide_eq_false c28
   clear c28
   obtain ⟨rfl, rfl, rfl⟩ := sqO3 H
   have hnb32 := NB327_328.out
   have hnc32 := NB328_327.out
   obtain ⟨hcz33_0, hcz33_1, hfz33_0, hfz33_1⟩ := sqY2 BK327
   obtain ⟨hcz34_0, hcz34_1, hfz34_0, hfz34_1⟩ := sqY2 BK328
   go_wp2
   refine bodyPost_ret (results_ct rfl _ _ gb328 116 #[.int .i64 ji26, .int .i64 (Int.tmod a0_1 (ji26))] (0, 0) _ rfl (Z89 BK328) Tryz.underlying116 rfl (by kernel_rfl)) rfl ?_
   exact ⟨Z90, sqB2 HB GE327 GE328⟩

end Go.Proofs.YtofmlbgfcohhoaaGreatDoor.PFnExactDeskLine
