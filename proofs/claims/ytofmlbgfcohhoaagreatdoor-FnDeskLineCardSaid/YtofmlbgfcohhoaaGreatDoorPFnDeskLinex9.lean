import Derived.Test.YtofmlbgfcohhoaaGreatDoorPFnDeskLinex8
import Derived.Test.YtofmlbgfcohhoaaGreatDoorPFnDeskLinex0
set_option maxHeartbeats 8000000
set_option maxRecDepth 100000
namespace Go.Proofs.YtofmlbgfcohhoaaGreatDoor.PFnDeskLine
open Go.RowKit Go.Proofs.YtofmlbgfcohhoaaGreatDoorW.PrintWords Go.Proofs.YtofmlbgfcohhoaaGreatDoorW.PrintLast Go.Proofs.YtofmlbgfcohhoaaGreatDoorW.PrintMore Go.Proofs.YtofmlbgfcohhoaaGreatDoor.Lib Go.Proofs.Tryz
attribute [local go_sem] max2_int min2_int max_two min_two max_three min_three max_four min_four
set_option linter.unusedVariables false
set_option linter.unusedSimpArgs false

/-! ### impl_TermsOf: function 142 -/
def impl_TermsOf.f (k : Nat) (a0_0 : Int) (a0_1 : Int) : Option (List Int × Bool) := (impl_isSmall.f k a0_0 a0_1 60).bind fun t0 => (if t0 = true then (if a0_1 = 0 then (some (([] : List Int), false)) else ((impl_termsOf.f k a0_0 a0_1).bind fun t1 => (some (t1, true)))) else (some (([] : List Int), false)))
theorem impl_TermsOf.mono : ∀ a0 a1 k, LeO (impl_TermsOf.f k a0 a1) (impl_TermsOf.f (k + 1) a0 a1) := by
 intro a0 a1 k
 unfold impl_TermsOf.f
 repeat' (with_reducible first | exact impl_isSmall.mono _ _ _ _ | exact impl_termsOf.mono _ _ _ | exact LeO.refl _ | exact LeO.none _ | refine LeO.ite ?_ ?_ | refine LeO.bind ?_ fun _ => ?_)
theorem impl_TermsOf.calls (k : Nat) (a0_0 : Int) (a0_1 : Int) (r1 : List Int) (r2 : Bool) (w : World) (H : impl_TermsOf.f k a0_0 a0_1 = some (r1, r2)) :
  Calls prog 142 #[.agg #[.int .i64 a0_0, .int .i64 a0_1]] w fun e w' => ∃ v0_ : Value, e = .returned (.tuple #[v0_, .bool r2]) ∧ Kd.R (Kd.int .i64) 3 w' w.heap.size (fun _ => True) v0_ r1 ∧ Below w.heap.size w w' := by
 have hu31 := underlying31
 have HB := sqh w
 unfold impl_TermsOf.f at H
 obtain ⟨t0, A2, H⟩ := sqD H
 by_cases c3 : t0 = true
 ·subst c3
  rw [if_pos rfl] at H
  by_cases c4 : a0_1 = 0
  ·rw [if_pos c4] at H
   have c4b0 : (a0_1 == 0) = true := sqe1 c4
   have c4b1 : (a0_1 != 0) = false := sqn0 c4
   clear c4
   obtain ⟨rfl, rfl⟩ := sqO2 H
   go_enter func142, ntmps142
   go_wp2_with (first | ((with_reducible refine sqd 1 rfl ?_); refine sqBx w (sqB HB) (cs := #[.int .i64 a0_0, .int .i64 a0_1]) (t := 31) ?_; intro g0 hg w5 B0 E0 HB hb; clear hb hg; obtain ⟨_, _, _, _⟩ := sqY2 B0) | ((with_reducible refine sqc 104 rfl ?_); refine sqC (some 5) func104 #[.agg #[.int .i64 a0_0, .int .i64 a0_1], .int .i64 60] ?_; (with_reducible refine (impl_isSmall.calls k a0_0 a0_1 60 true _ A2.1).mono ?_); refine sqV fun w7 hb => ?_; replace B0 := sqT B0 hb; replace HB := sqS (sqB1 HB E0) hb; obtain ⟨_, _, _, _⟩ := sqY2 B0))
   go_ret2
   exact ⟨_, Z5, Z45, sqB1 HB E0⟩
  rw [if_neg c4] at H
  have c4b0 : (a0_1 == 0) = false := sqe0 c4
  have c4b1 : (a0_1 != 0) = true := sqn1 c4
  obtain ⟨t1, A9, H⟩ := sqD H
  obtain ⟨rfl, rfl⟩ := sqO2 H
  go_enter func142, ntmps142
  go_wp2_with (first | ((with_reducible refine sqd 1 rfl ?_); refine sqBx w (sqB HB) (cs := #[.int .i64 a0_0, .int .i64 a0_1]) (t := 31) ?_; intro g0 hg w0 B0 E0 HB hb; clear hb hg; obtain ⟨_, _, _, _⟩ := sqY2 B0) | ((with_reducible refine sqc 104 rfl ?_); refine sqC (some 5) func104 #[.agg #[.int .i64 a0_0, .int .i64 a0_1], .int .i64 60] ?_; (with_reducible refine (impl_isSmall.calls k a0_0 a0_1 60 true _ A2.1).mono ?_); refine sqV fun w1 hb => ?_; replace B0 := sqT B0 hb; replace HB := sqS (sqB1 HB E0) hb; obtain ⟨_, _, _, _⟩ := sqY2 B0) | ((with_reducible refine sqc 165 rfl ?_); refine sqC (some 13) func165 #[.agg #[.int .i64 a0_0, .int .i64 a0_1]] ?_; (with_reducible refine (impl_termsOf.calls k a0_0 a0_1 t1 _ A9.1).mono ?_); rintro e w2 ⟨v0, rfl, ho0, hb⟩; refine ⟨_, rfl, ?_⟩; have O0 := sqL ho0 (sqB1 HB E0); replace B0 := sqT B0 hb; replace HB := sqS (sqB1 HB E0) hb; (try clear ho0)))
  go_ret2
  exact ⟨_, Z5, Z25 O0, sqB1 HB E0⟩
 obtain rfl := sqb c3
 rw [if_neg sqF] at H
 obtain ⟨rfl, rfl⟩ := sqO2 H
 go_enter func142, ntmps142
 go_wp2_with (first | ((with_reducible refine sqd 1 rfl ?_); refine sqBx w (sqB HB) (cs := #[.int .i64 a0_0, .int .i64 a0_1]) (t := 31) ?_; intro g0 hg w3 B0 E0 HB hb; clear hb hg; obtain ⟨_, _, _, _⟩ := sqY2 B0) | ((with_reducible refine sqc 104 rfl ?_); refine sqC (some 5) func104 #[.agg #[.int .i64 a0_0, .int .i64 a0_1], .int .i64 60] ?_; (with_reducible refine (impl_isSmall.calls k a0_0 a0_1 60 false _ A2.1).mono ?_); refine sqV fun w4 hb => ?_; replace B0 := sqT B0 hb; replace HB := sqS (sqB1 HB E0) hb))
 go_ret2
 exact ⟨_, Z5, Z45, sqB1 HB E0⟩

-- given: function 166 (strings_Join)

/-! ### impl_listText: function 143 -/
def impl_listText.l0 : Nat → List ByteArray → List Int → Int → Int → Option (ByteArray)
 | 0, _, _, _, _ => none
 | k + 1, x3, x7, x8, x9 => if x9 < x8 then (if 0 ≤ x9 then (if x9 < (x7.length : Int) then ((strconv_Itoa.f (rd x7 x9)).bind fun t0 => (if x3.length < 8796093022208 then (impl_listText.l0 k (x3 ++ [t0]) x7 x8 (wrap64 (x9 + 1))) else (none))) else (none)) else (none)) else ((strings_Join.f x3 (⟨#[44]⟩ : ByteArray)).bind fun t1 => (some t1))
def impl_listText.f (k : Nat) (l0 : List Int) : Option (ByteArray) := impl_listText.l0 k (([] : List ByteArray)) l0 (l0.length : Int) 0
abbrev impl_listText.M (k : Nat) : Prop := (∀ y0 y1 y2 y3, LeO (impl_listText.l0 k y0 y1 y2 y3) (impl_listText.l0 (k + 1) y0 y1 y2 y3))
theorem impl_listText.mono_t : ∀ k, impl_listText.M k → impl_listText.M (k + 1) ∧ ∀ a0, LeO (impl_listText.f k a0) (impl_listText.f (k + 1) a0) := by
  rintro k ih0
  refine ⟨?_, ?_⟩ <;> (try unfold impl_listText.M) <;> intros <;> (first | unfold impl_listText.l0 | unfold impl_listText.f) <;> repeat' (with_reducible first | exact ih0 _ _ _ _ | exact LeO.refl _ | exact LeO.none _ | refine LeO.ite ?_ ?_ | refine LeO.bind ?_ fun _ => ?_)
theorem impl_listText.mono_l : ∀ k, impl_listText.M k
 | 0 => fun _ _ _ _ r h => by simp [impl_listText.l0] at h
 | k + 1 => (impl_listText.mono_t k (impl_listText.mono_l k)).1
theorem impl_listText.mono a0 k : LeO (impl_listText.f k a0) (impl_listText.f (k + 1) a0) := (impl_listText.mono_t k (impl_listText.mono_l k)).2 a0
theorem impl_listText.calls (k : Nat) (A0 : Option Addr) (c0 : Nat) (l0 : List Int) (r : ByteArray) (w : World) (hG : Glob w) (hr0 : Kd.C (Kd.int .i64) w A0 l0.length l0) (hc0 : l0.length ≤ c0) (H : impl_listText.f k l0 = some r) :
  Calls prog 143 #[.slice A0 l0.length c0] w fun e w' => e = .returned (.string r) ∧ Below w.heap.size w w' := by
 have HR0 := sqa hr0
 have HC0 := sqa hc0
 clear hr0 hc0
 have HB := sqh w
 unfold impl_listText.f at H
 obtain ⟨y0, hy0⟩ : ∃ y_ : List ByteArray, y_ = (([] : List ByteArray)) := ⟨_, rfl⟩
 replace H : (impl_listText.l0 k y0 l0 (l0.length : Int) 0) = some r := sqW hy0 H
 have Ny0 := sqa hy0
 clear hy0
 have H' := sqa H
 clear H
 go_enter func143, ntmps143
 go_wp2_with (first | ((with_reducible refine sqd 6 rfl ?_); refine Kd.R_lit Kd.string _ 9 ?hg (N := 6) ?hd (xs := ([] : List ByteArray)) (inner := []) (ok := fun _ => True) (okp := fun _ => True) ?hr ?hp (fun _ hk => hk) trivial (Below.refl _ _) (Nat.le_refl _) (by simp) ?_; (case hd => rfl); (case hg => rfl); (case hr => exact Z17); (case hp => exact Z23); intro v0 w2 ho3 hb hg_ hnew_; clear hg_ hnew_; (first | rw [← Ny0.out] at ho3 | (simp only [Int.reduceToNat] at ho3; rw [← Ny0.out] at ho3)); have O0 := sqL ho3 (sqB HB); replace HB := sqS (sqB HB) hb; clear hb ho3))
 go_loopg [3, 9] k (fun kq v3 v9 w' => ∃ (x3_1 : List ByteArray) (x9_1 : Int), v9 = .int .i64 x9_1 ∧ Aside0 (impl_listText.l0 kq x3_1 l0 (l0.length : Int) x9_1 = some r) ∧ Aside0 (kq ≤ k) ∧ Aside0 (Kd.R Kd.string 9 w' w.heap.size (fun _ => True) v3 x3_1) ∧ Aside0 (Below w.heap.size w w'))
 case atStart => exact ⟨(y0), (0), Z1, H', ⟨Nat.le_refl _⟩, ⟨sqR O0⟩, ⟨sqB HB⟩⟩
 case round =>
  clear H'
  obtain ⟨x3_1, x9_1, rfl, HA, HK1, O1, HB⟩ := hrel
  cases gk with
  | zero => exact absurd HA.out (by simp [impl_listText.l0])
  | succ k1 =>
   have H := HA.out
   clear HA
   simp only [impl_listText.l0] at H
   by_cases c4 : x9_1 < (l0.length : Int)
   ·rw [if_pos c4] at H
    have c4b0 : decide (x9_1 < (l0.length : Int)) = true := decide_eq_true c4
    clear c4
    obtain ⟨c5, H⟩ := sqI H
    have c5b0 : decide (0 ≤ x9_1) = true := decide_eq_true c5
    clear c5
    obtain ⟨c6, H⟩ := sqI H
    have c6b0 : decide (x9_1 < (l0.length : Int)) = true := decide_eq_true c6
    clear c6
    obtain ⟨t0, A7, H⟩ := sqD H
    obtain ⟨c8, H⟩ := sqI H
    have LMc8 := sqa c8
    clear c8
    obtain ⟨y1, hy1⟩ : ∃ y_ : List ByteArray, y_ = (x3_1 ++ [t0]) := ⟨_, rfl⟩
    replace H : (impl_listText.l0 k1 y1 l0 (l0.length : Int) (wrap64 (x9_1 + 1))) = some r := sqW hy1 H
    have Ny1 := sqa hy1
    clear hy1
    have H' := sqa H
    clear H
    have p0 : 0 ≤ (x9_1 : Int) := of_decide_eq_true Z16
    have q0 : x9_1 < (l0.length : Int) := of_decide_eq_true Z16
    obtain ⟨ad0, e0, hx0⟩ := Kd.at_int HR0.1 x9_1 p0 q0
    cases e0
    replace hx0 := (HB.1.cell (World.block_lt_of_cell? w _ hx0)).trans hx0
    replace p0 := eq_true p0
    replace q0 := eq_true q0
    go_wp2_with (first | ((with_reducible refine sqc 144 rfl ?_); refine sqC (some 15) func144 #[.int .i64 (rd l0 x9_1)] ?_; (with_reducible refine (strconv_Itoa.calls (rd l0 x9_1) t0 _ ?sideG A7.1).mono ?_); (case sideG => exact Glob.below hG (sqB HB)); refine sqV fun w9 hb => ?_; replace O1 := sqU O1 hb; replace HB := sqS (sqB HB) hb) | ((with_reducible refine gate_builtin (b := .append) (xs := #[.tmp 13, .tmp 16]) rfl ?_); at_builtin; refine Kd.R_append Kd.string (w0 := w) w.heap.size rfl (.tmp 13) (.tmp 16) 73 9 (.string ⟨#[]⟩) 16 rfl underlying73 info9 rfl (by decide) (by omega) u3 x3_1 t0 [.string t0] (fun _ => True) (fun _ => False) rfl rfl ?aP (fun _ hk => hk.elim) ?aF ?aO ?aB ?aS ?aL ?_; (case aP => exact rfl); (case aB => exact (sqB HB)); (case aF => exact Z24); (case aO => exact (sqR O1)); (case aS => exact (below_size (sqB HB))); (case aL => exact Z2 LMc8); intro v1 w1 ho hb hg hat; rw [← Ny1.out] at ho; replace HB := sqa (hb); have O2 := sqa (ho); clear O1; clear ho hb hg hat))
    go_roundg k1
    case measure => have := HK1.out; omega
    case rel => exact ⟨(y1), (wrap64 (x9_1 + 1)), Z1, H', ⟨Z2 HK1⟩, ⟨sqR O2⟩, ⟨sqB HB⟩⟩
   rw [if_neg c4] at H
   have c4b0 : decide (x9_1 < (l0.length : Int)) = false := decide_eq_false c4
   clear c4
   obtain ⟨t1, A1, H⟩ := sqD H
   obtain rfl := sqo H
   obtain ⟨Ao0, co0, eo0⟩ := Kd.R_slice O1.1
   subst eo0
   go_wp2_with (first | ((with_reducible refine sqc 166 rfl ?_); refine sqC (some 20) func166 #[.slice Ao0 x3_1.length co0, .string (⟨#[44]⟩ : ByteArray)] ?_; (with_reducible refine (strings_Join.calls _ _ x3_1 (⟨#[44]⟩ : ByteArray) t1 _ ?side1 ?side2 A1.1).mono ?_); (case side1 => exact Z7 O1); (case side2 => exact spot_of O1.1); refine sqV fun w3 hb => ?_; replace O1 := sqU O1 hb; replace HB := sqS (sqB HB) hb))
   go_ret
   exact ⟨Z5, sqB HB⟩

/-! ### impl_quotients: function 168 -/
def impl_quotients.l0 : Nat → List Int → Int → Int → Option (List Int)
 | 0, _, _, _ => none
 | k + 1, x3, x4, x5 => if x5 > 0 then (if x5 = 0 then (none) else (if x3.length < 17592186044416 then (impl_quotients.l0 k (x3 ++ [wrap64 (Int.tdiv x4 x5)]) x5 (Int.tmod x4 x5)) else (none))) else (some x3)
def impl_quotients.f (k : Nat) (a0_0 : Int) (a0_1 : Int) : Option (List Int) := impl_quotients.l0 k (([] : List Int)) (mx a0_0 (wrap64 (-a0_0))) a0_1
abbrev impl_quotients.M (k : Nat) : Prop := (∀ y0 y1 y2, LeO (impl_quotients.l0 k y0 y1 y2) (impl_quotients.l0 (k + 1) y0 y1 y2))
theorem impl_quotients.mono_t : ∀ k, impl_quotients.M k → impl_quotients.M (k + 1) ∧ ∀ a0 a1, LeO (impl_quotients.f k a0 a1) (impl_quotients.f (k + 1) a0 a1) := by
  rintro k ih0
  refine ⟨?_, ?_⟩ <;> (try unfold impl_quotients.M) <;> intros <;> (first | unfold impl_quotients.l0 | unfold impl_quotients.f) <;> repeat' (with_reducible first | exact ih0 _ _ _ | exact LeO.refl _ | exact LeO.none _ | refine LeO.ite ?_ ?_ | refine LeO.bind ?_ fun _ => ?_)
theorem impl_quotients.mono_l : ∀ k, impl_quotients.M k
 | 0 => fun _ _ _ r h => by simp [impl_quotients.l0] at h
 | k + 1 => (impl_quotients.mono_t k (impl_quotients.mono_l k)).1
theorem impl_quotients.mono a0 a1 k : LeO (impl_quotients.f k a0 a1) (impl_quotients.f (k + 1) a0 a1) := (impl_quotients.mono_t k (impl_quotients.mono_l k)).2 a0 a1
theorem impl_quotients.calls (k : Nat) (a0_0 : Int) (a0_1 : Int) (r : List Int) (w : World) (H : impl_quotients.f k a0_0 a0_1 = some r) :
  Calls prog 168 #[.agg #[.int .i64 a0_0, .int .i64 a0_1]] w fun e w' => ∃ v0_ : Value, e = .returned (v0_) ∧ Kd.R (Kd.int .i64) 3 w' w.heap.size (fun _ => True) v0_ r ∧ Below w.heap.size w w' := by
 have hu31 := underlying31
 have HB := sqh w
 unfold impl_quotients.f at H
 obtain ⟨y0, hy0⟩ : ∃ y_ : List Int, y_ = (([] : List Int)) := ⟨_, rfl⟩
 replace H : (impl_quotients.l0 k y0 (mx a0_0 (wrap64 (-a0_0))) a0_1) = some r := sqW hy0 H
 have Ny0 := sqa hy0
 clear hy0
 obtain ⟨ji2, hji2⟩ : ∃ j_ : Int, (mx a0_0 (wrap64 (-a0_0))) = j_ := ⟨_, rfl⟩
 replace H : (impl_quotients.l0 k y0 ji2 a0_1) = some r := by first | (rw [hji2] at H; exact H) | (simp only [hji2] at H ⊢; exact H)
 have hji2_ : (if a0_0 < (wrap64 (-a0_0)) then (wrap64 (-a0_0)) else a0_0) = ji2 := hji2
 have H' := sqa H
 clear H
 go_enter func168, ntmps168
 go_wp2_with (first | ((with_reducible refine sqd 1 rfl ?_); refine sqBx w (sqB HB) (cs := #[.int .i64 a0_0, .int .i64 a0_1]) (t := 31) ?_; intro g0 hg w3 B0 E0 HB hb; clear hb hg) | ((with_reducible refine sqd 6 rfl ?_); refine Kd.R_lit (Kd.int .i64) _ 3 ?hg (N := 6) ?hd (xs := ([] : List Int)) (inner := []) (ok := fun _ => True) (okp := fun _ => True) ?hr ?hp (fun _ hk => hk) trivial (Below.refl _ _) (Nat.le_refl _) (by simp) ?_; (case hd => rfl); (case hg => rfl); (case hr => exact Z17); (case hp => exact Z23); intro v0 w4 ho5 hb hg_ hnew_; clear hg_ hnew_; (first | rw [← Ny0.out] at ho5 | (simp only [Int.reduceToNat] at ho5; rw [← Ny0.out] at ho5)); have O0 := sqL ho5 (sqB1 HB E0); replace B0 := sqT B0 hb; replace HB := sqS (sqB1 HB E0) hb; clear hb ho5; obtain ⟨_, _, _, _⟩ := sqY2 B0))
 repeat (go_quiet (first | ((with_reducible refine sqd 1 rfl ?_); refine sqBx w (sqB HB) (cs := #[.int .i64 a0_0, .int .i64 a0_1]) (t := 31) ?_; intro g0 hg w3 B0 E0 HB hb; clear hb hg) | ((with_reducible refine sqd 6 rfl ?_); refine Kd.R_lit (Kd.int .i64) _ 3 ?hg (N := 6) ?hd (xs := ([] : List Int)) (inner := []) (ok := fun _ => True) (okp := fun _ => True) ?hr ?hp (fun _ hk => hk) trivial (Below.refl _ _) (Nat.le_refl _) (by simp) ?_; (case hd => rfl); (case hg => rfl); (case hr => exact Z17); (case hp => exact Z23); intro v0 w4 ho5 hb hg_ hnew_; clear hg_ hnew_; (first | rw [← Ny0.out] at ho5 | (simp only [Int.reduceToNat] at ho5; rw [← Ny0.out] at ho5)); have O0 := sqL ho5 (sqB1 HB E0); replace B0 := sqT B0 hb; replace HB := sqS (sqB1 HB E0) hb; clear hb ho5; obtain ⟨_, _, _, _⟩ := sqY2 B0)); try go_wp2_with (first | ((with_reducible refine sqd 1 rfl ?_); refine sqBx w (sqB HB) (cs := #[.int .i64 a0_0, .int .i64 a0_1]) (t := 31) ?_; intro g0 hg w3 B0 E0 HB hb; clear hb hg) | ((with_reducible refine sqd 6 rfl ?_); refine Kd.R_lit (Kd.int .i64) _ 3 ?hg (N := 6) ?hd (xs := ([] : List Int)) (inner := []) (ok := fun _ => True) (okp := fun _ => True) ?hr ?hp (fun _ hk => hk) trivial (Below.refl _ _) (Nat.le_refl _) (by simp) ?_; (case hd => rfl); (case hg => rfl); (case hr => exact Z17); (case hp => exact Z23); intro v0 w4 ho5 hb hg_ hnew_; clear hg_ hnew_; (first | rw [← Ny0.out] at ho5 | (simp only [Int.reduceToNat] at ho5; rw [← Ny0.out] at ho5)); have O0 := sqL ho5 (sqB1 HB E0); replace B0 := sqT B0 hb; replace HB := sqS (sqB1 HB E0) hb; clear hb ho5; obtain ⟨_, _, _, _⟩ := sqY2 B0)))
 go_loopg [3, 4, 5] k (fun kq v3 v4 v5 w' => ∃ (x3_1 : List Int) (x4_1 : Int) (x5_1 : Int), v4 = .int .i64 x4_1 ∧ v5 = .int .i64 x5_1 ∧ Aside0 (impl_quotients.l0 kq x3_1 x4_1 x5_1 = some r) ∧ Aside0 (kq ≤ k) ∧ Aside0 (Kd.R (Kd.int .i64) 3 w' w.heap.size (fun _ => True) v3 x3_1) ∧ Aside0 (w'.heap[g0]? = some (.cells #[.int .i64 a0_0, .int .i64 a0_1] 31 (0, 0))) ∧ Aside0 (Below w.heap.size w w'))
 case atStart => exact ⟨(y0), (ji2), (a0_1), Z50, Z1, H', ⟨Nat.le_refl _⟩, ⟨sqR O0⟩, ⟨sqK B0⟩, ⟨sqB1 HB E0⟩⟩
 case round =>
  clear H'
  obtain ⟨x3_1, x4_1, x5_1, rfl, rfl, HA, HK1, O1, B0, HB⟩ := hrel
  cases gk with
  | zero => exact absurd HA.out (by simp [impl_quotients.l0])
  | succ k1 =>
   have H := HA.out
   clear HA
   simp only [impl_quotients.l0] at H
   by_cases c7 : x5_1 > 0
   ·rw [if_pos c7] at H
    have c7b0 : decide (0 < x5_1) = true := decide_eq_true c7
    clear c7
    by_cases c8 : x5_1 = 0
    ·rw [if_pos c8] at H
     exact absurd H (by simp)
    rw [if_neg c8] at H
    have c8b0 : (x5_1 == 0) = false := sqe0 c8
    have c8b1 : (x5_1 != 0) = true := sqn1 c8
    obtain ⟨c9, H⟩ := sqI H
    have LMc9 := sqa c9
    clear c9
    obtain ⟨y1, hy1⟩ : ∃ y_ : List Int, y_ = (x3_1 ++ [wrap64 (Int.tdiv x4_1 x5_1)]) := ⟨_, rfl⟩
    replace H : (impl_quotients.l0 k1 y1 x5_1 (Int.tmod x4_1 x5_1)) = some r := sqW hy1 H
    have Ny1 := sqa hy1
    clear hy1
    have H' := sqa H
    clear H
    go_wp2_with (first | ((with_reducible refine gate_builtin (b := .append) (xs := #[.tmp 17, .tmp 21]) rfl ?_); at_builtin; refine Kd.R_append (Kd.int .i64) (w0 := w) w.heap.size rfl (.tmp 17) (.tmp 21) 109 3 (.int .i64 0) 8 rfl underlying109 info3 rfl (by decide) (by omega) u3 x3_1 (wrap64 (Int.tdiv x4_1 x5_1)) [.int .i64 (wrap64 (Int.tdiv x4_1 x5_1))] (fun _ => True) (fun _ => False) rfl rfl ?aP (fun _ hk => hk.elim) ?aF ?aO ?aB ?aS ?aL ?_; (case aP => exact rfl); (case aB => exact (sqB1 HB E0)); (case aF => exact Z24); (case aO => exact (sqR O1)); (case aS => exact (below_size (sqB1 HB E0))); (case aL => exact Z2 LMc9); intro v1 w1 ho hb hg hat; rw [← Ny1.out] at ho; replace B0 := sqa (blk_grown (sqK B0) hg (Kd.R_ne O1.1 B0.1 (by decide))); replace HB := sqa (hb); have O2 := sqa (ho); clear O1; clear ho hb hg hat))
    repeat (go_quiet (first | ((with_reducible refine gate_builtin (b := .append) (xs := #[.tmp 17, .tmp 21]) rfl ?_); at_builtin; refine Kd.R_append (Kd.int .i64) (w0 := w) w.heap.size rfl (.tmp 17) (.tmp 21) 109 3 (.int .i64 0) 8 rfl underlying109 info3 rfl (by decide) (by omega) u3 x3_1 (wrap64 (Int.tdiv x4_1 x5_1)) [.int .i64 (wrap64 (Int.tdiv x4_1 x5_1))] (fun _ => True) (fun _ => False) rfl rfl ?aP (fun _ hk => hk.elim) ?aF ?aO ?aB ?aS ?aL ?_; (case aP => exact rfl); (case aB => exact (sqB1 HB E0)); (case aF => exact Z24); (case aO => exact (sqR O1)); (case aS => exact (below_size (sqB1 HB E0))); (case aL => exact Z2 LMc9); intro v1 w1 ho hb hg hat; rw [← Ny1.out] at ho; replace B0 := sqa (blk_grown (sqK B0) hg (Kd.R_ne O1.1 B0.1 (by decide))); replace HB := sqa (hb); have O2 := sqa (ho); clear O1; clear ho hb hg hat)); try go_wp2_with (first | ((with_reducible refine gate_builtin (b := .append) (xs := #[.tmp 17, .tmp 21]) rfl ?_); at_builtin; refine Kd.R_append (Kd.int .i64) (w0 := w) w.heap.size rfl (.tmp 17) (.tmp 21) 109 3 (.int .i64 0) 8 rfl underlying109 info3 rfl (by decide) (by omega) u3 x3_1 (wrap64 (Int.tdiv x4_1 x5_1)) [.int .i64 (wrap64 (Int.tdiv x4_1 x5_1))] (fun _ => True) (fun _ => False) rfl rfl ?aP (fun _ hk => hk.elim) ?aF ?aO ?aB ?aS ?aL ?_; (case aP => exact rfl); (case aB => exact (sqB1 HB E0)); (case aF => exact Z24); (case aO => exact (sqR O1)); (case aS => exact (below_size (sqB1 HB E0))); (case aL => exact Z2 LMc9); intro v1 w1 ho hb hg hat; rw [← Ny1.out] at ho; replace B0 := sqa (blk_grown (sqK B0) hg (Kd.R_ne O1.1 B0.1 (by decide))); replace HB := sqa (hb); have O2 := sqa (ho); clear O1; clear ho hb hg hat)))
    go_roundg k1
    case measure => have := HK1.out; omega
    case rel => exact ⟨(y1), (x5_1), (Int.tmod x4_1 x5_1), Z1, Z1, H', ⟨Z2 HK1⟩, ⟨sqR O2⟩, ⟨sqK B0⟩, ⟨sqB1 HB E0⟩⟩
   rw [if_neg c7] at H
   have c7b0 : decide (0 < x5_1) = false := decide_eq_false c7
   clear c7
   obtain rfl := sqo H
   go_wp2
   repeat (go_quiet (fail); try go_wp2)
   go_ret
   exact ⟨_, Z51, Z25 O1, sqB1 HB E0⟩

/-! ### impl_CrossingsOf: function 145 -/
def impl_CrossingsOf.l0 : Nat → Int → List Int → Int → Int → Option (Int)
 | 0, _, _, _, _ => none
 | k + 1, x3, x0, x1, x2 => if x2 < x1 then (if 0 ≤ x2 then (if x2 < (x0.length : Int) then (impl_CrossingsOf.l0 k (wrap64 (x3 + (rd x0 x2))) x0 x1 (wrap64 (x2 + 1))) else (none)) else (none)) else (some x3)
def impl_CrossingsOf.f (k : Nat) (a0_0 : Int) (a0_1 : Int) : Option (Int) := (impl_isFraction.f k a0_0 a0_1).bind fun t0 => (if t0 = true then ((impl_quotients.f k a0_0 a0_1).bind fun t1 => (impl_CrossingsOf.l0 k 0 t1 (t1.length : Int) 0)) else (some (-1)))
abbrev impl_CrossingsOf.M (k : Nat) : Prop := (∀ y0 y1 y2 y3, LeO (impl_CrossingsOf.l0 k y0 y1 y2 y3) (impl_CrossingsOf.l0 (k + 1) y0 y1 y2 y3))
theorem impl_CrossingsOf.mono_t : ∀ k, impl_CrossingsOf.M k → impl_CrossingsOf.M (k + 1) ∧ ∀ a0 a1, LeO (impl_CrossingsOf.f k a0 a1) (impl_CrossingsOf.f (k + 1) a0 a1) := by
  rintro k ih0
  refine ⟨?_, ?_⟩ <;> (try unfold impl_CrossingsOf.M) <;> intros <;> (first | unfold impl_CrossingsOf.l0 | unfold impl_CrossingsOf.f) <;> repeat' (with_reducible first | exact ih0 _ _ _ _ | exact impl_isFraction.mono _ _ _ | exact impl_quotients.mono _ _ _ | exact LeO.refl _ | exact LeO.none _ | refine LeO.ite ?_ ?_ | refine LeO.bind ?_ fun _ => ?_)
theorem impl_CrossingsOf.mono_l : ∀ k, impl_CrossingsOf.M k
 | 0 => fun _ _ _ _ r h => by simp [impl_CrossingsOf.l0] at h
 | k + 1 => (impl_CrossingsOf.mono_t k (impl_CrossingsOf.mono_l k)).1
theorem impl_CrossingsOf.mono a0 a1 k : LeO (impl_CrossingsOf.f k a0 a1) (impl_CrossingsOf.f (k + 1) a0 a1) := (impl_CrossingsOf.mono_t k (impl_CrossingsOf.mono_l k)).2 a0 a1
theorem impl_CrossingsOf.calls (k : Nat) (a0_0 : Int) (a0_1 : Int) (r : Int) (w : World) (H : impl_CrossingsOf.f k a0_0 a0_1 = some r) :
  Calls prog 145 #[.agg #[.int .i64 a0_0, .int .i64 a0_1]] w fun e w' => e = .returned (.int .i64 r) ∧ Below w.heap.size w w' := by
 have hu31 := underlying31
 have HB := sqh w
 unfold impl_CrossingsOf.f at H
 obtain ⟨t0, A2, H⟩ := sqD H
 by_cases c3 : t0 = true
 ·subst c3
  rw [if_pos rfl] at H
  obtain ⟨t1, A4, H⟩ := sqD H
  have H' := sqa H
  clear H
  go_enter func145, ntmps145
  go_wp2_with (first | ((with_reducible refine sqd 1 rfl ?_); refine sqBx w (sqB HB) (cs := #[.int .i64 a0_0, .int .i64 a0_1]) (t := 31) ?_; intro g0 hg w5 B0 E0 HB hb; clear hb hg; obtain ⟨_, _, _, _⟩ := sqY2 B0) | ((with_reducible refine sqc 70 rfl ?_); refine sqC (some 7) func70 #[.agg #[.int .i64 a0_0, .int .i64 a0_1]] ?_; (with_reducible refine (impl_isFraction.calls k a0_0 a0_1 true _ A2.1).mono ?_); refine sqV fun w7 hb => ?_; replace B0 := sqT B0 hb; replace HB := sqS (sqB1 HB E0) hb; obtain ⟨_, _, _, _⟩ := sqY2 B0) | ((with_reducible refine sqc 168 rfl ?_); refine sqC (some 10) func168 #[.agg #[.int .i64 a0_0, .int .i64 a0_1]] ?_; (with_reducible refine (impl_quotients.calls k a0_0 a0_1 t1 _ A4.1).mono ?_); rintro e w9 ⟨v0, rfl, ho0, hb⟩; refine ⟨_, rfl, ?_⟩; have O0 := sqL ho0 (sqB1 HB E0); replace B0 := sqT B0 hb; replace HB := sqS (sqB1 HB E0) hb; (try clear ho0); obtain ⟨Ao10, co10, eo0⟩ := Kd.R_slice O0.1; subst eo0))
  go_loopg [3, 12] k (fun kq v3 v1 w' => ∃ (x3_1 : Int) (x0 : Int), v3 = .int .i64 x3_1 ∧ v1 = .int .i64 x0 ∧ Aside0 (impl_CrossingsOf.l0 kq x3_1 t1 (t1.length : Int) x0 = some r) ∧ Aside0 (kq ≤ k) ∧ Aside0 (Kd.R (Kd.int .i64) 3 w' w.heap.size (fun _ => True) (.slice Ao10 t1.length co10) t1) ∧ Aside0 (w'.heap[g0]? = some (.cells #[.int .i64 a0_0, .int .i64 a0_1] 31 (0, 0))) ∧ Aside0 (Below w.heap.size w w'))
  case atStart => exact ⟨(0), (0), Z1, Z1, H', ⟨Nat.le_refl _⟩, ⟨sqR O0⟩, ⟨sqK B0⟩, ⟨sqB1 HB E0⟩⟩
  case round =>
   clear H'
   obtain ⟨x3_1, x0, rfl, rfl, HA, HK1, O1, B0, HB⟩ := hrel
   cases gk with
   | zero => exact absurd HA.out (by simp [impl_CrossingsOf.l0])
   | succ k1 =>
    have H := HA.out
    clear HA
    simp only [impl_CrossingsOf.l0] at H
    by_cases c0 : x0 < (t1.length : Int)
    ·rw [if_pos c0] at H
     have c1 : decide (x0 < (t1.length : Int)) = true := decide_eq_true c0
     clear c0
     obtain ⟨c2, H⟩ := sqI H
     have c4 : decide (0 ≤ x0) = true := decide_eq_true c2
     clear c2
     obtain ⟨c5, H⟩ := sqI H
     have c6 : decide (x0 < (t1.length : Int)) = true := decide_eq_true c5
     clear c5
     have H' := sqa H
     clear H
     have p0 : 0 ≤ (x0 : Int) := of_decide_eq_true Z16
     have q0 : x0 < (t1.length : Int) := of_decide_eq_true Z16
     obtain ⟨ad0, e0, hx0⟩ := Kd.at_int (Kd.R_reads' O1.1).2.2 x0 p0 q0
     cases e0
     replace p0 := eq_true p0
     replace q0 := eq_true q0
     go_wp2
     go_roundg k1
     case measure => have := HK1.out; omega
     case rel => exact ⟨(wrap64 (x3_1 + (rd t1 x0))), (wrap64 (x0 + 1)), Z1, Z1, H', ⟨Z2 HK1⟩, ⟨sqR O1⟩, ⟨sqK B0⟩, ⟨sqB1 HB E0⟩⟩
    rw [if_neg c0] at H
    have c1 : decide (x0 < (t1.length : Int)) = false := decide_eq_false c0
    clear c0
    obtain rfl := sqo H
    go_wp2
    go_ret
    exact ⟨Z5, sqB1 HB E0⟩
 obtain rfl := sqb c3
 rw [if_neg sqF] at H
 obtain rfl := sqo H
 go_enter func145, ntmps145
 go_wp2_with (first | ((with_reducible refine sqd 1 rfl ?_); refine sqBx w (sqB HB) (cs := #[.int .i64 a0_0, .int .i64 a0_1]) (t := 31) ?_; intro g0 hg w0 B0 E0 HB hb; clear hb hg; obtain ⟨_, _, _, _⟩ := sqY2 B0) | ((with_reducible refine sqc 70 rfl ?_); refine sqC (some 7) func70 #[.agg #[.int .i64 a0_0, .int .i64 a0_1]] ?_; (with_reducible refine (impl_isFraction.calls k a0_0 a0_1 false _ A2.1).mono ?_); refine sqV fun w1 hb => ?_; replace B0 := sqT B0 hb; replace HB := sqS (sqB1 HB E0) hb))
 go_ret
 exact ⟨Z5, sqB1 HB E0⟩

/-! ### impl_kindOf: function 169 -/
def impl_kindOf.f (a0_0 : Int) (a0_1 : Int) : Option (Int) := if (Int.tmod a0_0 2) = 0 then (some 0) else (if (Int.tmod a0_1 2) = 0 then (some 1) else (some 2))
theorem impl_kindOf.calls (a0_0 : Int) (a0_1 : Int) (r : Int) (w : World) (H : impl_kindOf.f a0_0 a0_1 = some r) :
  Calls prog 169 #[.agg #[.int .i64 a0_0, .int .i64 a0_1]] w fun e w' => e = .returned (.int .i64 r) ∧ Below w.heap.size w w' := by
 have hu31 := underlying31
 have HB := sqh w
 unfold impl_kindOf.f at H
 by_cases c2 : (Int.tmod a0_0 2) = 0
 ·rw [if_pos c2] at H
  have c2b0 : ((Int.tmod a0_0 2) == 0) = true := sqe1 c2
  have c2b1 : ((Int.tmod a0_0 2) != 0) = false := sqn0 c2
  clear c2
  obtain rfl := sqo H
  go_enter func169, ntmps169
  go_wp2_with (first | ((with_reducible refine sqd 1 rfl ?_); refine sqBx w (sqB HB) (cs := #[.int .i64 a0_0, .int .i64 a0_1]) (t := 31) ?_; intro g0 hg w3 B0 E0 HB hb; clear hb hg; obtain ⟨_, _, _, _⟩ := sqY2 B0))
  go_ret
  exact ⟨Z5, sqB1 HB E0⟩
 rw [if_neg c2] at H
 have c2b0 : ((Int.tmod a0_0 2) == 0) = false := sqe0 c2
 have c2b1 : ((Int.tmod a0_0 2) != 0) = true := sqn1 c2
 by_cases c5 : (Int.tmod a0_1 2) = 0
 ·rw [if_pos c5] at H
  have c5b0 : ((Int.tmod a0_1 2) == 0) = true := sqe1 c5
  have c5b1 : ((Int.tmod a0_1 2) != 0) = false := sqn0 c5
  clear c5
  obtain rfl := sqo H
  go_enter func169, ntmps169
  go_wp2_with (first | ((with_reducible refine sqd 1 rfl ?_); refine sqBx w (sqB HB) (cs := #[.int .i64 a0_0, .int .i64 a0_1]) (t := 31) ?_; intro g0 hg w6 B0 E0 HB hb; clear hb hg; obtain ⟨_, _, _, _⟩ := sqY2 B0))
  go_ret
  exact ⟨Z5, sqB1 HB E0⟩
 rw [if_neg c5] at H
 have c5b0 : ((Int.tmod a0_1 2) == 0) = false := sqe0 c5
 have c5b1 : ((Int.tmod a0_1 2) != 0) = true := sqn1 c5
 obtain rfl := sqo H
 go_enter func169, ntmps169
 go_wp2_with (first | ((with_reducible refine sqd 1 rfl ?_); refine sqBx w (sqB HB) (cs := #[.int .i64 a0_0, .int .i64 a0_1]) (t := 31) ?_; intro g0 hg w8 B0 E0 HB hb; clear hb hg; obtain ⟨_, _, _, _⟩ := sqY2 B0))
 go_ret
 exact ⟨Z5, sqB1 HB E0⟩

/-! ### impl_EndsFor: function 146 -/
def impl_EndsFor.f (k : Nat) (a0_0 : Int) (a0_1 : Int) : Option (List Int) := (impl_isFraction.f k a0_0 a0_1).bind fun t0 => (if t0 = true then ((impl_kindOf.f a0_0 a0_1).bind fun t1 => (if t1 = 0 then (some (([1, 0, 3, 2] : List Int))) else (if t1 = 1 then (some (([2, 3, 0, 1] : List Int))) else (some (([3, 2, 1, 0] : List Int)))))) else (some ([] : List Int)))
theorem impl_EndsFor.mono : ∀ a0 a1 k, LeO (impl_EndsFor.f k a0 a1) (impl_EndsFor.f (k + 1) a0 a1) := by
 intro a0 a1 k
 unfold impl_EndsFor.f
 repeat' (with_reducible first | exact impl_isFraction.mono _ _ _ | exact LeO.refl _ | exact LeO.none _ | refine LeO.ite ?_ ?_ | refine LeO.bind ?_ fun _ => ?_)
theorem impl_EndsFor.calls (k : Nat) (a0_0 : Int) (a0_1 : Int) (r : List Int) (w : World) (H : impl_EndsFor.f k a0_0 a0_1 = some r) :
  Calls prog 146 #[.agg #[.int .i64 a0_0, .int .i64 a0_1]] w fun e w' => ∃ v0_ : Value, e = .returned (v0_) ∧ Kd.R (Kd.int .i64) 3 w' w.heap.size (fun _ => True) v0_ r ∧ Below w.heap.size w w' := by
 have hu31 := underlying31
 have HB := sqh w
 unfold impl_EndsFor.f at H
 obtain ⟨t0, A2, H⟩ := sqD H
 by_cases c3 : t0 = true
 ·subst c3
  rw [if_pos rfl] at H
  obtain ⟨t1, A4, H⟩ := sqD H
  by_cases c5 : t1 = 0
  ·rw [if_pos c5] at H
   have c5b0 : (t1 == 0) = true := sqe1 c5
   have c5b1 : (t1 != 0) = false := sqn0 c5
   clear c5
   obtain ⟨y0, hy0⟩ : ∃ y_ : List Int, y_ = (([1, 0, 3, 2] : List Int)) := ⟨_, rfl⟩
   replace H : (some y0) = some r := sqW hy0 H
   have Ny0 := sqa hy0
   clear hy0
   obtain rfl := sqo H
   go_enter func146, ntmps146
   go_wp2_with (first | ((with_reducible refine sqd 1 rfl ?_); refine sqBx w (sqB HB) (cs := #[.int .i64 a0_0, .int .i64 a0_1]) (t := 31) ?_; intro g0 hg w6 B0 E0 HB hb; clear hb hg; obtain ⟨_, _, _, _⟩ := sqY2 B0) | ((with_reducible refine sqc 70 rfl ?_); refine sqC (some 4) func70 #[.agg #[.int .i64 a0_0, .int .i64 a0_1]] ?_; (with_reducible refine (impl_isFraction.calls k a0_0 a0_1 true _ A2.1).mono ?_); refine sqV fun w8 hb => ?_; replace B0 := sqT B0 hb; replace HB := sqS (sqB1 HB E0) hb; obtain ⟨_, _, _, _⟩ := sqY2 B0) | ((with_reducible refine sqc 169 rfl ?_); refine sqC (some 7) func169 #[.agg #[.int .i64 a0_0, .int .i64 a0_1]] ?_; (with_reducible refine (impl_kindOf.calls a0_0 a0_1 t1 _ A4.1).mono ?_); refine sqV fun w0 hb => ?_; replace B0 := sqT B0 hb; replace HB := sqS (sqB1 HB E0) hb) | ((with_reducible refine sqd 10 rfl ?_); refine Kd.R_lit (Kd.int .i64) _ 3 ?hg (N := 10) ?hd (xs := ([1, 0, 3, 2] : List Int)) (inner := [.int .i64 1, .int .i64 0, .int .i64 3, .int .i64 2]) (ok := fun _ => True) (okp := fun _ => True) ?hr ?hp (fun _ hk => hk) trivial (Below.refl _ _) (Nat.le_refl _) (by simp) ?_; (case hd => rfl); (case hg => rfl); (case hr => exact Z17); (case hp => exact Z52); intro v0 w1 ho0 hb hg_ hnew_; clear hg_ hnew_; (first | rw [← Ny0.out] at ho0 | (simp only [Int.reduceToNat] at ho0; rw [← Ny0.out] at ho0)); have O0 := sqL ho0 (sqB1 HB E0); replace B0 := sqT B0 hb; replace HB := sqS (sqB1 HB E0) hb; clear hb ho0))
   go_ret
   exact ⟨_, Z5, Z25 O0, sqB1 HB E0⟩
  rw [if_neg c5] at H
  have c5b0 : (t1 == 0) = false := sqe0 c5
  have c5b1 : (t1 != 0) = true := sqn1 c5
  by_cases c0 : t1 = 1
  ·rw [if_pos c0] at H
   have c1 := sqe1 c0
   have c2 := sqn0 c0
   clear c0
   obtain ⟨y1, hy1⟩ : ∃ y_ : List Int, y_ = (([2, 3, 0, 1] : List Int)) := ⟨_, rfl⟩
   replace H : (some y1) = some r := sqW hy1 H
   have Ny1 := sqa hy1
   clear hy1
   obtain rfl := sqo H
   go_enter func146, ntmps146
   go_wp2_with (first | ((with_reducible refine sqd 1 rfl ?_); refine sqBx w (sqB HB) (cs := #[.int .i64 a0_0, .int .i64 a0_1]) (t := 31) ?_; intro g0 hg w2 B0 E0 HB hb; clear hb hg; obtain ⟨_, _, _, _⟩ := sqY2 B0) | ((with_reducible refine sqc 70 rfl ?_); refine sqC (some 4) func70 #[.agg #[.int .i64 a0_0, .int .i64 a0_1]] ?_; (with_reducible refine (impl_isFraction.calls k a0_0 a0_1 true _ A2.1).mono ?_); refine sqV fun w3 hb => ?_; replace B0 := sqT B0 hb; replace HB := sqS (sqB1 HB E0) hb; obtain ⟨_, _, _, _⟩ := sqY2 B0) | ((with_reducible refine sqc 169 rfl ?_); refine sqC (some 7) func169 #[.agg #[.int .i64 a0_0, .int .i64 a0_1]] ?_; (with_reducible refine (impl_kindOf.calls a0_0 a0_1 t1 _ A4.1).mono ?_); refine sqV fun w4 hb => ?_; replace B0 := sqT B0 hb; replace HB := sqS (sqB1 HB E0) hb) | ((with_reducible refine sqd 13 rfl ?_); refine Kd.R_lit (Kd.int .i64) _ 3 ?hg (N := 13) ?hd (xs := ([2, 3, 0, 1] : List Int)) (inner := [.int .i64 2, .int .i64 3, .int .i64 0, .int .i64 1]) (ok := fun _ => True) (okp := fun _ => True) ?hr ?hp (fun _ hk => hk) trivial (Below.refl _ _) (Nat.le_refl _) (by simp) ?_; (case hd => rfl); (case hg => rfl); (case hr => exact Z17); (case hp => exact Z53); intro v1 w5 ho1 hb hg_ hnew_; clear hg_ hnew_; (first | rw [← Ny1.out] at ho1 | (simp only [Int.reduceToNat] at ho1; rw [← Ny1.out] at ho1)); have O1 := sqL ho1 (sqB1 HB E0); replace B0 := sqT B0 hb; replace HB := sqS (sqB1 HB E0) hb; clear hb ho1))
   go_ret
   exact ⟨_, Z5, Z25 O1, sqB1 HB E0⟩
  rw [if_neg c0] at H
  have c1 := sqe0 c0
  have c2 := sqn1 c0
  obtain ⟨y2, hy2⟩ : ∃ y_ : List Int, y_ = (([3, 2, 1, 0] : List Int)) := ⟨_, rfl⟩
  replace H : (some y2) = some r := sqW hy2 H
  have Ny2 := sqa hy2
  clear hy2
  obtain rfl := sqo H
  go_enter func146, ntmps146
  go_wp2_with (first | ((with_reducible refine sqd 1 rfl ?_); refine sqBx w (sqB HB) (cs := #[.int .i64 a0_0, .int .i64 a0_1]) (t := 31) ?_; intro g0 hg w7 B0 E0 HB hb; clear hb hg; obtain ⟨_, _, _, _⟩ := sqY2 B0) | ((with_reducible refine sqc 70 rfl ?_); refine sqC (some 4) func70 #[.agg #[.int .i64 a0_0, .int .i64 a0_1]] ?_; (with_reducible refine (impl_isFraction.calls k a0_0 a0_1 true _ A2.1).mono ?_); refine sqV fun w9 hb => ?_; replace B0 := sqT B0 hb; replace HB := sqS (sqB1 HB E0) hb; obtain ⟨_, _, _, _⟩ := sqY2 B0) | ((with_reducible refine sqc 169 rfl ?_); refine sqC (some 7) func169 #[.agg #[.int .i64 a0_0, .int .i64 a0_1]] ?_; (with_reducible refine (impl_kindOf.calls a0_0 a0_1 t1 _ A4.1).mono ?_); refine sqV fun w25 hb => ?_; replace B0 := sqT B0 hb; replace HB := sqS (sqB1 HB E0) hb) | ((with_reducible refine sqd 14 rfl ?_); refine Kd.R_lit (Kd.int .i64) _ 3 ?hg (N := 14) ?hd (xs := ([3, 2, 1, 0] : List Int)) (inner := [.int .i64 3, .int .i64 2, .int .i64 1, .int .i64 0]) (ok := fun _ => True) (okp := fun _ => True) ?hr ?hp (fun _ hk => hk) trivial (Below.refl _ _) (Nat.le_refl _) (by simp) ?_; (case hd => rfl); (case hg => rfl); (case hr => exact Z17); (case hp => exact Z54); intro v2 w26 ho2 hb hg_ hnew_; clear hg_ hnew_; (first | rw [← Ny2.out] at ho2 | (simp only [Int.reduceToNat] at ho2; rw [← Ny2.out] at ho2)); have O2 := sqL ho2 (sqB1 HB E0); replace B0 := sqT B0 hb; replace HB := sqS (sqB1 HB E0) hb; clear hb ho2))
  go_ret
  exact ⟨_, Z5, Z25 O2, sqB1 HB E0⟩
 obtain rfl := sqb c3
 rw [if_neg sqF] at H
 obtain rfl := sqo H
 go_enter func146, ntmps146
 go_wp2_with (first | ((with_reducible refine sqd 1 rfl ?_); refine sqBx w (sqB HB) (cs := #[.int .i64 a0_0, .int .i64 a0_1]) (t := 31) ?_; intro g0 hg w28 B0 E0 HB hb; clear hb hg; obtain ⟨_, _, _, _⟩ := sqY2 B0) | ((with_reducible refine sqc 70 rfl ?_); refine sqC (some 4) func70 #[.agg #[.int .i64 a0_0, .int .i64 a0_1]] ?_; (with_reducible refine (impl_isFraction.calls k a0_0 a0_1 false _ A2.1).mono ?_); refine sqV fun w30 hb => ?_; replace B0 := sqT B0 hb; replace HB := sqS (sqB1 HB E0) hb))
 go_ret
 exact ⟨_, Z5, Z45, sqB1 HB E0⟩

/-! ### impl_RingsOf: function 147 -/
def impl_RingsOf.f (k : Nat) (a0_0 : Int) (a0_1 : Int) : Option (Int) := (impl_isFraction.f k a0_0 a0_1).bind fun t0 => (if t0 = true then ((impl_kindOf.f a0_0 a0_1).bind fun t1 => (if t1 = 0 then (some 2) else (some 1))) else (some (-1)))
theorem impl_RingsOf.mono : ∀ a0 a1 k, LeO (impl_RingsOf.f k a0 a1) (impl_RingsOf.f (k + 1) a0 a1) := by
 intro a0 a1 k
 unfold impl_RingsOf.f
 repeat' (with_reducible first | exact impl_isFraction.mono _ _ _ | exact LeO.refl _ | exact LeO.none _ | refine LeO.ite ?_ ?_ | refine LeO.bind ?_ fun _ => ?_)
theorem impl_RingsOf.calls (k : Nat) (a0_0 : Int) (a0_1 : Int) (r : Int) (w : World) (H : impl_RingsOf.f k a0_0 a0_1 = some r) :
  Calls prog 147 #[.agg #[.int .i64 a0_0, .int .i64 a0_1]] w fun e w' => e = .returned (.int .i64 r) ∧ Below w.heap.size w w' := by
 have hu31 := underlying31
 have HB := sqh w
 unfold impl_RingsOf.f at H
 obtain ⟨t0, A2, H⟩ := sqD H
 by_cases c3 : t0 = true
 ·subst c3
  rw [if_pos rfl] at H
  obtain ⟨t1, A4, H⟩ := sqD H
  by_cases c5 : t1 = 0
  ·rw [if_pos c5] at H
   have c5b0 : (t1 == 0) = true := sqe1 c5
   have c5b1 : (t1 != 0) = false := sqn0 c5
   clear c5
   obtain rfl := sqo H
   go_enter func147, ntmps147
   go_wp2_with (first | ((with_reducible refine sqd 1 rfl ?_); refine sqBx w (sqB HB) (cs := #[.int .i64 a0_0, .int .i64 a0_1]) (t := 31) ?_; intro g0 hg w6 B0 E0 HB hb; clear hb hg; obtain ⟨_, _, _, _⟩ := sqY2 B0) | ((with_reducible refine sqc 70 rfl ?_); refine sqC (some 4) func70 #[.agg #[.int .i64 a0_0, .int .i64 a0_1]] ?_; (with_reducible refine (impl_isFraction.calls k a0_0 a0_1 true _ A2.1).mono ?_); refine sqV fun w8 hb => ?_; replace B0 := sqT B0 hb; replace HB := sqS (sqB1 HB E0) hb; obtain ⟨_, _, _, _⟩ := sqY2 B0) | ((with_reducible refine sqc 169 rfl ?_); refine sqC (some 7) func169 #[.agg #[.int .i64 a0_0, .int .i64 a0_1]] ?_; (with_reducible refine (impl_kindOf.calls a0_0 a0_1 t1 _ A4.1).mono ?_); refine sqV fun w0 hb => ?_; replace B0 := sqT B0 hb; replace HB := sqS (sqB1 HB E0) hb))
   go_ret
   exact ⟨Z5, sqB1 HB E0⟩
  rw [if_neg c5] at H
  have c5b0 : (t1 == 0) = false := sqe0 c5
  have c5b1 : (t1 != 0) = true := sqn1 c5
  obtain rfl := sqo H
  go_enter func147, ntmps147
  go_wp2_with (first | ((with_reducible refine sqd 1 rfl ?_); refine sqBx w (sqB HB) (cs := #[.int .i64 a0_0, .int .i64 a0_1]) (t := 31) ?_; intro g0 hg w1 B0 E0 HB hb; clear hb hg; obtain ⟨_, _, _, _⟩ := sqY2 B0) | ((with_reducible refine sqc 70 rfl ?_); refine sqC (some 4) func70 #[.agg #[.int .i64 a0_0, .int .i64 a0_1]] ?_; (with_reducible refine (impl_isFraction.calls k a0_0 a0_1 true _ A2.1).mono ?_); refine sqV fun w2 hb => ?_; replace B0 := sqT B0 hb; replace HB := sqS (sqB1 HB E0) hb; obtain ⟨_, _, _, _⟩ := sqY2 B0) | ((with_reducible refine sqc 169 rfl ?_); refine sqC (some 7) func169 #[.agg #[.int .i64 a0_0, .int .i64 a0_1]] ?_; (with_reducible refine (impl_kindOf.calls a0_0 a0_1 t1 _ A4.1).mono ?_); refine sqV fun w3 hb => ?_; replace B0 := sqT B0 hb; replace HB := sqS (sqB1 HB E0) hb))
  go_ret
  exact ⟨Z5, sqB1 HB E0⟩
 obtain rfl := sqb c3
 rw [if_neg sqF] at H
 obtain rfl := sqo H
 go_enter func147, ntmps147
 go_wp2_with (first | ((with_reducible refine sqd 1 rfl ?_); refine sqBx w (sqB HB) (cs := #[.int .i64 a0_0, .int .i64 a0_1]) (t := 31) ?_; intro g0 hg w4 B0 E0 HB hb; clear hb hg; obtain ⟨_, _, _, _⟩ := sqY2 B0) | ((with_reducible refine sqc 70 rfl ?_); refine sqC (some 4) func70 #[.agg #[.int .i64 a0_0, .int .i64 a0_1]] ?_; (with_reducible refine (impl_isFraction.calls k a0_0 a0_1 false _ A2.1).mono ?_); refine sqV fun w5 hb => ?_; replace B0 := sqT B0 hb; replace HB := sqS (sqB1 HB E0) hb))
 go_ret
 exact ⟨Z5, sqB1 HB E0⟩

/-! ### impl_linkOf: function 148 -/
def impl_linkOf.j0 : Nat → Bool → Int → Int → Option (Int × Int × Bool)
 | 0, _, _, _ => none
 | k + 1, x0, x1, x2 => if x0 = true then (some (0, 0, false)) else (if x1 = 0 then (some (0, 1, true)) else (if (mx x1 (wrap64 (-x1))) = 0 then (none) else (if x1 < 0 then (some (mx x1 (wrap64 (-x1)), Int.tmod (wrap64 ((mx x1 (wrap64 (-x1))) - (Int.tmod x2 (mx x1 (wrap64 (-x1)))))) (mx x1 (wrap64 (-x1))), true)) else (some (mx x1 (wrap64 (-x1)), Int.tmod x2 (mx x1 (wrap64 (-x1))), true)))))
def impl_linkOf.f (k : Nat) (a0_0 : Int) (a0_1 : Int) : Option (Int × Int × Bool) := (impl_isFraction.f k a0_0 a0_1).bind fun t0 => (if t0 = true then (if a0_0 < (-60) then (impl_linkOf.j0 k true a0_0 a0_1) else (impl_linkOf.j0 k (decide (a0_0 > 60)) a0_0 a0_1)) else (impl_linkOf.j0 k true a0_0 a0_1))
abbrev impl_linkOf.M (k : Nat) : Prop := (∀ y0 y1 y2, LeO (impl_linkOf.j0 k y0 y1 y2) (impl_linkOf.j0 (k + 1) y0 y1 y2))
theorem impl_linkOf.mono_t : ∀ k, impl_linkOf.M k → impl_linkOf.M (k + 1) ∧ ∀ a0 a1, LeO (impl_linkOf.f k a0 a1) (impl_linkOf.f (k + 1) a0 a1) := by
  rintro k ih0
  refine ⟨?_, ?_⟩ <;> (try unfold impl_linkOf.M) <;> intros <;> (first | unfold impl_linkOf.j0 | unfold impl_linkOf.f) <;> repeat' (with_reducible first | exact ih0 _ _ _ | exact impl_isFraction.mono _ _ _ | exact LeO.refl _ | exact LeO.none _ | refine LeO.ite ?_ ?_ | refine LeO.bind ?_ fun _ => ?_)
theorem impl_linkOf.mono_l : ∀ k, impl_linkOf.M k
 | 0 => fun _ _ _ r h => by simp [impl_linkOf.j0] at h
 | k + 1 => (impl_linkOf.mono_t k (impl_linkOf.mono_l k)).1
theorem impl_linkOf.mono a0 a1 k : LeO (impl_linkOf.f k a0 a1) (impl_linkOf.f (k + 1) a0 a1) := (impl_linkOf.mono_t k (impl_linkOf.mono_l k)).2 a0 a1
theorem impl_linkOf.calls (k : Nat) (a0_0 : Int) (a0_1 : Int) (r1 : Int) (r2 : Int) (r3 : Bool) (w : World) (H : impl_linkOf.f k a0_0 a0_1 = some (r1, r2, r3)) :
  Calls prog 148 #[.agg #[.int .i64 a0_0, .int .i64 a0_1]] w fun e w' => e = .returned (.tuple #[.agg #[.int .i64 r1, .int .i64 r2], .bool r3]) ∧ Below w.heap.size w w' := by
 have hu31 := underlying31
 have hu116 := underlying116
 have HB := sqh w
 unfold impl_linkOf.f at H
 have HC2 := sqa H
 clear H
 go_enter func148, ntmps148
 go_upto_region 1 with (first | ((with_reducible refine sqd 1 rfl ?_); refine sqBx w (sqB HB) (cs := #[.int .i64 a0_0, .int .i64 a0_1]) (t := 31) ?_; intro g0 hg w3 B0 E0 HB hb; clear hb hg) | ((with_reducible refine sqd 2 rfl ?_); refine sqBx w (sqB1 HB E0) (cs := #[.int .i64 0, .int .i64 0]) (t := 116) ?_; intro g1 hg w4 B2 E1 HB hb; obtain ⟨N0, N1⟩ := sqM hg B0; replace B0 := sqT B0 hb; clear hb hg))
 (try simp only [Act.put, List.setIfInBounds_toArray, List.set_cons_zero, List.set_cons_succ])
 go_cut [18] (fun v0 wc => ∃ (kq : Nat) (x0 : Bool), v0 = .bool x0 ∧ Aside0 (impl_linkOf.j0 kq x0 a0_0 a0_1 = some (r1, r2, r3)) ∧ Aside0 (kq ≤ k) ∧ Aside0 (wc.heap[g0]? = some (.cells #[.int .i64 a0_0, .int .i64 a0_1] 31 (0, 0))) ∧ Aside0 (wc.heap[g1]? = some (.cells #[.int .i64 0, .int .i64 0] 116 (0, 0))) ∧ Aside0 (Below w.heap.size w wc))
 case first =>
  have H := HC2.1
  clear HC2
  obtain ⟨t0, A5, H⟩ := sqD H
  by_cases c6 : t0 = true
  ·subst c6
   rw [if_pos rfl] at H
   by_cases c7 : a0_0 < (-60)
   ·rw [if_pos c7] at H
    have c7b0 : decide (a0_0 < (-60)) = true := decide_eq_true c7
    clear c7
    (first | rw [c7b0] | (simp only [i64_w, i32_w]; rw [c7b0]) | skip)
    have H' := sqa H
    clear H
    have := N0.1
    have := N1.1
    obtain ⟨_, _, _, _⟩ := sqY2 B0
    go_wp2_with (first | ((with_reducible refine sqc 70 rfl ?_); refine sqC (some 7) func70 #[.agg #[.int .i64 a0_0, .int .i64 a0_1]] ?_; (with_reducible refine (impl_isFraction.calls k a0_0 a0_1 true _ A5.1).mono ?_); refine sqV fun w0 hb => ?_; replace B0 := sqT B0 hb; replace B2 := sqT B2 hb; replace HB := sqS (sqB2 HB E0 E1) hb; obtain ⟨_, _, _, _⟩ := sqY2 B0))
    go_meet
    case rel => exact ⟨_, (true), Z1, H', ⟨Z11⟩, ⟨sqK B0⟩, ⟨sqK B2⟩, ⟨sqB2 HB E0 E1⟩⟩
   rw [if_neg c7] at H
   have c7b0 : decide (a0_0 < (-60)) = false := decide_eq_false c7
   clear c7
   (first | rw [c7b0] | (simp only [i64_w, i32_w]; rw [c7b0]) | skip)
   have H' := sqa H
   clear H
   have := N0.1
   have := N1.1
   obtain ⟨_, _, _, _⟩ := sqY2 B0
   go_wp2_with (first | ((with_reducible refine sqc 70 rfl ?_); refine sqC (some 7) func70 #[.agg #[.int .i64 a0_0, .int .i64 a0_1]] ?_; (with_reducible refine (impl_isFraction.calls k a0_0 a0_1 true _ A5.1).mono ?_); refine sqV fun w1 hb => ?_; replace B0 := sqT B0 hb; replace B2 := sqT B2 hb; replace HB := sqS (sqB2 HB E0 E1) hb; obtain ⟨_, _, _, _⟩ := sqY2 B0))
   go_meet
   case rel => exact ⟨_, (decide (a0_0 > 60)), Z1, H', ⟨Z11⟩, ⟨sqK B0⟩, ⟨sqK B2⟩, ⟨sqB2 HB E0 E1⟩⟩
  obtain rfl := sqb c6
  rw [if_neg sqF] at H
  have H' := sqa H
  clear H
  have := N0.1
  have := N1.1
  obtain ⟨_, _, _, _⟩ := sqY2 B0
  go_wp2_with (first | ((with_reducible refine sqc 70 rfl ?_); refine sqC (some 7) func70 #[.agg #[.int .i64 a0_0, .int .i64 a0_1]] ?_; (with_reducible refine (impl_isFraction.calls k a0_0 a0_1 false _ A5.1).mono ?_); refine sqV fun w2 hb => ?_; replace B0 := sqT B0 hb; replace B2 := sqT B2 hb; replace HB := sqS (sqB2 HB E0 E1) hb))
  go_meet
  case rel => exact ⟨_, (true), Z1, H', ⟨Z11⟩, ⟨sqK B0⟩, ⟨sqK B2⟩, ⟨sqB2 HB E0 E1⟩⟩
 case rest =>
  clear HC2
  obtain ⟨kq, x0, rfl, HA, HJ1, B0, B2, HB⟩ := hcut
  cases kq with
  | zero => exact absurd HA.out (by simp [impl_linkOf.j0])
  | succ kj1 =>
   have H := HA.out
   clear HA
   simp only [impl_linkOf.j0] at H
   by_cases c0 : x0 = true
   ·subst c0
    rw [if_pos rfl] at H
    obtain ⟨rfl, rfl, rfl⟩ := sqO3 H
    have := N1.1
    have := N0.1
    obtain ⟨_, _, _, _⟩ := sqY2 B2
    go_wp2
    refine sqE g1 116 #[.int .i64 0, .int .i64 0] (Z12 B2) underlying116 ?_
    exact ⟨Z5, sqB2 HB E0 E1⟩
   obtain rfl := sqb c0
   rw [if_neg sqF] at H
   by_cases c1 : a0_0 = 0
   ·rw [if_pos c1] at H
    have c2 := sqe1 c1
    have c3 := sqn0 c1
    clear c1
    obtain ⟨rfl, rfl, rfl⟩ := sqO3 H
    have := N0.1
    have := N1.1
    obtain ⟨_, _, _, _⟩ := sqY2 B0
    obtain ⟨_, _, _, _⟩ := sqY2 B2
    go_wp2
    refine sqE g1 116 #[.int .i64 0, .int .i64 1] (Z12 B2) underlying116 ?_
    exact ⟨Z5, sqB2 HB E0 E1⟩
   rw [if_neg c1] at H
   have c2 := sqe0 c1
   have c3 := sqn1 c1
   obtain ⟨ji26, hji26⟩ : ∃ j_ : Int, (mx a0_0 (wrap64 (-a0_0))) = j_ := ⟨_, rfl⟩
   replace H : (if (ji26) = 0 then (none) else (if a0_0 < 0 then (some (ji26, Int.tmod (wrap64 ((ji26) - (Int.tmod a0_1 (ji26)))) (ji26), true)) else (some (ji26, Int.tmod a0_1 (ji26), true)))) = some (r1, r2, r3) := by first | (rw [hji26] at H; exact H) | (simp only [hji26] at H ⊢; exact H)
   have hji0 : (if a0_0 < (wrap64 (-a0_0)) then (wrap64 (-a0_0)) else a0_0) = ji26 := hji26
   by_cases c4 : (ji26) = 0
   ·rw [if_pos c4] at H
    exact absurd H (by simp)
   rw [if_neg c4] at H
   have c5 := sqe0 c4
   have c8 := sqn1 c4
   by_cases c9 : a0_0 < 0
   ·rw [if_pos c9] at H
    have c10 : decide (a0_0 < 0) = true := decide_eq_true c9
    clear c9
    obtain ⟨rfl, rfl, rfl⟩ := sqO3 H
    have := N0.1
    have := N1.1
    obtain ⟨_, _, _, _⟩ := sqY2 B0
    obtain ⟨_, _, _, _⟩ := sqY2 B2
    go_wp2
    refine sqE g1 116 #[.int .i64 ji26, .int .i64 (Int.tmod (wrap64 ((ji26) - (Int.tmod a0_1 (ji26)))) (ji26))] (Z105 B2) underlying116 ?_
    exact ⟨Z106, sqB2 HB E0 E1⟩
   rw [if_neg c9] at H
   have c10 : decide (a0_0 < 0) = false := decide_eq_false c9
   clear c9
   obtain ⟨rfl, rfl, rfl⟩ := sqO3 H
   have := N0.1
   have := N1.1
   obtain ⟨_, _, _, _⟩ := sqY2 B0
   obtain ⟨_, _, _, _⟩ := sqY2 B2
   go_wp2
   refine sqE g1 116 #[.int .i64 ji26, .int .i64 (Int.tmod a0_1 (ji26))] (Z105 B2) underlying116 ?_
   exact ⟨Z106, sqB2 HB E0 E1⟩
/-! ### impl_least: function 149 -/
def impl_least.l0 : Nat → Int → Int → Int → Option (Int × Int)
 | 0, _, _, _ => none
 | k + 1, x3, x0, x1 => if x3 < x1 then (if x0 = 0 then (none) else (if (Int.tmod (wrap64 (x3 * x1)) x0) = 1 then (impl_least.l0 k (wrap64 (x3 + 1)) x0 x3) else (impl_least.l0 k (wrap64 (x3 + 1)) x0 x1))) else (some (x0, x1))
def impl_least.f (k : Nat) (a0_0 : Int) (a0_1 : Int) : Option (Int × Int) := impl_least.l0 k 1 a0_0 a0_1
abbrev impl_least.M (k : Nat) : Prop := (∀ y0 y1 y2, LeO (impl_least.l0 k y0 y1 y2) (impl_least.l0 (k + 1) y0 y1 y2))
theorem impl_least.mono_t : ∀ k, impl_least.M k → impl_least.M (k + 1) ∧ ∀ a0 a1, LeO (impl_least.f k a0 a1) (impl_least.f (k + 1) a0 a1) := by
  rintro k ih0
  refine ⟨?_, ?_⟩ <;> (try unfold impl_least.M) <;> intros <;> (first | unfold impl_least.l0 | unfold impl_least.f) <;> repeat' (with_reducible first | exact ih0 _ _ _ | exact LeO.refl _ | exact LeO.none _ | refine LeO.ite ?_ ?_ | refine LeO.bind ?_ fun _ => ?_)
theorem impl_least.mono_l : ∀ k, impl_least.M k
 | 0 => fun _ _ _ r h => by simp [impl_least.l0] at h
 | k + 1 => (impl_least.mono_t k (impl_least.mono_l k)).1
theorem impl_least.mono a0 a1 k : LeO (impl_least.f k a0 a1) (impl_least.f (k + 1) a0 a1) := (impl_least.mono_t k (impl_least.mono_l k)).2 a0 a1
theorem impl_least.calls (k : Nat) (a0_0 : Int) (a0_1 : Int) (r1 : Int) (r2 : Int) (w : World) (H : impl_least.f k a0_0 a0_1 = some (r1, r2)) :
  Calls prog 149 #[.agg #[.int .i64 a0_0, .int .i64 a0_1]] w fun e w' => e = .returned (.agg #[.int .i64 r1, .int .i64 r2]) ∧ Below w.heap.size w w' := by
 have hu116 := underlying116
 have HB := sqh w
 unfold impl_least.f at H
 have H' := sqa H
 clear H
 go_enter func149, ntmps149
 go_wp2_with (first | ((with_reducible refine sqd 1 rfl ?_); refine sqBx w (sqB HB) (cs := #[.int .i64 a0_0, .int .i64 a0_1]) (t := 116) ?_; intro g0 hg w2 B0 E0 HB hb; clear hb hg) | ((with_reducible refine sqd 2 rfl ?_); refine sqBx w (sqB1 HB E0) (cs := #[.int .i64 0, .int .i64 0]) (t := 116) ?_; intro g1 hg w3 B2 E1 HB hb; obtain ⟨N0, N1⟩ := sqM hg B0; replace B0 := sqT B0 hb; clear hb hg))
 go_loopg [3] k (fun kq v3 w' => ∃ (x3_1 : Int) (x0 : Int), v3 = .int .i64 x3_1 ∧ Aside0 (impl_least.l0 kq x3_1 a0_0 x0 = some (r1, r2)) ∧ Aside0 (kq ≤ k) ∧ Aside0 (w'.heap[g0]? = some (.cells #[.int .i64 a0_0, .int .i64 x0] 116 (0, 0))) ∧ Aside0 (w'.heap[g1]? = some (.cells #[.int .i64 0, .int .i64 0] 116 (0, 0))) ∧ Aside0 (Below w.heap.size w w'))
 case atStart => exact ⟨(1), (a0_1), Z1, H', ⟨Nat.le_refl _⟩, ⟨sqK B0⟩, ⟨sqK B2⟩, ⟨sqB2 HB E0 E1⟩⟩
 case round =>
  clear H'
  obtain ⟨x3_1, x0, rfl, HA, HK1, B0, B2, HB⟩ := hrel
  cases gk with
  | zero => exact absurd HA.out (by simp [impl_least.l0])
  | succ k1 =>
   have H := HA.out
   clear HA
   simp only [impl_least.l0] at H
   by_cases c4 : x3_1 < x0
   ·rw [if_pos c4] at H
    have c4b0 : decide (x3_1 < x0) = true := decide_eq_true c4
    clear c4
    by_cases c5 : a0_0 = 0
    ·rw [if_pos c5] at H
     exact absurd H (by simp)
    rw [if_neg c5] at H
    have c5b0 : (a0_0 == 0) = false := sqe0 c5
    have c5b1 : (a0_0 != 0) = true := sqn1 c5
    by_cases c6 : (Int.tmod (wrap64 (x3_1 * x0)) a0_0) = 1
    ·rw [if_pos c6] at H
     have c6b0 : ((Int.tmod (wrap64 (x3_1 * x0)) a0_0) == 1) = true := sqe1 c6
     have c6b1 : ((Int.tmod (wrap64 (x3_1 * x0)) a0_0) != 1) = false := sqn0 c6
     clear c6
     have H' := sqa H
     clear H
     have := N0.1
     have := N1.1
     obtain ⟨_, _, _, _⟩ := sqY2 B0
     go_wp2
     go_roundg k1
     case measure => have := HK1.out; omega
     case rel => exact ⟨(wrap64 (x3_1 + 1)), (x3_1), Z1, H', ⟨Z2 HK1⟩, ⟨by refine sqPut (cs := #[.int .i64 a0_0, .int .i64 x0]) ?_ 1; exact sqK B0⟩, ⟨Z3 N1 B2⟩, ⟨sqB2 HB E0 E1⟩⟩
    rw [if_neg c6] at H
    have c6b0 : ((Int.tmod (wrap64 (x3_1 * x0)) a0_0) == 1) = false := sqe0 c6
    have c6b1 : ((Int.tmod (wrap64 (x3_1 * x0)) a0_0) != 1) = true := sqn1 c6
    have H' := sqa H
    clear H
    have := N0.1
    have := N1.1
    obtain ⟨_, _, _, _⟩ := sqY2 B0
    go_wp2
    go_roundg k1
    case measure => have := HK1.out; omega
    case rel => exact ⟨(wrap64 (x3_1 + 1)), (x0), Z1, H', ⟨Z2 HK1⟩, ⟨sqK B0⟩, ⟨sqK B2⟩, ⟨sqB2 HB E0 E1⟩⟩
   rw [if_neg c4] at H
   have c4b0 : decide (x3_1 < x0) = false := decide_eq_false c4
   clear c4
   obtain ⟨rfl, rfl⟩ := sqO2 H
   have := N0.1
   have := N1.1
   obtain ⟨_, _, _, _⟩ := sqY2 B0
   obtain ⟨_, _, _, _⟩ := sqY2 B2
   go_wp2
   refine sqEr g1 116 #[.int .i64 a0_0, .int .i64 x0] (Z4 B2) underlying116 ?_
   exact ⟨Z5, sqB2 HB E0 E1⟩

-- given: function 150 (strings_CutPrefix)

/-! ### impl_TiedFor: function 152 -/
def impl_TiedFor.f (k : Nat) (a0_0 : Int) (a0_1 : Int) (a1 : Int) : Option (Int) := (impl_isFraction.f k a0_0 a0_1).bind fun t0 => (if t0 = true then (if a1 < 1 then (some (-1)) else (if a1 > 12 then (some (-1)) else ((impl_gcd.f k a1 a0_0).bind fun t1 => (some (wrap64 (a1 * t1)))))) else (some (-1)))
theorem impl_TiedFor.mono : ∀ a0 a1 a2 k, LeO (impl_TiedFor.f k a0 a1 a2) (impl_TiedFor.f (k + 1) a0 a1 a2) := by
 intro a0 a1 a2 k
 unfold impl_TiedFor.f
 repeat' (with_reducible first | exact impl_gcd.mono _ _ _ | exact impl_isFraction.mono _ _ _ | exact LeO.refl _ | exact LeO.none _ | refine LeO.ite ?_ ?_ | refine LeO.bind ?_ fun _ => ?_)
theorem impl_TiedFor.calls (k : Nat) (a0_0 : Int) (a0_1 : Int) (a1 : Int) (r : Int) (w : World) (H : impl_TiedFor.f k a0_0 a0_1 a1 = some r) :
  Calls prog 152 #[.agg #[.int .i64 a0_0, .int .i64 a0_1], .int .i64 a1] w fun e w' => e = .returned (.int .i64 r) ∧ Below w.heap.size w w' := by
 have hu31 := underlying31
 have HB := sqh w
 unfold impl_TiedFor.f at H
 obtain ⟨t0, A3, H⟩ := sqD H
 by_cases c4 : t0 = true
 ·subst c4
  rw [if_pos rfl] at H
  by_cases c5 : a1 < 1
  ·rw [if_pos c5] at H
   have c5b0 : decide (a1 < 1) = true := decide_eq_true c5
   clear c5
   obtain rfl := sqo H
   go_enter func152, ntmps152
   go_wp2_with (first | ((with_reducible refine sqd 2 rfl ?_); refine sqBx w (sqB HB) (cs := #[.int .i64 a0_0, .int .i64 a0_1]) (t := 31) ?_; intro g0 hg w6 B0 E0 HB hb; clear hb hg; obtain ⟨_, _, _, _⟩ := sqY2 B0) | ((with_reducible refine sqc 70 rfl ?_); refine sqC (some 6) func70 #[.agg #[.int .i64 a0_0, .int .i64 a0_1]] ?_; (with_reducible refine (impl_isFraction.calls k a0_0 a0_1 true _ A3.1).mono ?_); refine sqV fun w8 hb => ?_; replace B0 := sqT B0 hb; replace HB := sqS (sqB1 HB E0) hb))
   go_ret
   exact ⟨Z5, sqB1 HB E0⟩
  rw [if_neg c5] at H
  have c5b0 : decide (a1 < 1) = false := decide_eq_false c5
  clear c5
  by_cases c9 : a1 > 12
  ·rw [if_pos c9] at H
   have c9b0 : decide (12 < a1) = true := decide_eq_true c9
   clear c9
   obtain rfl := sqo H
   go_enter func152, ntmps152
   go_wp2_with (first | ((with_reducible refine sqd 2 rfl ?_); refine sqBx w (sqB HB) (cs := #[.int .i64 a0_0, .int .i64 a0_1]) (t := 31) ?_; intro g0 hg w0 B0 E0 HB hb; clear hb hg; obtain ⟨_, _, _, _⟩ := sqY2 B0) | ((with_reducible refine sqc 70 rfl ?_); refine sqC (some 6) func70 #[.agg #[.int .i64 a0_0, .int .i64 a0_1]] ?_; (with_reducible refine (impl_isFraction.calls k a0_0 a0_1 true _ A3.1).mono ?_); refine sqV fun w1 hb => ?_; replace B0 := sqT B0 hb; replace HB := sqS (sqB1 HB E0) hb))
   go_ret
   exact ⟨Z5, sqB1 HB E0⟩
  rw [if_neg c9] at H
  have c9b0 : decide (12 < a1) = false := decide_eq_false c9
  clear c9
  obtain ⟨t1, A0, H⟩ := sqD H
  obtain rfl := sqo H
  go_enter func152, ntmps152
  go_wp2_with (first | ((with_reducible refine sqd 2 rfl ?_); refine sqBx w (sqB HB) (cs := #[.int .i64 a0_0, .int .i64 a0_1]) (t := 31) ?_; intro g0 hg w2 B0 E0 HB hb; clear hb hg; obtain ⟨_, _, _, _⟩ := sqY2 B0) | ((with_reducible refine sqc 70 rfl ?_); refine sqC (some 6) func70 #[.agg #[.int .i64 a0_0, .int .i64 a0_1]] ?_; (with_reducible refine (impl_isFraction.calls k a0_0 a0_1 true _ A3.1).mono ?_); refine sqV fun w3 hb => ?_; replace B0 := sqT B0 hb; replace HB := sqS (sqB1 HB E0) hb; obtain ⟨_, _, _, _⟩ := sqY2 B0) | ((with_reducible refine sqc 117 rfl ?_); refine sqC (some 20) func117 #[.int .i64 a1, .int .i64 a0_0] ?_; (with_reducible refine (impl_gcd.calls k a1 a0_0 t1 _ A0.1).mono ?_); refine sqV fun w4 hb => ?_; replace B0 := sqT B0 hb; replace HB := sqS (sqB1 HB E0) hb))
  go_ret
  exact ⟨Z5, sqB1 HB E0⟩
 obtain rfl := sqb c4
 rw [if_neg sqF] at H
 obtain rfl := sqo H
 go_enter func152, ntmps152
 go_wp2_with (first | ((with_reducible refine sqd 2 rfl ?_); refine sqBx w (sqB HB) (cs := #[.int .i64 a0_0, .int .i64 a0_1]) (t := 31) ?_; intro g0 hg w5 B0 E0 HB hb; clear hb hg; obtain ⟨_, _, _, _⟩ := sqY2 B0) | ((with_reducible refine sqc 70 rfl ?_); refine sqC (some 6) func70 #[.agg #[.int .i64 a0_0, .int .i64 a0_1]] ?_; (with_reducible refine (impl_isFraction.calls k a0_0 a0_1 false _ A3.1).mono ?_); refine sqV fun w7 hb => ?_; replace B0 := sqT B0 hb; replace HB := sqS (sqB1 HB E0) hb))
 go_ret
 exact ⟨Z5, sqB1 HB E0⟩
end Go.Proofs.YtofmlbgfcohhoaaGreatDoor.PFnDeskLine
