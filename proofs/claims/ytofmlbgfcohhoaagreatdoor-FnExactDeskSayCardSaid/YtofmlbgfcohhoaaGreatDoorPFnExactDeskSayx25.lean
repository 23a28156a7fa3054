import Derived.Test.YtofmlbgfcohhoaaGreatDoorPFnExactDeskSayx24
set_option maxHeartbeats 8000000
set_option maxRecDepth 100000
namespace Go.Proofs.YtofmlbgfcohhoaaGreatDoor.PFnExactDeskSay
open Go.RowKit Go.Proofs.YtofmlbgfcohhoaaGreatDoorW.PrintWords Go.Proofs.YtofmlbgfcohhoaaGreatDoorW.PrintLast Go.Proofs.YtofmlbgfcohhoaaGreatDoorW.PrintMore Go.Proofs.YtofmlbgfcohhoaaGreatDoor.Lib Go.Proofs.Tryz
attribute [local go_sem] max2_int min2_int max_two min_two max_three min_three max_four min_four   -- for this text's walks alone
set_option linter.unusedVariables false
set_option linter.unusedSimpArgs false

/-! ### laws_markStringS: function 50 -/
def laws_markStringS.l0 : Nat → List ByteArray → Int → Int → Option (Int × List ByteArray)
 | 0, _, _, _ => none
 | k + 1, x0, x1, x5 => if x5 < (x0.length : Int) then ((laws_markText.f k x1).bind fun t0 => (if 0 ≤ x5 then (laws_markStringS.l0 k (x0.set (x5 : Int).toNat t0) (wrap64 (x1 + 1)) (wrap64 (x5 + 1))) else (none))) else (some (x1, x0))
def laws_markStringS.f (k : Nat) (l0 : List ByteArray) (a1 : Int) : Option (Int × List ByteArray) := laws_markStringS.l0 k l0 a1 0
abbrev laws_markStringS.M (k : Nat) : Prop := (∀ y0 y1 y2, LeO (laws_markStringS.l0 k y0 y1 y2) (laws_markStringS.l0 (k + 1) y0 y1 y2))
theorem laws_markStringS.mono_t : ∀ k, laws_markStringS.M k → laws_markStringS.M (k + 1) ∧ ∀ a0 a1, LeO (laws_markStringS.f k a0 a1) (laws_markStringS.f (k + 1) a0 a1) := by
  rintro k ih0
  refine ⟨?_, ?_⟩ <;> (try unfold laws_markStringS.M) <;> intros <;> (first | unfold laws_markStringS.l0 | unfold laws_markStringS.f) <;> repeat' (with_reducible first | exact ih0 _ _ _ | exact laws_markText.mono _ _ | exact LeO.refl _ | exact LeO.none _ | refine LeO.ite ?_ ?_ | refine LeO.bind ?_ fun _ => ?_)
theorem laws_markStringS.mono_l : ∀ k, laws_markStringS.M k
 | 0 => fun _ _ _ r h => by simp [laws_markStringS.l0] at h
 | k + 1 => (laws_markStringS.mono_t k (laws_markStringS.mono_l k)).1
theorem laws_markStringS.mono a0 a1 k : LeO (laws_markStringS.f k a0 a1) (laws_markStringS.f (k + 1) a0 a1) := (laws_markStringS.mono_t k (laws_markStringS.mono_l k)).2 a0 a1
theorem laws_markStringS.calls (k : Nat) (P0_ : Nat → Prop) (u9000_ : Value) (l0 : List ByteArray) (a1 : Int) (r1 : Int) (r2 : List ByteArray) (w0 w : World) (hB : Below w0.heap.size w0 w) (ho0 : Kd.R Kd.string 9 w w0.heap.size P0_ u9000_ l0) (H : laws_markStringS.f k l0 a1 = some (r1, r2)) :
  Calls prog 50 #[u9000_, .int .i64 a1] w fun e w' => e = .returned (.int .i64 r1) ∧ Kd.R Kd.string 9 w' w0.heap.size (fun k_ => (P0_ k_ ∨ w.heap.size ≤ k_)) u9000_ r2 ∧ Below w0.heap.size w0 w' ∧ Kept w w' (fun k_ => P0_ k_) := by
 have O0 := sqa (show Kd.R Kd.string 9 w w0.heap.size (fun k_ => (P0_ k_ ∨ w.heap.size ≤ k_)) u9000_ l0 from Kd.R_mono ho0 (fun k_ hk => (.inl hk)))
 have HK := sqa (Kept.refl w (fun k_ => P0_ k_))
 have HW0 := sqa hB.size
 have HB := sqa hB
 clear hB
 unfold laws_markStringS.f at H
 have H' := sqa H
 clear H
 go_enter func50, ntmps50
 go_wp2
 go_loopg [1, 5] k (fun kq v1 v5 w' => ∃ (x0_1 : List ByteArray) (x1_1 : Int) (x5_1 : Int), v1 = .int .i64 x1_1 ∧ v5 = .int .i64 x5_1 ∧ Aside0 (laws_markStringS.l0 kq x0_1 x1_1 x5_1 = some (r1, r2)) ∧ Aside0 (kq ≤ k) ∧ Aside0 (Kd.R Kd.string 9 w' w0.heap.size (fun k_ => (P0_ k_ ∨ w.heap.size ≤ k_)) u9000_ x0_1) ∧ Aside0 (Kept w w' (fun k_ => P0_ k_)) ∧ Aside0 (Below w0.heap.size w0 w'))
 case atStart => exact ⟨(l0), (a1), (0), Z4, Z4, H', ⟨Nat.le_refl _⟩, ⟨sqR O0⟩, ⟨Z67⟩, ⟨sqB HB⟩⟩
 case round =>
  clear H'
  obtain ⟨x0_1, x1_1, x5_1, rfl, rfl, HA, HK1, O1, HK, HB⟩ := hrel
  cases gk with
  | zero => exact absurd HA.out (by simp [laws_markStringS.l0])
  | succ k1 =>
   have H := HA.out
   clear HA
   simp only [laws_markStringS.l0] at H
   by_cases c3 : x5_1 < (x0_1.length : Int)
   ·rw [if_pos c3] at H
    have c3b0 : decide (x5_1 < (x0_1.length : Int)) = true := decide_eq_true c3
    clear c3
    obtain ⟨t0, A4, H⟩ := sqD H
    obtain ⟨c5, H⟩ := sqI H
    have c5b0 : decide (0 ≤ x5_1) = true := decide_eq_true c5
    clear c5
    obtain ⟨y0, hy0⟩ : ∃ y_ : List ByteArray, y_ = (x0_1.set (x5_1 : Int).toNat t0) := ⟨_, rfl⟩
    replace H : (laws_markStringS.l0 k1 y0 (wrap64 (x1_1 + 1)) (wrap64 (x5_1 + 1))) = some (r1, r2) := sqW hy0 H
    have Ny0 := sqa hy0
    clear hy0
    have H' := sqa H
    clear H
    obtain ⟨Ao7, co7, eo7⟩ := Kd.R_slice O1.1
    subst eo7
    go_wp2_with (first | ((with_reducible refine sqc 79 rfl ?_); refine sqC (some 15) func79 #[.int .i64 x1_1] ?_; (with_reducible refine (laws_markText.calls k1 x1_1 t0 _ A4.1).mono ?_); refine sqV fun w8 hb => ?_; replace O1 := sqU O1 hb; replace HK := sqa (Kept.below (S := (fun k_ => P0_ k_)) Z67 hb); replace HB := sqS (sqB HB) hb; (try clear hb); have p6 : 0 ≤ (x5_1 : Int) := of_decide_eq_true Z9; have q6 : (x5_1 : Int) < ((x0_1.length : Int) : Int) := of_decide_eq_true Z9; obtain ⟨go6, co6, eo6, g0, gl6, cl6, HG6⟩ := Kd.R_form O1.1 (by omega); (first | cases eo6 | (injection eo6 with ea_ en_ ec_; (first | subst ea_ | (injection ea_ with ea_; subst ea_)); subst ec_; clear en_)); have GB6 := sqa g0; have GG6 := sqa HG6; clear g0 gl6 HG6; have HMgo6 := sqa (show (P0_ go6 ∨ w.heap.size ≤ go6) from (O1.1.1 _ rfl)); obtain ⟨hx6_0, hf6_0⟩ := Kd.R_celln (⟨#[]⟩ : ByteArray) O1.1 (x5_1 : Int) p6 q6; replace p6 := eq_true p6; replace q6 := eq_true q6; obtain ⟨hy9_, hz9_⟩ := Kd.R_celln (⟨#[]⟩ : ByteArray) O1.1 (x5_1 : Int) (of_decide_eq_true Z9) (of_decide_eq_true Z9); have HP9 := Kd.R_putg O1.1 (x5_1 : Int) t0) | ((with_reducible refine gate_store (t := 9) (p := 16) rfl ?_); refine store_event (t := 9) (p := 16) (v := ?vo_w10) (w1 := (w8.setCell ⟨go6, (x5_1 : Int).toNat, none⟩ (.string t0))) ?hg ?ho ?hn ?hr ?_; (case ho => rfl); (case hg => rfl); (case hn => rfl); (case hr => exact Z10); intro w10 hw; have hg : w8.grownBy w10 (some go6) := (by rw [hw]; exact HP9.2); have hp_ : Kd.R Kd.string 9 w10 w0.heap.size (fun k_ => (P0_ k_ ∨ w.heap.size ≤ k_)) (.slice (some ⟨go6, 0, none⟩) x0_1.length co7) y0 := (by rw [hw, Ny0.out]; exact HP9.1); clear HP9; replace HB := sqa ((by rw [hw]; exact below_set (HB.1) GB6.out : Below w0.heap.size w0 w10)); replace HK := sqa (Kept.of_grown (S := (fun k_ => P0_ k_)) hg Z67 (fun k_ e_ => (O1.1.1 k_ e_))); replace O1 := sqa (hp_); clear hg hw hp_))
    go_roundg k1
    case measure => have := HK1.out; omega
    case rel => exact ⟨(y0), (wrap64 (x1_1 + 1)), (wrap64 (x5_1 + 1)), Z4, Z4, H', ⟨Z17 HK1⟩, ⟨sqR O1⟩, ⟨Z67⟩, ⟨sqB HB⟩⟩
   rw [if_neg c3] at H
   have c3b0 : decide (x5_1 < (x0_1.length : Int)) = false := decide_eq_false c3
   clear c3
   obtain ⟨rfl, rfl⟩ := sqO2 H
   obtain ⟨Ao11, co11, eo11⟩ := Kd.R_slice O1.1
   subst eo11
   go_wp2
   go_ret
   exact ⟨Z16, Z50 O1, sqB HB, Z67⟩

/-! ### laws_heldStringS: function 51 -/
def laws_heldStringS.l0 : Nat → List ByteArray → Int → Int → Option (Int)
 | 0, _, _, _ => none
 | k + 1, x0, x1, x5 => if x5 < (x0.length : Int) then (if 0 ≤ x5 then ((laws_markText.f k x1).bind fun t0 => (if (rdOf ByteArray.empty x0 x5).toList = t0.toList then (laws_heldStringS.l0 k x0 (wrap64 (x1 + 1)) (wrap64 (x5 + 1))) else (some (-1)))) else (none)) else (some x1)
def laws_heldStringS.f (k : Nat) (l0 : List ByteArray) (a1 : Int) : Option (Int) := laws_heldStringS.l0 k l0 a1 0
abbrev laws_heldStringS.M (k : Nat) : Prop := (∀ y0 y1 y2, LeO (laws_heldStringS.l0 k y0 y1 y2) (laws_heldStringS.l0 (k + 1) y0 y1 y2))
theorem laws_heldStringS.mono_t : ∀ k, laws_heldStringS.M k → laws_heldStringS.M (k + 1) ∧ ∀ a0 a1, LeO (laws_heldStringS.f k a0 a1) (laws_heldStringS.f (k + 1) a0 a1) := by
  rintro k ih0
  refine ⟨?_, ?_⟩ <;> (try unfold laws_heldStringS.M) <;> intros <;> (first | unfold laws_heldStringS.l0 | unfold laws_heldStringS.f) <;> repeat' (with_reducible first | exact ih0 _ _ _ | exact laws_markText.mono _ _ | exact LeO.refl _ | exact LeO.none _ | refine LeO.ite ?_ ?_ | refine LeO.bind ?_ fun _ => ?_)
theorem laws_heldStringS.mono_l : ∀ k, laws_heldStringS.M k
 | 0 => fun _ _ _ r h => by simp [laws_heldStringS.l0] at h
 | k + 1 => (laws_heldStringS.mono_t k (laws_heldStringS.mono_l k)).1
theorem laws_heldStringS.mono a0 a1 k : LeO (laws_heldStringS.f k a0 a1) (laws_heldStringS.f (k + 1) a0 a1) := (laws_heldStringS.mono_t k (laws_heldStringS.mono_l k)).2 a0 a1
theorem laws_heldStringS.calls (k : Nat) (A0 : Option Addr) (c0 : Nat) (l0 : List ByteArray) (a1 : Int) (r : Int) (w : World) (hr0 : Kd.C Kd.string w A0 l0.length l0) (hc0 : l0.length ≤ c0) (H : laws_heldStringS.f k l0 a1 = some r) :
  Calls prog 51 #[.slice A0 l0.length c0, .int .i64 a1] w fun e w' => e = .returned (.int .i64 r) ∧ Below w.heap.size w w' := by
 have HR0 := sqa hr0
 have HC0 := sqa hc0
 clear hr0 hc0
 have HB := sqh w
 unfold laws_heldStringS.f at H
 have H' := sqa H
 clear H
 go_enter func51, ntmps51
 go_wp2
 go_loopg [1, 5] k (fun kq v1 v5 w' => ∃ (x1_1 : Int) (x5_1 : Int), v1 = .int .i64 x1_1 ∧ v5 = .int .i64 x5_1 ∧ Aside0 (laws_heldStringS.l0 kq l0 x1_1 x5_1 = some r) ∧ Aside0 (kq ≤ k) ∧ Aside0 (Below w.heap.size w w'))
 case atStart => exact ⟨(a1), (0), Z4, Z4, H', ⟨Nat.le_refl _⟩, ⟨sqB HB⟩⟩
 case round =>
  clear H'
  obtain ⟨x1_1, x5_1, rfl, rfl, HA, HK1, HB⟩ := hrel
  cases gk with
  | zero => exact absurd HA.out (by simp [laws_heldStringS.l0])
  | succ k1 =>
   have H := HA.out
   clear HA
   simp only [laws_heldStringS.l0] at H
   by_cases c3 : x5_1 < (l0.length : Int)
   ·rw [if_pos c3] at H
    have c3b0 : decide (x5_1 < (l0.length : Int)) = true := decide_eq_true c3
    clear c3
    obtain ⟨c4, H⟩ := sqI H
    have c4b0 : decide (0 ≤ x5_1) = true := decide_eq_true c4
    clear c4
    obtain ⟨t0, A5, H⟩ := sqD H
    by_cases c6 : (rdOf ByteArray.empty l0 x5_1).toList = t0.toList
    ·rw [if_pos c6] at H
     have c6b0 : ((rdOf ByteArray.empty l0 x5_1).toList == t0.toList) = true := sqe1 c6
     have c6b1 : ((rdOf ByteArray.empty l0 x5_1).toList != t0.toList) = false := sqn0 c6
     clear c6
     have H' := sqa H
     clear H
     try go_wp2
     replace HB := sqa (below_drew1 HB.1)
     have p0 : 0 ≤ (x5_1 : Int) := of_decide_eq_true Z9
     have q0 : x5_1 < (l0.length : Int) := of_decide_eq_true Z9
     obtain ⟨ad0, e0, hx0⟩ := Kd.at_string HR0.1 x5_1 p0 q0
     have hw0 := hx0
     cases e0
     replace hx0 := (HB.1.cell (World.block_lt_of_cell? w _ hx0)).trans hx0
     replace p0 := eq_true p0
     replace q0 := eq_true q0
     refine start_ (n := 7) (S := fun w' => w'.cell? (ad0.add (x5_1).toNat) = some (.string (rdOf ByteArray.empty l0 x5_1))) (ds := []) #[false, false, false, false, false, false, false] (by kernel_rfl) rfl rfl (((HB.1.cell (World.block_lt_of_cell? w _ hw0)).trans hw0)) (fun hHeld => ?_)
     generalize wr.drew = w7 at HB hx0 hHeld ⊢
     refine sqPk 0 (some 12) (h := ?_)
     refine sqPk 1 (some 13) (h := ?_)
     refine sqPk 2 (some 14) (h := ?_)
     refine sqPk 4 (some 16) (h := ?_)
     refine take_ (i := 3) (N := some 15) (v := ?_) (a' := ?_) #[true, true, true, true, true, false, false] rfl rfl (by kernel_rfl) (fun _ _ _ h => h) (Or.inl ⟨by rfl, ?_⟩) hHeld ?_ ?_
     rotate_left
     ·intro w' s0
      go_simp
      with_reducible rfl
     rotate_left
     ·simp only [Act.put, List.setIfInBounds_toArray, List.set_cons_zero, List.set_cons_succ, i64_w, i32_w]
      rfl
     refine one_ (i := 5) (N := some 17) #[true, true, true, true, true, true, false] rfl rfl (by kernel_rfl) (by decide) (fun K hK => ?_)
     refine goes_ func79 (by kernel_rfl) rfl #[.int .i64 x1_1] (by rfl) rfl rfl sqA ?_
     with_reducible refine (laws_markText.calls k1 x1_1 t0 _ A5.1).mono ?_
     rintro e w8 ⟨rfl, hb⟩
     refine ⟨_, rfl, ?_⟩
     replace HB := sqS (sqB HB) hb
     (try clear hb)
     (try clear hb2)
     (try clear hk)
     (try clear hi)
     refine hK.out _ _ (((HB.1.cell (World.block_lt_of_cell? w _ hw0)).trans hw0)) (fun hHeld => ?_)
     clear hK K
     refine sqN (some 17) ?_
     refine sqPk 6 (some 18) (h := ?_)
     refine done_ (by kernel_rfl) ?_
     try go_wp2
     go_roundg k1
     case measure => have := HK1.out; omega
     case rel => exact ⟨(wrap64 (x1_1 + 1)), (wrap64 (x5_1 + 1)), Z4, Z4, H', ⟨Z17 HK1⟩, ⟨sqB HB⟩⟩
    rw [if_neg c6] at H
    have c6b0 : ((rdOf ByteArray.empty l0 x5_1).toList == t0.toList) = false := sqe0 c6
    have c6b1 : ((rdOf ByteArray.empty l0 x5_1).toList != t0.toList) = true := sqn1 c6
    obtain rfl := sqo H
    try go_wp2
    replace HB := sqa (below_drew1 HB.1)
    have p0 : 0 ≤ (x5_1 : Int) := of_decide_eq_true Z9
    have q0 : x5_1 < (l0.length : Int) := of_decide_eq_true Z9
    obtain ⟨ad0, e0, hx0⟩ := Kd.at_string HR0.1 x5_1 p0 q0
    have hw0 := hx0
    cases e0
    replace hx0 := (HB.1.cell (World.block_lt_of_cell? w _ hx0)).trans hx0
    replace p0 := eq_true p0
    replace q0 := eq_true q0
    refine start_ (n := 7) (S := fun w' => w'.cell? (ad0.add (x5_1).toNat) = some (.string (rdOf ByteArray.empty l0 x5_1))) (ds := []) #[false, false, false, false, false, false, false] (by kernel_rfl) rfl rfl (((HB.1.cell (World.block_lt_of_cell? w _ hw0)).trans hw0)) (fun hHeld => ?_)
    generalize wr.drew = w9 at HB hx0 hHeld ⊢
    refine sqPk 0 (some 12) (h := ?_)
    refine sqPk 1 (some 13) (h := ?_)
    refine sqPk 2 (some 14) (h := ?_)
    refine sqPk 4 (some 16) (h := ?_)
    refine take_ (i := 3) (N := some 15) (v := ?_) (a' := ?_) #[true, true, true, true, true, false, false] rfl rfl (by kernel_rfl) (fun _ _ _ h => h) (Or.inl ⟨by rfl, ?_⟩) hHeld ?_ ?_
    rotate_left
    ·intro w' s0
     go_simp
     with_reducible rfl
    rotate_left
    ·simp only [Act.put, List.setIfInBounds_toArray, List.set_cons_zero, List.set_cons_succ, i64_w, i32_w]
     rfl
    refine one_ (i := 5) (N := some 17) #[true, true, true, true, true, true, false] rfl rfl (by kernel_rfl) (by decide) (fun K hK => ?_)
    refine goes_ func79 (by kernel_rfl) rfl #[.int .i64 x1_1] (by rfl) rfl rfl sqA ?_
    with_reducible refine (laws_markText.calls k1 x1_1 t0 _ A5.1).mono ?_
    rintro e w10 ⟨rfl, hb⟩
    refine ⟨_, rfl, ?_⟩
    replace HB := sqS (sqB HB) hb
    (try clear hb)
    (try clear hb2)
    (try clear hk)
    (try clear hi)
    refine hK.out _ _ (((HB.1.cell (World.block_lt_of_cell? w _ hw0)).trans hw0)) (fun hHeld => ?_)
    clear hK K
    refine sqN (some 17) ?_
    refine sqPk 6 (some 18) (h := ?_)
    refine done_ (by kernel_rfl) ?_
    try go_wp2
    go_ret
    exact ⟨Z16, sqB HB⟩
   rw [if_neg c3] at H
   have c3b0 : decide (x5_1 < (l0.length : Int)) = false := decide_eq_false c3
   clear c3
   obtain rfl := sqo H
   go_wp2
   go_ret
   exact ⟨Z16, sqB HB⟩

end Go.Proofs.YtofmlbgfcohhoaaGreatDoor.PFnExactDeskSay
