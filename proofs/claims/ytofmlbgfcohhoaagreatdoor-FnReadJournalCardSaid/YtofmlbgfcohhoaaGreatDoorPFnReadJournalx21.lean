import Derived.Test.YtofmlbgfcohhoaaGreatDoorPFnReadJournalx20
set_option maxHeartbeats 8000000
set_option maxRecDepth 100000
namespace Go.Proofs.YtofmlbgfcohhoaaGreatDoor.PFnReadJournal
open Go.RowKit Go.Proofs.YtofmlbgfcohhoaaGreatDoorW.PrintWords Go.Proofs.YtofmlbgfcohhoaaGreatDoorW.PrintLast Go.Proofs.YtofmlbgfcohhoaaGreatDoorW.PrintMore Go.Proofs.YtofmlbgfcohhoaaGreatDoor.Lib Go.Proofs.Tryz
attribute [local go_sem] max2_int min2_int max_two min_two max_three min_three max_four min_four
set_option linter.unusedVariables false
set_option linter.unusedSimpArgs false

def F34.l0 : Nat → List (S38) → List (S38) → Int → List Int → Int → Option ((List (S38)) × Int)
 | 0, _, _, _, _, _ => none
 | k + 1, x3, x4, x5, x0, x1 => if x5 < (x4.length : Int) then (if 0 ≤ x5 then ((F9.f k ((rd_T38 x4 x5).f0) ((rd_T38 x4 x5).f1)).bind fun t0 => (if t0.toList = ([] : List UInt8) then (F34.l0 k x3 x4 (wrap64 (x5 + 1)) x0 x1) else (if x3.length < 5864062014805 then (F34.l0 k (x3 ++ [(⟨(rd_T38 x4 x5).f0, (rd_T38 x4 x5).f1⟩ : S38)]) x4 (wrap64 (x5 + 1)) x0 x1) else (none)))) else (none)) else (some (x3, x1))
def F34.f (k : Nat) (s0_0 : List Int) (s0_1 : Int) : Option ((List (S38)) × Int) := (F29.f k s0_0 s0_1).bind fun bt0 => (F34.l0 k (([] : List (S38))) bt0.1 0 s0_0 bt0.2)
abbrev F34.M (k : Nat) : Prop := (∀ y0 y1 y2 y3 y4, LeO (F34.l0 k y0 y1 y2 y3 y4) (F34.l0 (k + 1) y0 y1 y2 y3 y4))
theorem F34.mt : ∀ k, F34.M k → F34.M (k + 1) ∧ ∀ a0 a1, LeO (F34.f k a0 a1) (F34.f (k + 1) a0 a1) := by
  rintro k ih0
  refine ⟨?_, ?_⟩ <;> (try unfold F34.M) <;> intros <;> (first | unfold F34.l0 | unfold F34.f) <;> repeat' (with_reducible first | exact ih0 _ _ _ _ _ | exact F9.m _ _ _ | exact F29.m _ _ _ | exact LeO.refl _ | exact LeO.none _ | refine LeO.ite ?_ ?_ | refine LeO.bind ?_ fun _ => ?_)
theorem F34.ml : ∀ k, F34.M k
 | 0 => fun _ _ _ _ _ r h => by simp [F34.l0] at h
 | k + 1 => (F34.mt k (F34.ml k)).1
theorem F34.m a0 a1 k : LeO (F34.f k a0 a1) (F34.f (k + 1) a0 a1) := (F34.mt k (F34.ml k)).2 a0 a1
theorem F34.c (k : Nat) (g : Nat) (s0_0 : List Int) (s0_1 : Int) (r1 : List (S38)) (r2 : Int) (w0 w : World) (hI : IsS131 w0 w g s0_0 s0_1) (hB : Below w0.heap.size w0 w) (H : F34.f k s0_0 s0_1 = some (r1, r2)) :
  Calls prog 81 #[.pointer (some ⟨g, 0, none⟩)] w fun e w' => ∃ v0_ : Value, e = .returned (v0_) ∧ Kd.R k38 38 w' w.heap.size (fun _ => True) v0_ r1 ∧ IsS131 w0 w' g s0_0 r2 ∧ Below w0.heap.size w0 w' ∧ KeepBut w w' g none := by
 have hu38 := underlying38
 have HI0 := sqa hI
 have HK := sqa (KeepBut.refl w g none)
 have HL := sqa hB.size
 clear hI
 have HW0 := sqa hB.size
 have HB := sqa hB
 clear hB
 unfold F34.f at H
 obtain ⟨y0, hy0⟩ : ∃ y_ : List (S38), y_ = (([] : List (S38))) := ⟨_, rfl⟩
 replace H : ((F29.f k s0_0 s0_1).bind fun bt0 => (F34.l0 k y0 bt0.1 0 s0_0 bt0.2)) = some (r1, r2) := sqW hy0 H
 have Ny0 := sqa hy0
 clear hy0
 obtain ⟨⟨t0, t1⟩, A2, H⟩ := sqD H
 try dsimp only at H
 have H' := sqa H
 clear H
 go_enter func81, ntmps81
 go_wp2_with (first | ((with_reducible refine sqd 6 rfl ?_); refine Kd.R_lit k38 _ 38 ?hg (N := 6) ?hd (xs := ([] : List (S38))) (inner := []) (ok := fun _ => True) (okp := fun _ => True) ?hr ?hp (fun _ hk => hk) trivial (Below.refl _ _) (Nat.le_refl _) (by simp) ?_; (case hd => rfl); (case hg => rfl); (case hr => exact Z8); (case hp => exact Z23); intro v0 w3 ho4 hb hg_ hnew_; clear hg_ hnew_; (first | rw [← Ny0.out] at ho4 | (simp only [Int.reduceToNat] at ho4; rw [← Ny0.out] at ho4)); have O0 := sqa (Kd.R_lower ho4 (keep_size (w := w) (g := g) (row := none) Z21)); replace HK := sqa (KeepBut.trans Z21 (KeepBut.of_below hb g none) (.inl rfl)); replace HB := sqa (below_step (Z22 HI0) hb); replace HI0 := sqa (IsS131.below (Z20 HI0) hb); clear hb ho4) | ((with_reducible refine sqc 75 rfl ?_); refine sqC (some 8) func75 #[.pointer (some ⟨g, 0, none⟩)] ?_; (with_reducible refine (F29.c k g s0_0 s0_1 t0 t1 w0 _ ?side1 ?side2 A2.1).mono ?_); (case side1 => exact Z20 HI0); (case side2 => exact Z22 HI0); rintro e w5 ⟨v1, rfl, ho0, hi, hb, hk⟩; refine ⟨_, rfl, ?_⟩; have O1 := sqa (Kd.R_lower (Kd.R_new' ho0 (Kd.R_lt (sqR O0))) (keep_size (w := w) (g := g) (row := none) Z21)); replace O0 := sqa (Kd.R_mono (Kd.R_told (Kd.R_oldK (IsS131.apart (show IsS131 w0 _ g s0_0 s0_1 from by repeat (first | (with_reducible first | exact HI0.1 | apply IsS131.alloc | apply IsS131.drewN | apply IsS131.drew | apply IsS131.set_1) | exact HI0.1)) (sqR O0) (by decide)) hk) (Kd.R_base ho0)) (fun _ h_ => h_.1)); replace HK := sqa (KeepBut.trans Z21 hk (.inl rfl)); replace HB := sqa (hb); replace HI0 := sqa (hi); (try clear ho0)))
 go_loopg [3, 5] k (fun kq v3 v5 w' => ∃ (x3_1 : List (S38)) (x5_1 : Int), v5 = .int .i64 x5_1 ∧ Aside0 (F34.l0 kq x3_1 t0 x5_1 s0_0 t1 = some (r1, r2)) ∧ Aside0 (kq ≤ k) ∧ Aside0 (Kd.R k38 38 w' w.heap.size (fun k_ => some k_ ≠ (v1 : Value).ownBlock) v3 x3_1) ∧ Aside0 (Kd.R k38 38 w' w.heap.size (fun k_ => some k_ ≠ (v3 : Value).ownBlock) v1 t0) ∧ Aside0 (IsS131 w0 w' g s0_0 t1) ∧ Aside0 (KeepBut w w' g none) ∧ Aside0 (Below w0.heap.size w0 w'))
 case atStart => exact ⟨(y0), (0), Z2, H', ⟨Nat.le_refl _⟩, ⟨Z82 O0⟩, ⟨Z82 O1⟩, ⟨Z20 HI0⟩, ⟨Z21⟩, ⟨Z22 HI0⟩⟩
 case round =>
  clear H'
  obtain ⟨x3_1, x5_1, rfl, HA, HK1, O2, O3, HI0, HK, HB⟩ := hrel
  cases gk with
  | zero => exact absurd HA.out (by simp [F34.l0])
  | succ k1 =>
   have H := HA.out
   clear HA
   simp only [F34.l0] at H
   by_cases c6 : x5_1 < (t0.length : Int)
   ·rw [if_pos c6] at H
    have c6b0 : decide (x5_1 < (t0.length : Int)) = true := decide_eq_true c6
    clear c6
    obtain ⟨c7, H⟩ := sqI H
    have c7b0 : decide (0 ≤ x5_1) = true := decide_eq_true c7
    clear c7
    obtain ⟨t2, A8, H⟩ := sqD H
    by_cases c9 : t2.toList = ([] : List UInt8)
    ·rw [if_pos c9] at H
     have c9b0 : (t2.toList == ([] : List UInt8)) = true := sqe1 c9
     try have c9b8 : t2.toList.isEmpty = true := by (have h_ := c9b0; (repeat rw [sqy] at h_); exact h_)
     have c9b1 : (t2.toList != ([] : List UInt8)) = false := sqn0 c9
     clear c9
     have H' := sqa H
     clear H
     obtain ⟨Ao0, co0, eo0⟩ := Kd.R_slice O3.1
     subst eo0
     have p0 : 0 ≤ (x5_1 : Int) := of_decide_eq_true Z7
     have q0 : x5_1 < (t0.length : Int) := of_decide_eq_true Z7
     obtain ⟨ad0, e0, hx0, hx1⟩ := at_T38 (Kd.R_reads' O3.1).2.2 x5_1 p0 q0
     cases e0
     replace p0 := eq_true p0
     replace q0 := eq_true q0
     go_wp2_with (first | ((with_reducible refine sqc 122 rfl ?_); refine sqC (some 19) func122 #[.agg #[.int .i64 ((rd_T38 t0 x5_1).f0), .string ((rd_T38 t0 x5_1).f1)]] ?_; (with_reducible refine (F9.c k1 ((rd_T38 t0 x5_1).f0) ((rd_T38 t0 x5_1).f1) t2 _ A8.1).mono ?_); refine sqV fun w1 hb => ?_; replace O2 := sqU O2 hb; replace O3 := sqU O3 hb; replace HK := sqa (KeepBut.trans Z21 (KeepBut.of_below hb g none) (.inl rfl)); replace HB := sqa (below_step (Z22 HI0) hb); replace HI0 := sqa (IsS131.below (Z20 HI0) hb)))
     go_roundg k1
     case measure => have := HK1.out; omega
     case rel => exact ⟨(x3_1), (wrap64 (x5_1 + 1)), Z2, H', ⟨Z15 HK1⟩, ⟨sqR O2⟩, ⟨sqR O3⟩, ⟨Z20 HI0⟩, ⟨Z21⟩, ⟨Z22 HI0⟩⟩
    rw [if_neg c9] at H
    have c9b0 : (t2.toList == ([] : List UInt8)) = false := sqe0 c9
    try have c9b8 : t2.toList.isEmpty = false := by (have h_ := c9b0; (repeat rw [sqy] at h_); exact h_)
    have c9b1 : (t2.toList != ([] : List UInt8)) = true := sqn1 c9
    obtain ⟨c0, H⟩ := sqI H
    have LMc0 := sqa c0
    clear c0
    obtain ⟨y1, hy1⟩ : ∃ y_ : List (S38), y_ = (x3_1 ++ [(⟨(rd_T38 t0 x5_1).f0, (rd_T38 t0 x5_1).f1⟩ : S38)]) := ⟨_, rfl⟩
    replace H : (F34.l0 k1 y1 t0 (wrap64 (x5_1 + 1)) s0_0 t1) = some (r1, r2) := sqW hy1 H
    have Ny1 := sqa hy1
    clear hy1
    have H' := sqa H
    clear H
    obtain ⟨Ao1, co1, eo1⟩ := Kd.R_slice O3.1
    subst eo1
    have p0 : 0 ≤ (x5_1 : Int) := of_decide_eq_true Z7
    have q0 : x5_1 < (t0.length : Int) := of_decide_eq_true Z7
    obtain ⟨ad0, e0, hx0, hx1⟩ := at_T38 (Kd.R_reads' O3.1).2.2 x5_1 p0 q0
    cases e0
    replace p0 := eq_true p0
    replace q0 := eq_true q0
    go_wp2_with (first | ((with_reducible refine sqc 122 rfl ?_); refine sqC (some 19) func122 #[.agg #[.int .i64 ((rd_T38 t0 x5_1).f0), .string ((rd_T38 t0 x5_1).f1)]] ?_; (with_reducible refine (F9.c k1 ((rd_T38 t0 x5_1).f0) ((rd_T38 t0 x5_1).f1) t2 _ A8.1).mono ?_); refine sqV fun w2 hb => ?_; replace O2 := sqU O2 hb; replace O3 := sqU O3 hb; replace HK := sqa (KeepBut.trans Z21 (KeepBut.of_below hb g none) (.inl rfl)); replace HB := sqa (below_step (Z22 HI0) hb); replace HI0 := sqa (IsS131.below (Z20 HI0) hb); have p1 : 0 ≤ (x5_1 : Int) := of_decide_eq_true Z7; have q1 : x5_1 < (t0.length : Int) := of_decide_eq_true Z7; obtain ⟨ad1, e1, hx2, hx3⟩ := at_T38 (Kd.R_reads' O3.1).2.2 x5_1 p1 q1; obtain rfl : ad0 = ad1 := (by injection e1); replace p1 := eq_true p1; replace q1 := eq_true q1) | ((with_reducible refine gate_builtin (b := .append) (xs := #[.tmp 21, .tmp 26]) rfl ?_); at_builtin; refine Kd.R_append k38 w.heap.size rfl (.tmp 21) (.tmp 26) 52 38 (.agg #[(.int .i64 0), (.string ⟨#[]⟩)]) 24 rfl underlying52 info38 rfl (by decide) (by omega) u3 x3_1 (⟨(rd_T38 t0 x5_1).f0, (rd_T38 t0 x5_1).f1⟩ : S38) [.int .i64 ((rd_T38 t0 x5_1).f0), .string ((rd_T38 t0 x5_1).f1)] (fun k_ => some k_ ≠ (.slice (some ad0) t0.length co1 : Value).ownBlock) (fun _ => False) rfl rfl ?aP (fun _ hk => hk.elim) ?aF ?aO (Below.refl _ _) ?aS ?aL ?_; (case aP => exact k38_mkM _ _ _ (⟨(rd_T38 t0 x5_1).f0, (rd_T38 t0 x5_1).f1⟩ : S38)); (case aF => exact (fun k_ hk => Kd.fresh' (Kd.R_lt (sqR O3)) k_ hk)); (case aO => exact (sqR O2)); (case aS => exact (keep_size (w := w) (g := g) (row := none) Z21)); (case aL => exact Z15 LMc0); intro v2 w4 ho hb hg hat; rw [← Ny1.out] at ho; replace O3 := sqa (Kd.R_after (ok := (fun _ => True)) (by (with_reducible repeat (first | apply Kd.R_alloc | apply Kd.R_drewN | apply Kd.R_drew)); exact Kd.R_mono O3.1 (fun _ hk => ⟨trivial, hk⟩)) hg hat); replace HB := sqa (below_weaken (Z22 HI0) HL.out hb); replace HI0 := sqa (IsS131.grown (Z20 HI0) hg (IsS131.own_ne HI0.1 O2.1 (by decide))); replace HK := sqa (KeepBut.trans Z21 (KeepBut.of_grown hg g) (Kd.R_base2 O2.1)); have O4 := sqa (ho); clear O2; clear ho hb hg hat))
    go_roundg k1
    case measure => have := HK1.out; omega
    case rel => exact ⟨(y1), (wrap64 (x5_1 + 1)), Z2, H', ⟨Z15 HK1⟩, ⟨sqR O4⟩, ⟨Z82 O3⟩, ⟨Z20 HI0⟩, ⟨Z21⟩, ⟨Z22 HI0⟩⟩
   rw [if_neg c6] at H
   have c6b0 : decide (x5_1 < (t0.length : Int)) = false := decide_eq_false c6
   clear c6
   obtain ⟨rfl, rfl⟩ := sqO2 H
   obtain ⟨Ao2, co2, eo2⟩ := Kd.R_slice O3.1
   subst eo2
   go_wp2
   go_ret
   exact ⟨_, Z14, Z83 O2, Z20 HI0, Z22 HI0, Z21⟩

def F54.f (k : Nat) (s0_0 : List Int) (s0_1 : Int) (a1 : ByteArray) : Option (ByteArray × Int) := if (a1.size : Int) = 0 then (some ((⟨#[10]⟩ : ByteArray), s0_1)) else ((F0.f k s0_0 s0_1 (a1.size : Int)).bind fun bt0 => (if 0 ≤ bt0.1 then (if bt0.1 ≤ (a1.size : Int) then ((some (([(⟨#[]⟩ : ByteArray), (⟨#[48]⟩ : ByteArray), (⟨#[32]⟩ : ByteArray), (⟨#[10]⟩ : ByteArray), (⟨#[45]⟩ : ByteArray), (⟨#[98, 97, 99, 107]⟩ : ByteArray)] : List ByteArray) : List ByteArray)).bind fun y0 => ((F0.f k s0_0 bt0.2 6).bind fun bt1 => (if 0 ≤ bt1.1 then (if bt1.1 < (y0.length : Int) then (if (a1.extract 0 (bt0.1 : Int).toNat).size + (rdOf ByteArray.empty y0 bt1.1).size ≤ 9223372036854775807 then (if 0 ≤ (wrap64 (bt0.1 + 1)) then (if (wrap64 (bt0.1 + 1)) ≤ (a1.size : Int) then (if ((a1.extract 0 (bt0.1 : Int).toNat) ++ (rdOf ByteArray.empty y0 bt1.1)).size + (a1.extract ((wrap64 (bt0.1 + 1)) : Int).toNat a1.size).size ≤ 9223372036854775807 then (some (((a1.extract 0 (bt0.1 : Int).toNat) ++ (rdOf ByteArray.empty y0 bt1.1)) ++ (a1.extract ((wrap64 (bt0.1 + 1)) : Int).toNat a1.size), bt1.2)) else (none)) else (none)) else (none)) else (none)) else (none)) else (none)))) else (none)) else (none)))
theorem F54.m : ∀ a0 a1 a2 k, LeO (F54.f k a0 a1 a2) (F54.f (k + 1) a0 a1 a2) := by
 intro a0 a1 a2 k
 unfold F54.f
 repeat' (with_reducible first | exact F0.m _ _ _ _ | exact LeO.refl _ | exact LeO.none _ | refine LeO.ite ?_ ?_ | refine LeO.bind ?_ fun _ => ?_)
def F54.T4 : Bool × List (List Nat × List Nat) := (true, [([], []), ([], []), ([0, 1], [0, 1]), ([], []), ([], []), ([4], [4]), ([3, 5], [3, 5]), ([6], [6]), ([2, 7], [2, 7]), ([], []), ([], []), ([10], [10]), ([9, 11], [9, 11]), ([8, 12], [8, 12]), ([13, 5, 0, 1, 2, 3, 4, 5, 6, 7, 8, 9, 10, 11, 12, 13], [13])])
def F54.B4 : List Nat := [0, 0, 3, 0, 0, 16, 56, 120, 255, 0, 0, 1024, 3584, 8191, 16383]
theorem F54.tab4 : rtab .any (opsOf f83 4) = F54.T4 := by kernel_rfl
theorem F54.bits4 : waitsOk F54.T4.2 F54.B4 = true := by kernel_rfl
theorem F54.c (k : Nat) (g : Nat) (s0_0 : List Int) (s0_1 : Int) (a1 : ByteArray) (r1 : ByteArray) (r2 : Int) (w0 w : World) (hI : IsS131 w0 w g s0_0 s0_1) (hB : Below w0.heap.size w0 w) (H : F54.f k s0_0 s0_1 a1 = some (r1, r2)) :
  Calls prog 83 #[.pointer (some ⟨g, 0, none⟩), .string a1] w fun e w' => e = .returned (.string r1) ∧ IsS131 w0 w' g s0_0 r2 ∧ Below w0.heap.size w0 w' ∧ KeepBut w w' g none := by
 have HI0 := sqa hI
 have HK := sqa (KeepBut.refl w g none)
 have HL := sqa hB.size
 clear hI
 have HW0 := sqa hB.size
 have HB := sqa hB
 clear hB
 unfold F54.f at H
 by_cases c3 : (a1.size : Int) = 0
 ·rw [if_pos c3] at H
  have c3b0 : ((a1.size : Int) == 0) = true := sqe1 c3
  have c3b1 : ((a1.size : Int) != 0) = false := sqn0 c3
  clear c3
  obtain ⟨rfl, rfl⟩ := sqO2 H
  go_enter func83, ntmps83
  go_wp2
  go_ret
  exact ⟨Z14, Z20 HI0, Z22 HI0, Z21⟩
 rw [if_neg c3] at H
 have c3b0 : ((a1.size : Int) == 0) = false := sqe0 c3
 have c3b1 : ((a1.size : Int) != 0) = true := sqn1 c3
 obtain ⟨⟨t0, t1⟩, A4, H⟩ := sqD H
 try dsimp only at H
 obtain ⟨c5, H⟩ := sqI H
 have c5b0 := eq_true c5
 have c5b1 : decide (0 ≤ t0) = true := decide_eq_true c5
 clear c5
 obtain ⟨c6, H⟩ := sqI H
 have c6b0 := eq_true c6
 have c6b1 : decide (t0 ≤ (a1.size : Int)) = true := decide_eq_true c6
 clear c6
 obtain ⟨y0, hy0⟩ : ∃ y_ : List ByteArray, y_ = (([(⟨#[]⟩ : ByteArray), (⟨#[48]⟩ : ByteArray), (⟨#[32]⟩ : ByteArray), (⟨#[10]⟩ : ByteArray), (⟨#[45]⟩ : ByteArray), (⟨#[98, 97, 99, 107]⟩ : ByteArray)] : List ByteArray)) := ⟨_, rfl⟩
 replace H : ((F0.f k s0_0 t1 6).bind fun bt0 => (if 0 ≤ bt0.1 then (if bt0.1 < (y0.length : Int) then (if (a1.extract 0 (t0 : Int).toNat).size + (rdOf ByteArray.empty y0 bt0.1).size ≤ 9223372036854775807 then (if 0 ≤ (wrap64 (t0 + 1)) then (if (wrap64 (t0 + 1)) ≤ (a1.size : Int) then (if ((a1.extract 0 (t0 : Int).toNat) ++ (rdOf ByteArray.empty y0 bt0.1)).size + (a1.extract ((wrap64 (t0 + 1)) : Int).toNat a1.size).size ≤ 9223372036854775807 then (some (((a1.extract 0 (t0 : Int).toNat) ++ (rdOf ByteArray.empty y0 bt0.1)) ++ (a1.extract ((wrap64 (t0 + 1)) : Int).toNat a1.size), bt0.2)) else (none)) else (none)) else (none)) else (none)) else (none)) else (none))) = some (r1, r2) := sqW hy0 H
 have Ny0 := sqa hy0
 clear hy0
 obtain ⟨⟨t2, t3⟩, A7, H⟩ := sqD H
 try dsimp only at H
 obtain ⟨c8, H⟩ := sqI H
 have c8b0 : decide (0 ≤ t2) = true := decide_eq_true c8
 clear c8
 obtain ⟨c9, H⟩ := sqI H
 have c9b0 : decide (t2 < (y0.length : Int)) = true := decide_eq_true c9
 clear c9
 obtain ⟨c10, H⟩ := sqI H
 have c0 := eq_true c10
 have c1 : decide ((a1.extract 0 (t0 : Int).toNat).size + (rdOf ByteArray.empty y0 t2).size ≤ 9223372036854775807) = true := decide_eq_true c10
 try have c2 : (9223372036854775807 < (a1.extract 0 (t0 : Int).toNat).size + (rdOf ByteArray.empty y0 t2).size) = False := eq_false (Nat.not_lt.2 c10)
 obtain ⟨ji0, hji0⟩ : ∃ j_ : Int, (wrap64 (t0 + 1)) = j_ := ⟨_, rfl⟩
 replace H : (if 0 ≤ (ji0) then (if (ji0) ≤ (a1.size : Int) then (if ((a1.extract 0 (t0 : Int).toNat) ++ (rdOf ByteArray.empty y0 t2)).size + (a1.extract ((ji0) : Int).toNat a1.size).size ≤ 9223372036854775807 then (some (((a1.extract 0 (t0 : Int).toNat) ++ (rdOf ByteArray.empty y0 t2)) ++ (a1.extract ((ji0) : Int).toNat a1.size), t3)) else (none)) else (none)) else (none)) = some (r1, r2) := by first | (rw [hji0] at H; exact H) | (simp only [hji0] at H ⊢; exact H)
 (try rw [hji0] at A4)
 (try rw [hji0] at A7)
 have hji1 : (IntKind.i64.wrap (t0 + 1)) = ji0 := (i64_w _).trans hji0
 obtain ⟨c4, H⟩ := sqI H
 have c7 := eq_true c4
 have c11 : decide (0 ≤ (ji0)) = true := decide_eq_true c4
 clear c4
 obtain ⟨c13, H⟩ := sqI H
 have c16 := eq_true c13
 have c17 : decide ((ji0) ≤ (a1.size : Int)) = true := decide_eq_true c13
 clear c13
 obtain ⟨c14, H⟩ := sqI H
 have c19 := eq_true c14
 have c20 : decide (((a1.extract 0 (t0 : Int).toNat) ++ (rdOf ByteArray.empty y0 t2)).size + (a1.extract ((ji0) : Int).toNat a1.size).size ≤ 9223372036854775807) = true := decide_eq_true c14
 try have c21 : (9223372036854775807 < ((a1.extract 0 (t0 : Int).toNat) ++ (rdOf ByteArray.empty y0 t2)).size + (a1.extract ((ji0) : Int).toNat a1.size).size) = False := eq_false (Nat.not_lt.2 c14)
 try have c22 : (9223372036854775807 < (a1.extract 0 (t0 : Int).toNat).size + (rdOf ByteArray.empty y0 t2).size + (a1.extract ((ji0) : Int).toNat a1.size).size) = False := by (have h_ := c21; (repeat rw [ByteArray.size_append] at h_); exact h_)
 obtain ⟨rfl, rfl⟩ := sqO2 H
 go_enter func83, ntmps83
 try go_wp2_with (first | ((with_reducible refine sqc 82 rfl ?_); refine sqC (some 12) func82 #[.pointer (some ⟨g, 0, none⟩), .int .i64 (a1.size : Int)] ?_; (with_reducible refine (F0.c k g s0_0 s0_1 (a1.size : Int) t0 t1 w0 _ ?side1 ?side2 A4.1).mono ?_); (case side1 => exact Z20 HI0); (case side2 => exact Z22 HI0); rintro e w2 ⟨rfl, hi, hb, hk⟩; refine ⟨_, rfl, ?_⟩; replace HK := sqa (KeepBut.trans Z21 hk (.inl rfl)); replace HB := sqa (hb); replace HI0 := sqa (hi)))
 have pi0 : (0 ≤ (t2 : Int)) = True := eq_true (of_decide_eq_true Z7)
 have qi0 : (t2 < (y0.length : Int)) = True := eq_true (of_decide_eq_true Z7)
 replace HI0 := sqa (IsS131.drew HI0.1)
 replace HK := sqa (keep_drew HK.out)
 replace HB := sqa (below_drew1 HB.1)
 refine start_ (n := 15) (S := fun w' => True) (ds := []) #[false, false, false, false, false, false, false, false, false, false, false, false, false, false, false] (by kernel_rfl) rfl rfl trivial (fun hHeld => ?_); refine with_tabW F54.tab4 F54.bits4 (fun HT_ HW_ => ?_)
 generalize w2.drew = w3 at HI0 HK HB hHeld ⊢
 refine sqP 0 (some 13) (h := ?_)
 refine sqP 1 (some 14) (h := ?_)
 refine sqP 4 (some 17) (h := ?_)
 refine sqP 9 (some 22) (h := ?_)
 refine sqP 10 (some 23) (h := ?_)
 refine inv_at [2, 3, 5, 6, 7, 8, 11, 12, 13, 14] (fun a0_ b a w' => ∃ (v0 : Value) (adz_v0 : Addr) (m6_ : Value), a = putSel a0_ b [(2, 15, .string (a1.extract 0 (t0 : Int).toNat)), (3, 16, v0), (5, 18, .int .i64 t2), (6, 19, m6_), (7, 20, .string (rdOf ByteArray.empty y0 t2)), (8, 21, .string ((a1.extract 0 (t0 : Int).toNat) ++ (rdOf ByteArray.empty y0 t2))), (11, 24, .int .i64 ji0), (12, 25, .string (a1.extract ((ji0) : Int).toNat a1.size)), (13, 26, .string (((a1.extract 0 (t0 : Int).toNat) ++ (rdOf ByteArray.empty y0 t2)) ++ (a1.extract ((ji0) : Int).toNat a1.size))), (14, 4, .string (((a1.extract 0 (t0 : Int).toNat) ++ (rdOf ByteArray.empty y0 t2)) ++ (a1.extract ((ji0) : Int).toNat a1.size)))] ∧ (b 5 = false → IsS131 w0 w' g s0_0 t1) ∧ (KeepBut w w' g none) ∧ (Below w0.heap.size w0 w') ∧ (b 3 = true → Kd.R Kd.string 9 w' w.heap.size (fun _ => True) v0 y0) ∧ (b 3 = true → ∃ c_, (v0 : Value) = .slice (some adz_v0) y0.length c_) ∧ (b 5 = true → IsS131 w0 w' g s0_0 t3) ∧ (b 6 = true → (m6_ : Value) = .pointer (some (adz_v0.add (t2).toNat)))) HT_.out HW_.out (by kernel_rfl) (by kernel_rfl) ?_ ?_ ?_
 ·exact ⟨.bool false, ⟨0, 0, none⟩, .bool false, by simp only [putSel, Bool.false_eq_true, if_false], fun _ => HI0.1, HK.out, HB.1, fun h_ => absurd h_ (by decide), fun h_ => absurd h_ (by decide), fun h_ => absurd h_ (by decide), fun h_ => absurd h_ (by decide)⟩
 ·skip
  clear HB HI0 HK
  refine steps_cons ?_ ?_
  ·rintro b a w' ⟨v0, adz_v0, m6_, ha, Q_HI0, Q_HK, Q_HB, Q_HO562, Q_HA_HO0, Q_HI0_e5, Q_X6_⟩ hb_ hon hoff
   refine ⟨_, rfl, fun K hK => ?_⟩
   have e0 : a.tmps[13]? = some (.string a1) := by rw [ha]; exact (putSel_off rfl).trans rfl
   have e1 : a.tmps[14]? = some (.int .i64 t0) := by rw [ha]; exact (putSel_off rfl).trans rfl
   replace ha := sqa ha
   have HK := sqa Q_HK
   have HB := sqa Q_HB
   refine value_ (w1 := w') (v := .string (a1.extract 0 (t0 : Int).toNat)) (by rfl) rfl ?_ ?_
   ·go_simp
    (try simp only [i64_w])
    try rfl
    all_goals ((try have hc0 := of_eq_true c7); (try have hc1 := of_eq_true c16); (try have hc5_ := of_eq_true c5b0); (try have hc6_ := of_eq_true c6b0); (try simp only [ByteArray.size_append, ByteArray.size_extract] at c10); (try simp only [ByteArray.size_append, ByteArray.size_extract] at c14); omega)
   refine hK.out _ _ ⟨v0, adz_v0, m6_, (by rw [ha.out]; exact putSel_upk 0 hb_ rfl rfl rfl), Q_HI0, Q_HK, Q_HB, Q_HO562, Q_HA_HO0, Q_HI0_e5, Q_X6_⟩
  refine steps_cons ?_ ?_
  ·rintro b a w' ⟨v0, adz_v0, m6_, ha, Q_HI0, Q_HK, Q_HB, Q_HO562, Q_HA_HO0, Q_HI0_e5, Q_X6_⟩ hb_ hon hoff
   refine ⟨_, rfl, fun K hK => ?_⟩
   replace ha := sqa ha
   have HK := sqa Q_HK
   have HB := sqa Q_HB
   refine Kd.R_lit_step Kd.string _ 9 ?hg (N := 16) ?hd (xs := ([(⟨#[]⟩ : ByteArray), (⟨#[48]⟩ : ByteArray), (⟨#[32]⟩ : ByteArray), (⟨#[10]⟩ : ByteArray), (⟨#[45]⟩ : ByteArray), (⟨#[98, 97, 99, 107]⟩ : ByteArray)] : List ByteArray)) (inner := [.string (⟨#[]⟩ : ByteArray), .string (⟨#[48]⟩ : ByteArray), .string (⟨#[32]⟩ : ByteArray), .string (⟨#[10]⟩ : ByteArray), .string (⟨#[45]⟩ : ByteArray), .string (⟨#[98, 97, 99, 107]⟩ : ByteArray)]) (ok := fun _ => True) (okp := fun _ => True) ?hr ?hp (fun _ hk => hk) trivial (Below.refl _ _) (Nat.le_refl _) (by simp) ?_; (case hd => rfl); (case hg => rfl); (case hr => exact Z8); (case hp => exact (Reps.one (show Kd.M Kd.string _ _ _ (⟨#[]⟩ : ByteArray) [.string (⟨#[]⟩ : ByteArray)] from rfl) (Reps.one (show Kd.M Kd.string _ _ _ (⟨#[48]⟩ : ByteArray) [.string (⟨#[48]⟩ : ByteArray)] from rfl) (Reps.one (show Kd.M Kd.string _ _ _ (⟨#[32]⟩ : ByteArray) [.string (⟨#[32]⟩ : ByteArray)] from rfl) (Reps.one (show Kd.M Kd.string _ _ _ (⟨#[10]⟩ : ByteArray) [.string (⟨#[10]⟩ : ByteArray)] from rfl) (Reps.one (show Kd.M Kd.string _ _ _ (⟨#[45]⟩ : ByteArray) [.string (⟨#[45]⟩ : ByteArray)] from rfl) (Reps.one (show Kd.M Kd.string _ _ _ (⟨#[98, 97, 99, 107]⟩ : ByteArray) [.string (⟨#[98, 97, 99, 107]⟩ : ByteArray)] from rfl) (Reps.none _ _))))))))
   intro v0 w4 ho0 hb hg_ hnew_
   clear hg_ hnew_
   (first | rw [← Ny0.out] at ho0 | (simp only [Int.reduceToNat] at ho0; rw [← Ny0.out] at ho0))
   have n0_ := sqa (Kd.R_lower ho0 (keep_size (w := w) (g := g) (row := none) Z21))
   have n2_ := sqa (KeepBut.trans Z21 (KeepBut.of_below hb g none) (.inl rfl))
   have n3_ := sqS (sqB HB) hb
   have z_HI0 := fun (h0_ : b 5 = false) => (show IsS131 w0 w4 g s0_0 t1 from by first | exact (IsS131.below (by repeat (first | (with_reducible first | exact (Q_HI0 h0_) | apply IsS131.alloc | apply IsS131.drewN | apply IsS131.drew | apply IsS131.set_1) | exact (Q_HI0 h0_))) hb))
   have z_HI0_e5 := fun (h0_ : b 5 = true) => (show IsS131 w0 w4 g s0_0 t3 from by first | exact (IsS131.below (by repeat (first | (with_reducible first | exact (Q_HI0_e5 h0_) | apply IsS131.alloc | apply IsS131.drewN | apply IsS131.drew | apply IsS131.set_1) | exact (Q_HI0_e5 h0_))) hb))
   clear HK
   clear HB
   have O0 := n0_
   have HK := n2_
   have HB := n3_
   clear n0_ n2_ n3_
   clear hb ho0
   obtain ⟨Ao0, co0, eo0⟩ := Kd.R_slice O0.1
   subst eo0
   obtain ⟨ado0, fo0, _⟩ := Kd.at_string (Kd.R_reads' O0.1).2.2 0 (by decide) (by rw [Ny0.out]; simp)
   cases fo0
   refine hK.out _ _ ⟨.slice (some ado0) y0.length co0, ado0, m6_, (by rw [ha.out]; exact putSel_upk 1 hb_ rfl rfl rfl), z_HI0, Z21, (sqB HB), fun _ => (sqR O0), fun _ => ⟨_, rfl⟩, z_HI0_e5, fun h0_ => absurd ((hoff 6 (by kernel_rfl)).symm.trans h0_) (by decide)⟩
  refine steps_cons ?_ ?_
  ·rintro b a w' ⟨v0, adz_v0, m6_, ha, Q_HI0, Q_HK, Q_HB, Q_HO562, Q_HA_HO0, Q_HI0_e5, Q_X6_⟩ hb_ hon hoff
   refine ⟨_, rfl, fun K hK => ?_⟩
   have e2 : a.tmps[17]? = some (.pointer (some ⟨g, 0, none⟩)) := by rw [ha]; exact (putSel_off rfl).trans rfl
   replace ha := sqa ha
   have HI0 := sqa (Q_HI0 hb_)
   have HK := sqa Q_HK
   have HB := sqa Q_HB
   refine goes_ func82 (by kernel_rfl) rfl #[.pointer (some ⟨g, 0, none⟩), .int .i64 6] (by rfl) rfl rfl (by first | (simp only [List.map_toArray, List.map_cons, List.map_nil, Act.eval, Array.getD_eq_getD_getElem?, Option.getD_some, e2]; done) | (simp only [List.map_toArray, List.map_cons, List.map_nil, Act.eval, Array.getD_eq_getD_getElem?, Option.getD_some, e2]; rfl)) ?_
   with_reducible refine (F0.c k g s0_0 t1 6 t2 t3 w0 _ ?side1 ?side2 A7.1).mono ?_
   (case side1 => exact Z20 HI0)
   (case side2 => exact Z22 HI0)
   rintro e w4 ⟨rfl, hi, hb, hk⟩
   refine ⟨_, rfl, ?_⟩
   have n0_ := sqa (KeepBut.trans Z21 hk (.inl rfl))
   have n1_ := sqa (hb)
   have n2_ := sqa (hi)
   have z_HO0 := fun (h0_ : b 3 = true) => (show Kd.R Kd.string 9 w4 w.heap.size (fun _ => True) v0 y0 from by first | exact (Kd.R_mono (Kd.R_keep (IsS131.apart (show IsS131 w0 _ g s0_0 t1 from by repeat (first | (with_reducible first | exact HI0.1 | apply IsS131.alloc | apply IsS131.drewN | apply IsS131.drew | apply IsS131.set_1) | exact HI0.1)) Z84 (by decide)) hk (fun _ h => h.2)) (fun _ h => h.1)) | exact Kd.R_mono (Kd.R_mono (Kd.R_keep (IsS131.apart (show IsS131 w0 _ g s0_0 t1 from by repeat (first | (with_reducible first | exact HI0.1 | apply IsS131.alloc | apply IsS131.drewN | apply IsS131.drew | apply IsS131.set_1) | exact HI0.1)) Z84 (by decide)) hk (fun _ h => h.2)) (fun _ h => h.1)) (fun _ h_ => by first | trivial | exact h_ | exact h_.1))
   clear HK
   clear HB
   clear HI0
   have HK := n0_
   have HB := n1_
   have HI0 := n2_
   clear n0_ n1_ n2_
   refine hK.out _ _ ⟨v0, adz_v0, m6_, (by rw [ha.out]; exact putSel_upk 2 hb_ rfl rfl rfl), fun h0_ => absurd ((up_self b 5).symm.trans h0_) (by decide), Z21, (Z22 HI0), z_HO0, Q_HA_HO0, fun _ => (Z20 HI0), fun h0_ => absurd ((hoff 6 (by kernel_rfl)).symm.trans h0_) (by decide)⟩
  refine steps_cons ?_ ?_
  ·rintro b a w' ⟨v0, adz_v0, m6_, ha, Q_HI0, Q_HK, Q_HB, Q_HO562, Q_HA_HO0, Q_HI0_e5, Q_X6_⟩ hb_ hon hoff
   refine ⟨_, rfl, fun K hK => ?_⟩
   have e3 : a.tmps[16]? = some (v0) := by rw [ha]; exact putSel_on (e := (3, 16, v0)) 1 rfl rfl (hon 3 (by kernel_rfl)) rfl
   have e4 : a.tmps[18]? = some (.int .i64 t2) := by rw [ha]; exact putSel_on (e := (5, 18, .int .i64 t2)) 2 rfl rfl (hon 5 (by kernel_rfl)) rfl
   replace ha := sqa ha
   have HK := sqa Q_HK
   have HB := sqa Q_HB
   have O0 := sqa (Q_HO562 (hon 3 (by kernel_rfl)))
   have HA_HO0 := sqa (Q_HA_HO0 (hon 3 (by kernel_rfl)))
   have HI0 := sqa (Q_HI0_e5 (hon 5 (by kernel_rfl)))
   obtain ⟨c_, hv_⟩ := HA_HO0.out
   rw [hv_] at e3
   refine value_ (w1 := w') (v := .pointer (some (adz_v0.add (t2).toNat))) (by rfl) rfl ?_ ?_
   ·go_simp
    (try simp only [i64_w])
    try rfl
    all_goals ((try have hc0 := of_eq_true c7); (try have hc1 := of_eq_true c16); (try have hc5_ := of_eq_true c5b0); (try have hc6_ := of_eq_true c6b0); (try simp only [ByteArray.size_append, ByteArray.size_extract] at c10); (try simp only [ByteArray.size_append, ByteArray.size_extract] at c14); omega)
   refine hK.out _ _ ⟨v0, adz_v0, (.pointer (some (adz_v0.add (t2).toNat))), (by rw [ha.out]; exact putSel_upk 3 hb_ rfl rfl rfl), fun h0_ => absurd ((hon 5 (by kernel_rfl)).symm.trans h0_) (by decide), Q_HK, Q_HB, Q_HO562, Q_HA_HO0, Q_HI0_e5, fun _ => rfl⟩
  refine steps_cons ?_ ?_
  ·rintro b a w' ⟨v0, adz_v0, m6_, ha, Q_HI0, Q_HK, Q_HB, Q_HO562, Q_HA_HO0, Q_HI0_e5, Q_X6_⟩ hb_ hon hoff
   refine ⟨_, rfl, fun K hK => ?_⟩
   have e5 : a.tmps[19]? = some (m6_) := by rw [ha]; exact putSel_on (e := (6, 19, m6_)) 3 rfl rfl (hon 6 (by kernel_rfl)) rfl
   rw [Q_X6_ (hon 6 (by kernel_rfl))] at e5
   replace ha := sqa ha
   have HK := sqa Q_HK
   have HB := sqa Q_HB
   have O0 := sqa (Q_HO562 (hon 3 (by kernel_rfl)))
   have HA_HO0 := sqa (Q_HA_HO0 (hon 3 (by kernel_rfl)))
   have HI0 := sqa (Q_HI0_e5 (hon 5 (by kernel_rfl)))
   obtain ⟨c_, hv_⟩ := HA_HO0.out
   have hF_ := O0.1
   rw [hv_] at hF_
   obtain ⟨ad_, ea_, hx_⟩ := Kd.at_string (Kd.R_reads' hF_).2.2 t2 (of_eq_true pi0) (of_eq_true qi0)
   cases ea_
   refine value_ (w1 := w') (v := .string (rdOf ByteArray.empty y0 t2)) (by rfl) rfl ?_ ?_
   ·go_simp
    (try simp only [i64_w])
    try rfl
    all_goals ((try have hc0 := of_eq_true c7); (try have hc1 := of_eq_true c16); (try have hc5_ := of_eq_true c5b0); (try have hc6_ := of_eq_true c6b0); (try simp only [ByteArray.size_append, ByteArray.size_extract] at c10); (try simp only [ByteArray.size_append, ByteArray.size_extract] at c14); omega)
   refine hK.out _ _ ⟨v0, adz_v0, m6_, (by rw [ha.out]; exact putSel_upk 4 hb_ rfl rfl rfl), fun h0_ => absurd ((hon 5 (by kernel_rfl)).symm.trans h0_) (by decide), Q_HK, Q_HB, Q_HO562, Q_HA_HO0, Q_HI0_e5, Q_X6_⟩
  refine steps_cons ?_ ?_
  ·rintro b a w' ⟨v0, adz_v0, m6_, ha, Q_HI0, Q_HK, Q_HB, Q_HO562, Q_HA_HO0, Q_HI0_e5, Q_X6_⟩ hb_ hon hoff
   refine ⟨_, rfl, fun K hK => ?_⟩
   have e6 : a.tmps[15]? = some (.string (a1.extract 0 (t0 : Int).toNat)) := by rw [ha]; exact putSel_on (e := (2, 15, .string (a1.extract 0 (t0 : Int).toNat))) 0 rfl rfl (hon 2 (by kernel_rfl)) rfl
   have e7 : a.tmps[20]? = some (.string (rdOf ByteArray.empty y0 t2)) := by rw [ha]; exact putSel_on (e := (7, 20, .string (rdOf ByteArray.empty y0 t2))) 4 rfl rfl (hon 7 (by kernel_rfl)) rfl
   replace ha := sqa ha
   have HK := sqa Q_HK
   have HB := sqa Q_HB
   have O0 := sqa (Q_HO562 (hon 3 (by kernel_rfl)))
   have HA_HO0 := sqa (Q_HA_HO0 (hon 3 (by kernel_rfl)))
   have HI0 := sqa (Q_HI0_e5 (hon 5 (by kernel_rfl)))
   refine value_ (w1 := w') (v := .string ((a1.extract 0 (t0 : Int).toNat) ++ (rdOf ByteArray.empty y0 t2))) (by rfl) rfl ?_ ?_
   ·go_simp
    (try simp only [i64_w])
    try rfl
    all_goals ((try have hc0 := of_eq_true c7); (try have hc1 := of_eq_true c16); (try have hc5_ := of_eq_true c5b0); (try have hc6_ := of_eq_true c6b0); (try simp only [ByteArray.size_append, ByteArray.size_extract] at c10); (try simp only [ByteArray.size_append, ByteArray.size_extract] at c14); omega)
   refine hK.out _ _ ⟨v0, adz_v0, m6_, (by rw [ha.out]; exact putSel_upk 5 hb_ rfl rfl rfl), fun h0_ => absurd ((hon 5 (by kernel_rfl)).symm.trans h0_) (by decide), Q_HK, Q_HB, Q_HO562, Q_HA_HO0, Q_HI0_e5, Q_X6_⟩
  refine steps_cons ?_ ?_
  ·rintro b a w' ⟨v0, adz_v0, m6_, ha, Q_HI0, Q_HK, Q_HB, Q_HO562, Q_HA_HO0, Q_HI0_e5, Q_X6_⟩ hb_ hon hoff
   refine ⟨_, rfl, fun K hK => ?_⟩
   have e8 : a.tmps[23]? = some (.int .i64 t0) := by rw [ha]; exact (putSel_off rfl).trans rfl
   replace ha := sqa ha
   have HK := sqa Q_HK
   have HB := sqa Q_HB
   refine value_ (w1 := w') (v := .int .i64 ji0) (by rfl) rfl ?_ ?_
   ·go_simp
    (try simp only [i64_w])
    try rfl
    all_goals ((try have hc0 := of_eq_true c7); (try have hc1 := of_eq_true c16); (try have hc5_ := of_eq_true c5b0); (try have hc6_ := of_eq_true c6b0); (try simp only [ByteArray.size_append, ByteArray.size_extract] at c10); (try simp only [ByteArray.size_append, ByteArray.size_extract] at c14); omega)
   refine hK.out _ _ ⟨v0, adz_v0, m6_, (by rw [ha.out]; exact putSel_upk 6 hb_ rfl rfl rfl), Q_HI0, Q_HK, Q_HB, Q_HO562, Q_HA_HO0, Q_HI0_e5, Q_X6_⟩
  refine steps_cons ?_ ?_
  ·rintro b a w' ⟨v0, adz_v0, m6_, ha, Q_HI0, Q_HK, Q_HB, Q_HO562, Q_HA_HO0, Q_HI0_e5, Q_X6_⟩ hb_ hon hoff
   refine ⟨_, rfl, fun K hK => ?_⟩
   have e9 : a.tmps[22]? = some (.string a1) := by rw [ha]; exact (putSel_off rfl).trans rfl
   have e24 : a.tmps[24]? = some (.int .i64 ji0) := by rw [ha]; exact putSel_on (e := (11, 24, .int .i64 ji0)) 6 rfl rfl (hon 11 (by kernel_rfl)) rfl
   replace ha := sqa ha
   have HK := sqa Q_HK
   have HB := sqa Q_HB
   refine value_ (w1 := w') (v := .string (a1.extract ((ji0) : Int).toNat a1.size)) (by rfl) rfl ?_ ?_
   ·go_simp
    (try simp only [i64_w])
    try rfl
    all_goals ((try have hc0 := of_eq_true c7); (try have hc1 := of_eq_true c16); (try have hc5_ := of_eq_true c5b0); (try have hc6_ := of_eq_true c6b0); (try simp only [ByteArray.size_append, ByteArray.size_extract] at c10); (try simp only [ByteArray.size_append, ByteArray.size_extract] at c14); omega)
   refine hK.out _ _ ⟨v0, adz_v0, m6_, (by rw [ha.out]; exact putSel_upk 7 hb_ rfl rfl rfl), Q_HI0, Q_HK, Q_HB, Q_HO562, Q_HA_HO0, Q_HI0_e5, Q_X6_⟩
  refine steps_cons ?_ ?_
  ·rintro b a w' ⟨v0, adz_v0, m6_, ha, Q_HI0, Q_HK, Q_HB, Q_HO562, Q_HA_HO0, Q_HI0_e5, Q_X6_⟩ hb_ hon hoff
   refine ⟨_, rfl, fun K hK => ?_⟩
   have e21 : a.tmps[21]? = some (.string ((a1.extract 0 (t0 : Int).toNat) ++ (rdOf ByteArray.empty y0 t2))) := by rw [ha]; exact putSel_on (e := (8, 21, .string ((a1.extract 0 (t0 : Int).toNat) ++ (rdOf ByteArray.empty y0 t2)))) 5 rfl rfl (hon 8 (by kernel_rfl)) rfl
   have e25 : a.tmps[25]? = some (.string (a1.extract ((ji0) : Int).toNat a1.size)) := by rw [ha]; exact putSel_on (e := (12, 25, .string (a1.extract ((ji0) : Int).toNat a1.size))) 7 rfl rfl (hon 12 (by kernel_rfl)) rfl
   replace ha := sqa ha
   have HK := sqa Q_HK
   have HB := sqa Q_HB
   have O0 := sqa (Q_HO562 (hon 3 (by kernel_rfl)))
   have HA_HO0 := sqa (Q_HA_HO0 (hon 3 (by kernel_rfl)))
   have HI0 := sqa (Q_HI0_e5 (hon 5 (by kernel_rfl)))
   refine value_ (w1 := w') (v := .string (((a1.extract 0 (t0 : Int).toNat) ++ (rdOf ByteArray.empty y0 t2)) ++ (a1.extract ((ji0) : Int).toNat a1.size))) (by rfl) rfl ?_ ?_
   ·go_simp
    (try simp only [i64_w])
    try rfl
    all_goals ((try have hc0 := of_eq_true c7); (try have hc1 := of_eq_true c16); (try have hc5_ := of_eq_true c5b0); (try have hc6_ := of_eq_true c6b0); (try simp only [ByteArray.size_append, ByteArray.size_extract] at c10); (try simp only [ByteArray.size_append, ByteArray.size_extract] at c14); omega)
   refine hK.out _ _ ⟨v0, adz_v0, m6_, (by rw [ha.out]; exact putSel_upk 8 hb_ rfl rfl rfl), fun h0_ => absurd ((hon 5 (by kernel_rfl)).symm.trans h0_) (by decide), Q_HK, Q_HB, Q_HO562, Q_HA_HO0, Q_HI0_e5, Q_X6_⟩
  refine steps_cons ?_ ?_
  ·rintro b a w' ⟨v0, adz_v0, m6_, ha, Q_HI0, Q_HK, Q_HB, Q_HO562, Q_HA_HO0, Q_HI0_e5, Q_X6_⟩ hb_ hon hoff
   refine ⟨_, rfl, fun K hK => ?_⟩
   have e26 : a.tmps[26]? = some (.string (((a1.extract 0 (t0 : Int).toNat) ++ (rdOf ByteArray.empty y0 t2)) ++ (a1.extract ((ji0) : Int).toNat a1.size))) := by rw [ha]; exact putSel_on (e := (13, 26, .string (((a1.extract 0 (t0 : Int).toNat) ++ (rdOf ByteArray.empty y0 t2)) ++ (a1.extract ((ji0) : Int).toNat a1.size)))) 8 rfl rfl (hon 13 (by kernel_rfl)) rfl
   replace ha := sqa ha
   have HK := sqa Q_HK
   have HB := sqa Q_HB
   have O0 := sqa (Q_HO562 (hon 3 (by kernel_rfl)))
   have HA_HO0 := sqa (Q_HA_HO0 (hon 3 (by kernel_rfl)))
   have HI0 := sqa (Q_HI0_e5 (hon 5 (by kernel_rfl)))
   refine value_ (w1 := w') (v := .string (((a1.extract 0 (t0 : Int).toNat) ++ (rdOf ByteArray.empty y0 t2)) ++ (a1.extract ((ji0) : Int).toNat a1.size))) (by rfl) rfl ?_ ?_
   ·go_simp
    (try simp only [i64_w])
    try rfl
    all_goals ((try have hc0 := of_eq_true c7); (try have hc1 := of_eq_true c16); (try have hc5_ := of_eq_true c5b0); (try have hc6_ := of_eq_true c6b0); (try simp only [ByteArray.size_append, ByteArray.size_extract] at c10); (try simp only [ByteArray.size_append, ByteArray.size_extract] at c14); omega)
   refine hK.out _ _ ⟨v0, adz_v0, m6_, (by rw [ha.out]; exact putSel_upk 9 hb_ rfl rfl rfl), fun h0_ => absurd ((hon 5 (by kernel_rfl)).symm.trans h0_) (by decide), Q_HK, Q_HB, Q_HO562, Q_HA_HO0, Q_HI0_e5, Q_X6_⟩
  exact steps_nil
 rintro b a w5 hall ⟨v0, adz_v0, m6_, ha, Q_HI0, Q_HK, Q_HB, Q_HO562, Q_HA_HO0, Q_HI0_e5, Q_X6_⟩
 clear HB HI0 HK
 have hb2_ := hall 2 (by kernel_rfl)
 have hb3_ := hall 3 (by kernel_rfl)
 have hb5_ := hall 5 (by kernel_rfl)
 have hb6_ := hall 6 (by kernel_rfl)
 have hb7_ := hall 7 (by kernel_rfl)
 have hb8_ := hall 8 (by kernel_rfl)
 have hb0 := hall 11 (by kernel_rfl)
 have hb1 := hall 12 (by kernel_rfl)
 have hb3 := hall 13 (by kernel_rfl)
 have hb4 := hall 14 (by kernel_rfl)
 subst ha
 obtain rfl := Q_X6_ hb6_
 simp only [putSel, hb2_, hb3_, hb5_, hb6_, hb7_, hb8_, hb0, hb1, hb3, hb4, if_true, Act.put, List.setIfInBounds_toArray, List.set_cons_zero, List.set_cons_succ]
 clear Q_HI0
 have HK := sqa Q_HK
 clear Q_HK
 have HB := sqa Q_HB
 clear Q_HB
 have O0 := sqa (Q_HO562 hb3_)
 clear Q_HO562
 have HA_HO0 := sqa (Q_HA_HO0 hb3_)
 clear Q_HA_HO0
 have HI0 := sqa (Q_HI0_e5 hb5_)
 clear Q_HI0_e5
 clear hall hb2_ hb3_ hb5_ hb6_ hb7_ hb8_ hb0 hb1 hb3 hb4
 obtain ⟨co1, eo1⟩ := HA_HO0.out
 clear HA_HO0
 subst eo1
 try go_wp2
 go_ret
 exact ⟨by first | rfl | (simp [errP_none, errP_some] <;> rfl) | (simp only [← hji0]; first | rfl | (simp [errP_none, errP_some] <;> rfl)) | (simp [*, errP_none, errP_some] <;> rfl), Z20 HI0, Z22 HI0, Z21⟩

def F78.f (k : Nat) (l0 : List Int) : Option (ByteArray) := (F80.f l0).bind fun bt0 => ((F34.f k bt0.1 bt0.2).bind fun bt1 => ((F30.f k bt1.1).bind fun t0 => ((F0.f k bt0.1 bt1.2 3).bind fun bt2 => (if bt2.1 = 0 then ((F54.f k bt0.1 bt2.2 t0).bind fun bt3 => (some bt3.1)) else (if bt2.1 = 1 then ((F0.f k bt0.1 bt2.2 (wrap64 ((t0.size : Int) + 1))).bind fun bt4 => (if 0 ≤ bt4.1 then (if bt4.1 ≤ (t0.size : Int) then (some (t0.extract 0 (bt4.1 : Int).toNat)) else (none)) else (none))) else (some t0))))))
theorem F78.m : ∀ a0 k, LeO (F78.f k a0) (F78.f (k + 1) a0) := by
 intro a0 k
 unfold F78.f
 repeat' (with_reducible first | exact F30.m _ _ | exact F0.m _ _ _ _ | exact F54.m _ _ _ _ | exact F34.m _ _ _ | exact LeO.refl _ | exact LeO.none _ | refine LeO.ite ?_ ?_ | refine LeO.bind ?_ fun _ => ?_)
theorem F78.c (k : Nat) (A0 : Option Addr) (c0 : Nat) (l0 : List Int) (r : ByteArray) (w : World) (hr0 : Kd.C (Kd.int .u8) w A0 l0.length l0) (hc0 : l0.length ≤ c0) (H : F78.f k l0 = some r) :
  Calls prog 36 #[.slice A0 l0.length c0] w fun e w' => e = .returned (.string r) ∧ Below w.heap.size w w' := by
 have HR0 := sqa hr0
 have HC0 := sqa hc0
 clear hr0 hc0
 have HB := sqh w
 unfold F78.f at H
 obtain ⟨⟨t0, t1⟩, A2, H⟩ := sqD H
 try dsimp only at H
 obtain ⟨⟨t2, t3⟩, A3, H⟩ := sqD H
 try dsimp only at H
 obtain ⟨t4, A4, H⟩ := sqD H
 obtain ⟨⟨t5, t6⟩, A5, H⟩ := sqD H
 try dsimp only at H
 by_cases c6 : t5 = 0
 ·rw [if_pos c6] at H
  have c6b0 : (t5 == 0) = true := sqe1 c6
  have c6b1 : (t5 != 0) = false := sqn0 c6
  clear c6
  obtain ⟨⟨t7, t8⟩, A7, H⟩ := sqD H
  try dsimp only at H
  obtain rfl := sqo H
  go_enter func36, ntmps36
  go_wp2_with (first | ((with_reducible refine sqc 66 rfl ?_); refine sqC (some 6) func66 #[.slice A0 l0.length c0] ?_; (with_reducible refine (F80.c _ _ l0 t0 t1 w _ ?side1 ?side2 ?side3 A2.1).mono ?_); (case side1 => exact Z85); (case side2 => exact HR0.1); (case side3 => exact HC0.1); rintro e w8 ⟨g0, rfl, hi, hb, hb2⟩; refine ⟨_, rfl, ?_⟩; replace HB := sqa (hb); have HI0 := sqa (hi)) | ((with_reducible refine sqc 81 rfl ?_); refine sqC (some 8) func81 #[.pointer (some ⟨g0, 0, none⟩)] ?_; (with_reducible refine (F34.c k g0 t0 t1 t2 t3 w _ ?side1 ?side2 A3.1).mono ?_); (case side1 => exact Z20 HI0); (case side2 => exact Z22 HI0); rintro e w9 ⟨v0, rfl, ho0, hi, hb, hk⟩; refine ⟨_, rfl, ?_⟩; have O0 := sqa (Kd.R_lower ho0 (below_size (Z22 HI0))); replace HB := sqa (hb); replace HI0 := sqa (hi); (try clear ho0); obtain ⟨Ao0, co0, eo0⟩ := Kd.R_slice O0.1; subst eo0) | ((with_reducible refine sqc 80 rfl ?_); refine sqC (some 9) func80 #[.slice Ao0 t2.length co0] ?_; (with_reducible refine (F30.c k _ _ t2 t4 _ ?side1 ?side2 A4.1).mono ?_); (case side1 => exact Z47 O0); (case side2 => exact Z48 O0); refine sqV fun w0 hb => ?_; replace O0 := sqU O0 hb; replace HB := sqa (below_step (Z22 HI0) hb); replace HI0 := sqa (IsS131.below (Z20 HI0) hb)) | ((with_reducible refine sqc 82 rfl ?_); refine sqC (some 11) func82 #[.pointer (some ⟨g0, 0, none⟩), .int .i64 3] ?_; (with_reducible refine (F0.c k g0 t0 t3 3 t5 t6 w _ ?side1 ?side2 A5.1).mono ?_); (case side1 => exact Z20 HI0); (case side2 => exact Z22 HI0); rintro e w1 ⟨rfl, hi, hb, hk⟩; refine ⟨_, rfl, ?_⟩; replace O0 := sqa (Kd.R_mono (Kd.R_keep (IsS131.apart (show IsS131 w _ g0 t0 t3 from by repeat (first | (with_reducible first | exact HI0.1 | apply IsS131.alloc | apply IsS131.drewN | apply IsS131.drew | apply IsS131.set_1) | exact HI0.1)) (sqR O0) (by decide)) hk (fun _ h => h.2)) (fun _ h => h.1)); replace HB := sqa (hb); replace HI0 := sqa (hi)) | ((with_reducible refine sqc 83 rfl ?_); refine sqC (some 16) func83 #[.pointer (some ⟨g0, 0, none⟩), .string t4] ?_; (with_reducible refine (F54.c k g0 t0 t6 t4 t7 t8 w _ ?side1 ?side2 A7.1).mono ?_); (case side1 => exact Z20 HI0); (case side2 => exact Z22 HI0); rintro e w2 ⟨rfl, hi, hb, hk⟩; refine ⟨_, rfl, ?_⟩; replace O0 := sqa (Kd.R_mono (Kd.R_keep (IsS131.apart (show IsS131 w _ g0 t0 t6 from by repeat (first | (with_reducible first | exact HI0.1 | apply IsS131.alloc | apply IsS131.drewN | apply IsS131.drew | apply IsS131.set_1) | exact HI0.1)) (sqR O0) (by decide)) hk (fun _ h => h.2)) (fun _ h => h.1)); replace HB := sqa (hb); replace HI0 := sqa (hi)))
  go_ret
  exact ⟨Z14, Z22 HI0⟩
 rw [if_neg c6] at H
 have c6b0 : (t5 == 0) = false := sqe0 c6
 have c6b1 : (t5 != 0) = true := sqn1 c6
 by_cases c1 : t5 = 1
 ·rw [if_pos c1] at H
  have c2 := sqe1 c1
  have c3 := sqn0 c1
  clear c1
  obtain ⟨⟨t9, t10⟩, A1, H⟩ := sqD H
  try dsimp only at H
  obtain ⟨c4, H⟩ := sqI H
  have c5 := eq_true c4
  have c7 : decide (0 ≤ t9) = true := decide_eq_true c4
  clear c4
  obtain ⟨c8, H⟩ := sqI H
  have c9 := eq_true c8
  have c10 : decide (t9 ≤ (t4.size : Int)) = true := decide_eq_true c8
  clear c8
  obtain rfl := sqo H
  go_enter func36, ntmps36
  go_wp2_with (first | ((with_reducible refine sqc 66 rfl ?_); refine sqC (some 6) func66 #[.slice A0 l0.length c0] ?_; (with_reducible refine (F80.c _ _ l0 t0 t1 w _ ?side1 ?side2 ?side3 A2.1).mono ?_); (case side1 => exact Z85); (case side2 => exact HR0.1); (case side3 => exact HC0.1); rintro e w3 ⟨g0, rfl, hi, hb, hb2⟩; refine ⟨_, rfl, ?_⟩; replace HB := sqa (hb); have HI0 := sqa (hi)) | ((with_reducible refine sqc 81 rfl ?_); refine sqC (some 8) func81 #[.pointer (some ⟨g0, 0, none⟩)] ?_; (with_reducible refine (F34.c k g0 t0 t1 t2 t3 w _ ?side1 ?side2 A3.1).mono ?_); (case side1 => exact Z20 HI0); (case side2 => exact Z22 HI0); rintro e w4 ⟨v0, rfl, ho0, hi, hb, hk⟩; refine ⟨_, rfl, ?_⟩; have O0 := sqa (Kd.R_lower ho0 (below_size (Z22 HI0))); replace HB := sqa (hb); replace HI0 := sqa (hi); (try clear ho0); obtain ⟨Ao1, co1, eo1⟩ := Kd.R_slice O0.1; subst eo1) | ((with_reducible refine sqc 80 rfl ?_); refine sqC (some 9) func80 #[.slice Ao1 t2.length co1] ?_; (with_reducible refine (F30.c k _ _ t2 t4 _ ?side1 ?side2 A4.1).mono ?_); (case side1 => exact Z47 O0); (case side2 => exact Z48 O0); refine sqV fun w5 hb => ?_; replace O0 := sqU O0 hb; replace HB := sqa (below_step (Z22 HI0) hb); replace HI0 := sqa (IsS131.below (Z20 HI0) hb)) | ((with_reducible refine sqc 82 rfl ?_); refine sqC (some 11) func82 #[.pointer (some ⟨g0, 0, none⟩), .int .i64 3] ?_; (with_reducible refine (F0.c k g0 t0 t3 3 t5 t6 w _ ?side1 ?side2 A5.1).mono ?_); (case side1 => exact Z20 HI0); (case side2 => exact Z22 HI0); rintro e w6 ⟨rfl, hi, hb, hk⟩; refine ⟨_, rfl, ?_⟩; replace O0 := sqa (Kd.R_mono (Kd.R_keep (IsS131.apart (show IsS131 w _ g0 t0 t3 from by repeat (first | (with_reducible first | exact HI0.1 | apply IsS131.alloc | apply IsS131.drewN | apply IsS131.drew | apply IsS131.set_1) | exact HI0.1)) (sqR O0) (by decide)) hk (fun _ h => h.2)) (fun _ h => h.1)); replace HB := sqa (hb); replace HI0 := sqa (hi)) | ((with_reducible refine sqc 82 rfl ?_); refine sqC (some 24) func82 #[.pointer (some ⟨g0, 0, none⟩), .int .i64 (wrap64 ((t4.size : Int) + 1))] ?_; (with_reducible refine (F0.c k g0 t0 t6 (wrap64 ((t4.size : Int) + 1)) t9 t10 w _ ?side1 ?side2 A1.1).mono ?_); (case side1 => exact Z20 HI0); (case side2 => exact Z22 HI0); rintro e w7 ⟨rfl, hi, hb, hk⟩; refine ⟨_, rfl, ?_⟩; replace O0 := sqa (Kd.R_mono (Kd.R_keep (IsS131.apart (show IsS131 w _ g0 t0 t6 from by repeat (first | (with_reducible first | exact HI0.1 | apply IsS131.alloc | apply IsS131.drewN | apply IsS131.drew | apply IsS131.set_1) | exact HI0.1)) (sqR O0) (by decide)) hk (fun _ h => h.2)) (fun _ h => h.1)); replace HB := sqa (hb); replace HI0 := sqa (hi)))
  go_ret
  exact ⟨Z14, Z22 HI0⟩
 rw [if_neg c1] at H
 have c2 := sqe0 c1
 have c3 := sqn1 c1
 obtain rfl := sqo H
 go_enter func36, ntmps36
 go_wp2_with (first | ((with_reducible refine sqc 66 rfl ?_); refine sqC (some 6) func66 #[.slice A0 l0.length c0] ?_; (with_reducible refine (F80.c _ _ l0 t0 t1 w _ ?side1 ?side2 ?side3 A2.1).mono ?_); (case side1 => exact Z85); (case side2 => exact HR0.1); (case side3 => exact HC0.1); rintro e w24 ⟨g0, rfl, hi, hb, hb2⟩; refine ⟨_, rfl, ?_⟩; replace HB := sqa (hb); have HI0 := sqa (hi)) | ((with_reducible refine sqc 81 rfl ?_); refine sqC (some 8) func81 #[.pointer (some ⟨g0, 0, none⟩)] ?_; (with_reducible refine (F34.c k g0 t0 t1 t2 t3 w _ ?side1 ?side2 A3.1).mono ?_); (case side1 => exact Z20 HI0); (case side2 => exact Z22 HI0); rintro e w25 ⟨v0, rfl, ho0, hi, hb, hk⟩; refine ⟨_, rfl, ?_⟩; have O0 := sqa (Kd.R_lower ho0 (below_size (Z22 HI0))); replace HB := sqa (hb); replace HI0 := sqa (hi); (try clear ho0); obtain ⟨Ao2, co2, eo2⟩ := Kd.R_slice O0.1; subst eo2) | ((with_reducible refine sqc 80 rfl ?_); refine sqC (some 9) func80 #[.slice Ao2 t2.length co2] ?_; (with_reducible refine (F30.c k _ _ t2 t4 _ ?side1 ?side2 A4.1).mono ?_); (case side1 => exact Z47 O0); (case side2 => exact Z48 O0); refine sqV fun w27 hb => ?_; replace O0 := sqU O0 hb; replace HB := sqa (below_step (Z22 HI0) hb); replace HI0 := sqa (IsS131.below (Z20 HI0) hb)) | ((with_reducible refine sqc 82 rfl ?_); refine sqC (some 11) func82 #[.pointer (some ⟨g0, 0, none⟩), .int .i64 3] ?_; (with_reducible refine (F0.c k g0 t0 t3 3 t5 t6 w _ ?side1 ?side2 A5.1).mono ?_); (case side1 => exact Z20 HI0); (case side2 => exact Z22 HI0); rintro e w28 ⟨rfl, hi, hb, hk⟩; refine ⟨_, rfl, ?_⟩; replace O0 := sqa (Kd.R_mono (Kd.R_keep (IsS131.apart (show IsS131 w _ g0 t0 t3 from by repeat (first | (with_reducible first | exact HI0.1 | apply IsS131.alloc | apply IsS131.drewN | apply IsS131.drew | apply IsS131.set_1) | exact HI0.1)) (sqR O0) (by decide)) hk (fun _ h => h.2)) (fun _ h => h.1)); replace HB := sqa (hb); replace HI0 := sqa (hi)))
 go_ret
 exact ⟨Z14, Z22 HI0⟩
end Go.Proofs.YtofmlbgfcohhoaaGreatDoor.PFnReadJournal
