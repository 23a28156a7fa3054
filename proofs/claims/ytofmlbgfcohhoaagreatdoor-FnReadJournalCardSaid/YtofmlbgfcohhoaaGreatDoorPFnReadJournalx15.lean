import Derived.Test.YtofmlbgfcohhoaaGreatDoorPFnReadJournalx13
set_option maxHeartbeats 8000000
set_option maxRecDepth 100000
namespace Go.Proofs.YtofmlbgfcohhoaaGreatDoor.PFnReadJournal
open Go.RowKit Go.Proofs.YtofmlbgfcohhoaaGreatDoorW.PrintWords Go.Proofs.YtofmlbgfcohhoaaGreatDoorW.PrintLast Go.Proofs.YtofmlbgfcohhoaaGreatDoorW.PrintMore Go.Proofs.YtofmlbgfcohhoaaGreatDoor.Lib Go.Proofs.Tryz
attribute [local go_sem] max2_int min2_int max_two min_two max_three min_three max_four min_four
set_option linter.unusedVariables false
set_option linter.unusedSimpArgs false

def F29.l0 : Nat → List (S38) → Int → List Int → Int → Option ((List (S38)) × Int)
 | 0, _, _, _, _ => none
 | k + 1, x3, x4, x0, x1 => if x4 > 0 then ((F1.f k x0 x1).bind fun bt0 => (if x3.length < 5864062014805 then (F29.l0 k (x3 ++ [(⟨bt0.1, bt0.2.1⟩ : S38)]) (wrap64 (x4 - 1)) x0 bt0.2.2) else (none))) else (some (x3, x1))
def F29.f (k : Nat) (s0_0 : List Int) (s0_1 : Int) : Option ((List (S38)) × Int) := (F0.f k s0_0 s0_1 6).bind fun bt0 => (F29.l0 k (([] : List (S38))) bt0.1 s0_0 bt0.2)
abbrev F29.M (k : Nat) : Prop := (∀ y0 y1 y2 y3, LeO (F29.l0 k y0 y1 y2 y3) (F29.l0 (k + 1) y0 y1 y2 y3))
theorem F29.mt : ∀ k, F29.M k → F29.M (k + 1) ∧ ∀ a0 a1, LeO (F29.f k a0 a1) (F29.f (k + 1) a0 a1) := by
  rintro k ih0
  refine ⟨?_, ?_⟩ <;> (try unfold F29.M) <;> intros <;> (first | unfold F29.l0 | unfold F29.f) <;> repeat' (with_reducible first | exact ih0 _ _ _ _ | exact F1.m _ _ _ | exact F0.m _ _ _ _ | exact LeO.refl _ | exact LeO.none _ | refine LeO.ite ?_ ?_ | refine LeO.bind ?_ fun _ => ?_)
theorem F29.ml : ∀ k, F29.M k
 | 0 => fun _ _ _ _ r h => by simp [F29.l0] at h
 | k + 1 => (F29.mt k (F29.ml k)).1
theorem F29.m a0 a1 k : LeO (F29.f k a0 a1) (F29.f (k + 1) a0 a1) := (F29.mt k (F29.ml k)).2 a0 a1
theorem F29.c (k : Nat) (g : Nat) (s0_0 : List Int) (s0_1 : Int) (r1 : List (S38)) (r2 : Int) (w0 w : World) (hI : IsS131 w0 w g s0_0 s0_1) (hB : Below w0.heap.size w0 w) (H : F29.f k s0_0 s0_1 = some (r1, r2)) :
  Calls prog 75 #[.pointer (some ⟨g, 0, none⟩)] w fun e w' => ∃ v0_ : Value, e = .returned (v0_) ∧ Kd.R k38 38 w' w.heap.size (fun _ => True) v0_ r1 ∧ IsS131 w0 w' g s0_0 r2 ∧ Below w0.heap.size w0 w' ∧ KeepBut w w' g none := by
 have HI0 := sqa hI
 have HK := sqa (KeepBut.refl w g none)
 have HL := sqa hB.size
 clear hI
 have HW0 := sqa hB.size
 have HB := sqa hB
 clear hB
 unfold F29.f at H
 obtain ⟨y0, hy0⟩ : ∃ y_ : List (S38), y_ = (([] : List (S38))) := ⟨_, rfl⟩
 replace H : ((F0.f k s0_0 s0_1 6).bind fun bt0 => (F29.l0 k y0 bt0.1 s0_0 bt0.2)) = some (r1, r2) := sqW hy0 H
 have Ny0 := sqa hy0
 clear hy0
 obtain ⟨⟨t0, t1⟩, A2, H⟩ := sqD H
 try dsimp only at H
 have H' := sqa H
 clear H
 go_enter func75, ntmps75
 go_wp2_with (first | ((with_reducible refine sqd 5 rfl ?_); refine Kd.R_lit k38 _ 38 ?hg (N := 5) ?hd (xs := ([] : List (S38))) (inner := []) (ok := fun _ => True) (okp := fun _ => True) ?hr ?hp (fun _ hk => hk) trivial (Below.refl _ _) (Nat.le_refl _) (by simp) ?_; (case hd => rfl); (case hg => rfl); (case hr => exact Z8); (case hp => exact Z23); intro v0 w3 ho4 hb hg_ hnew_; clear hg_ hnew_; (first | rw [← Ny0.out] at ho4 | (simp only [Int.reduceToNat] at ho4; rw [← Ny0.out] at ho4)); have O0 := sqa (Kd.R_lower ho4 (keep_size (w := w) (g := g) (row := none) Z21)); replace HK := sqa (KeepBut.trans Z21 (KeepBut.of_below hb g none) (.inl rfl)); replace HB := sqa (below_step (Z22 HI0) hb); replace HI0 := sqa (IsS131.below (Z20 HI0) hb); clear hb ho4) | ((with_reducible refine sqc 82 rfl ?_); refine sqC (some 7) func82 #[.pointer (some ⟨g, 0, none⟩), .int .i64 6] ?_; (with_reducible refine (F0.c k g s0_0 s0_1 6 t0 t1 w0 _ ?side1 ?side2 A2.1).mono ?_); (case side1 => exact Z20 HI0); (case side2 => exact Z22 HI0); rintro e w5 ⟨rfl, hi, hb, hk⟩; refine ⟨_, rfl, ?_⟩; replace O0 := sqa (Kd.R_mono (Kd.R_keep (IsS131.apart (show IsS131 w0 _ g s0_0 s0_1 from by repeat (first | (with_reducible first | exact HI0.1 | apply IsS131.alloc | apply IsS131.drewN | apply IsS131.drew | apply IsS131.set_1) | exact HI0.1)) (sqR O0) (by decide)) hk (fun _ h => h.2)) (fun _ h => h.1)); replace HK := sqa (KeepBut.trans Z21 hk (.inl rfl)); replace HB := sqa (hb); replace HI0 := sqa (hi)))
 go_loopg [3, 4] k (fun kq v3 v4 w' => ∃ (x3_1 : List (S38)) (x4_1 : Int) (x1001_1 : Int), v4 = .int .i64 x4_1 ∧ Aside0 (F29.l0 kq x3_1 x4_1 s0_0 x1001_1 = some (r1, r2)) ∧ Aside0 (kq ≤ k) ∧ Aside0 (Kd.R k38 38 w' w.heap.size (fun _ => True) v3 x3_1) ∧ Aside0 (IsS131 w0 w' g s0_0 x1001_1) ∧ Aside0 (KeepBut w w' g none) ∧ Aside0 (Below w0.heap.size w0 w'))
 case atStart => exact ⟨(y0), (t0), (t1), Z2, H', ⟨Nat.le_refl _⟩, ⟨sqR O0⟩, ⟨Z20 HI0⟩, ⟨Z21⟩, ⟨Z22 HI0⟩⟩
 case round =>
  clear H'
  obtain ⟨x3_1, x4_1, x1001_1, rfl, HA, HK1, O1, HI0, HK, HB⟩ := hrel
  cases gk with
  | zero => exact absurd HA.out (by simp [F29.l0])
  | succ k1 =>
   have H := HA.out
   clear HA
   simp only [F29.l0] at H
   by_cases c6 : x4_1 > 0
   ·rw [if_pos c6] at H
    have c6b0 : decide (0 < x4_1) = true := decide_eq_true c6
    clear c6
    obtain ⟨⟨t2, t3, t4⟩, A7, H⟩ := sqD H
    try dsimp only at H
    obtain ⟨c8, H⟩ := sqI H
    have LMc8 := sqa c8
    clear c8
    obtain ⟨y1, hy1⟩ : ∃ y_ : List (S38), y_ = (x3_1 ++ [(⟨t2, t3⟩ : S38)]) := ⟨_, rfl⟩
    replace H : (F29.l0 k1 y1 (wrap64 (x4_1 - 1)) s0_0 t4) = some (r1, r2) := sqW hy1 H
    have Ny1 := sqa hy1
    clear hy1
    have H' := sqa H
    clear H
    go_wp2_with (first | ((with_reducible refine sqc 68 rfl ?_); refine sqC (some 14) func68 #[.pointer (some ⟨g, 0, none⟩)] ?_; (with_reducible refine (F1.c k1 g s0_0 x1001_1 t2 t3 t4 w0 _ ?side1 ?side2 A7.1).mono ?_); (case side1 => exact Z20 HI0); (case side2 => exact Z22 HI0); rintro e w9 ⟨rfl, hi, hb, hk⟩; refine ⟨_, rfl, ?_⟩; replace O1 := sqa (Kd.R_mono (Kd.R_keep (IsS131.apart (show IsS131 w0 _ g s0_0 x1001_1 from by repeat (first | (with_reducible first | exact HI0.1 | apply IsS131.alloc | apply IsS131.drewN | apply IsS131.drew | apply IsS131.set_1) | exact HI0.1)) (sqR O1) (by decide)) hk (fun _ h => h.2)) (fun _ h => h.1)); replace HK := sqa (KeepBut.trans Z21 hk (.inl rfl)); replace HB := sqa (hb); replace HI0 := sqa (hi)) | ((with_reducible refine gate_builtin (b := .append) (xs := #[.tmp 12, .tmp 15]) rfl ?_); at_builtin; refine Kd.R_append k38 w.heap.size rfl (.tmp 12) (.tmp 15) 52 38 (.agg #[(.int .i64 0), (.string ⟨#[]⟩)]) 24 rfl underlying52 info38 rfl (by decide) (by omega) u3 x3_1 (⟨t2, t3⟩ : S38) [.int .i64 t2, .string t3] (fun _ => True) (fun _ => False) rfl rfl ?aP (fun _ hk => hk.elim) ?aF ?aO (Below.refl _ _) ?aS ?aL ?_; (case aP => exact k38_mkM _ _ _ (⟨t2, t3⟩ : S38)); (case aF => exact Z24); (case aO => exact (sqR O1)); (case aS => exact (keep_size (w := w) (g := g) (row := none) Z21)); (case aL => exact Z15 LMc8); intro v1 w1 ho hb hg hat; rw [← Ny1.out] at ho; replace HB := sqa (below_weaken (Z22 HI0) HL.out hb); replace HI0 := sqa (IsS131.grown (Z20 HI0) hg (IsS131.own_ne HI0.1 O1.1 (by decide))); replace HK := sqa (KeepBut.trans Z21 (KeepBut.of_grown hg g) (Kd.R_base2 O1.1)); have O2 := sqa (ho); clear O1; clear ho hb hg hat))
    go_roundg k1
    case measure => have := HK1.out; omega
    case rel => exact ⟨(y1), (wrap64 (x4_1 - 1)), (t4), Z2, H', ⟨Z15 HK1⟩, ⟨sqR O2⟩, ⟨Z20 HI0⟩, ⟨Z21⟩, ⟨Z22 HI0⟩⟩
   rw [if_neg c6] at H
   have c6b0 : decide (0 < x4_1) = false := decide_eq_false c6
   clear c6
   obtain ⟨rfl, rfl⟩ := sqO2 H
   go_wp2
   go_ret
   exact ⟨_, Z14, Z25 O1, Z20 HI0, Z22 HI0, Z21⟩

def F76.f (k : Nat) (l0 : List Int) : Option (Int × Int × (List (S31)) × (List (S38))) := (F80.f l0).bind fun bt0 => ((F19.f k bt0.1 bt0.2 12).bind fun bt1 => ((F46.f k bt0.1 bt1.2.2.2 30).bind fun bt2 => (if bt2.1 = true then (if 41 ≤ 11728124029610 then (some (bt1.1, bt1.2.1, bt1.2.2.1, (List.replicate 41 z38))) else (none)) else ((F29.f k bt0.1 bt2.2).bind fun bt3 => (some (bt1.1, bt1.2.1, bt1.2.2.1, bt3.1))))))
theorem F76.m : ∀ a0 k, LeO (F76.f k a0) (F76.f (k + 1) a0) := by
 intro a0 k
 unfold F76.f
 repeat' (with_reducible first | exact F29.m _ _ _ | exact F19.m _ _ _ _ | exact F46.m _ _ _ _ | exact LeO.refl _ | exact LeO.none _ | refine LeO.ite ?_ ?_ | refine LeO.bind ?_ fun _ => ?_)
theorem F76.c (k : Nat) (A0 : Option Addr) (c0 : Nat) (l0 : List Int) (r1 : Int) (r2 : Int) (r3 : List (S31)) (r4 : List (S38)) (w : World) (hr0 : Kd.C (Kd.int .u8) w A0 l0.length l0) (hc0 : l0.length ≤ c0) (H : F76.f k l0 = some (r1, r2, r3, r4)) :
  Calls prog 27 #[.slice A0 l0.length c0] w fun e w' => ∃ v2_ v3_ : Value, e = .returned (.tuple #[.agg #[.int .i64 r1, .int .i64 r2, v2_], v3_]) ∧ Kd.Q k31 31 w' w.heap.size (fun _ => True) v2_ r3 ∧ Kd.R k38 38 w' w.heap.size (fun _ => True) v3_ r4 ∧ Below w.heap.size w w' := by
 have hu34 := underlying34
 have HR0 := sqa hr0
 have HC0 := sqa hc0
 clear hr0 hc0
 have HB := sqh w
 unfold F76.f at H
 obtain ⟨⟨t387, t0⟩, A2, H⟩ := sqD H
 try dsimp only at H
 obtain ⟨⟨t390, t391, t1, t395⟩, A3, H⟩ := sqD H
 try dsimp only at H
 obtain ⟨⟨t2, t3⟩, A4, H⟩ := sqD H
 try dsimp only at H
 by_cases c5 : t2 = true
 ·subst c5
  rw [if_pos rfl] at H
  obtain ⟨c6, H⟩ := sqI H
  have c6b0 := eq_true c6
  have c6b1 : decide (41 ≤ 11728124029610) = true := decide_eq_true c6
  clear c6
  obtain ⟨y0, hy0⟩ : ∃ y_ : List (S38), y_ = (List.replicate 41 z38) := ⟨_, rfl⟩
  replace H : (some (t390, t391, t1, y0)) = some (r1, r2, r3, r4) := sqW hy0 H
  have Ny0 := sqa hy0
  clear hy0
  obtain ⟨rfl, rfl, rfl, rfl⟩ := sqO4 H
  go_enter func27, ntmps27
  try go_wp2_with (first | ((with_reducible refine sqd 2 rfl ?_); refine sqBx w (sqB HB) (cs := #[.int .i64 0, .int .i64 0, .slice none 0 0]) (t := 34) ?_; intro g0 hg w7 B0 E0 HB hb; clear hb hg) | ((with_reducible refine sqc 66 rfl ?_); refine sqC (some 7) func66 #[.slice A0 l0.length c0] ?_; (with_reducible refine (F80.c _ _ l0 t387 t0 w _ ?side1 ?side2 ?side3 A2.1).mono ?_); (case side1 => exact Z26 E0); (case side2 => exact HR0.1); (case side3 => exact HC0.1); rintro e w8 ⟨g389, rfl, hi, hb, hb2⟩; refine ⟨_, rfl, ?_⟩; replace HB := sqa (hb); have HI0 := sqa (hi); have N0 := sqa (IsS131.ne_blk hi (blk_below (sqK B0) hb2) (by decide)); have N1 := sqa (Ne.symm (IsS131.ne_blk hi (blk_below (sqK B0) hb2) (by decide))); replace B0 := sqa (blk_below (sqK B0) hb2)) | ((with_reducible refine sqc 67 rfl ?_); refine sqC (some 9) func67 #[.pointer (some ⟨g389, 0, none⟩), .int .i64 12] ?_; (with_reducible refine (F19.c k g389 t387 t0 12 t390 t391 t1 t395 w _ ?side1 ?side2 A3.1).mono ?_); (case side1 => exact Z27 HI0 N0); (case side2 => exact Z28 HI0 E0); rintro e w9 ⟨v0, rfl, ho0, hi, hb, hk⟩; refine ⟨_, rfl, ?_⟩; replace B0 := sqkb hk B0 N1; have O0 := sqa (Kd.Q_lower ho0 (below_size (Z28 HI0 E0))); replace HB := sqa (hb); replace HI0 := sqa (hi); (try clear ho0)) | ((with_reducible refine sqd 5 rfl ?_); refine sqBox (N := 5) (cs := #[.int .i64 0, .int .i64 0, .slice none 0 0]) (t := 34) ?_; intro g1 hg w0 B2 hb; replace O0 := sqa (Kd.Q_below (Z10 O0) hb); have GW0 := sqa ((by rw [hg]; exact (below_size (Z28 HI0 E0)) : w.heap.size ≤ g1)); have E1 := GW0; replace HB := sqa (below_step (Z28 HI0 E0) hb); obtain ⟨N2, N3⟩ := sqM hg B0; replace B0 := sqT B0 hb; have N4 := sqa ((Z29 HI0 N0 : g389 ≠ g1)); have N5 := sqa ((Z30 HI0 N0 : g1 ≠ g389)); replace HI0 := sqa (IsS131.below (Z27 HI0 N0) hb); clear hb hg; have := sqn4 N3 N2 N5 N4; have := sqY3 B2; obtain ⟨Ao0, co0, eo0, _⟩ := Kd.Q_slice O0.1; subst eo0) | ((with_reducible refine sqc 74 rfl ?_); refine sqC (some 11) func74 #[.pointer (some ⟨g389, 0, none⟩), .int .i64 30] ?_; (with_reducible refine (F46.c k g389 t387 t395 30 true t3 w _ ?side1 ?side2 A4.1).mono ?_); (case side1 => exact Z31 HI0 N0 N4); (case side2 => exact Z32 HI0 E0 E1); rintro e w2 ⟨rfl, hi, hb, hk⟩; refine ⟨_, rfl, ?_⟩; replace B0 := sqa (KeepBut.blk hk (g' := g0) (o := .cells #[.int .i64 0, .int .i64 0, .slice none 0 0] 34 (0, 0)) (Z5 N2 B0) N1.1 (by simp)); replace O0 := sqa (Kd.Q_mono (Kd.Q_keep (IsS131.apartQ (show IsS131 w _ g389 t387 t395 from by repeat (first | (with_reducible first | exact HI0.1 | apply IsS131.alloc | apply IsS131.drewN | apply IsS131.drew | apply IsS131.set_1 | refine IsS131.far ?_ N0.1 _ | refine IsS131.far ?_ N4.1 _) | exact HI0.1)) (by (with_reducible repeat (first | apply Kd.Q_alloc | apply Kd.Q_drewN | apply Kd.Q_drew)); exact (Kd.Q_mono (sqq3 O0.1 B2.1) (fun _ h_ => h_.1))) (by decide)) hk (fun _ h => h.2)) (fun _ h => h.1)); replace B2 := sqa (KeepBut.blk hk (g' := g1) (o := .cells #[.int .i64 t390, .int .i64 t391, .slice Ao0 t1.length co0] 34 (0, 0)) (Z33 B2) N5.1 (by simp)); replace HB := sqa (hb); replace HI0 := sqa (hi)))
  replace O0 := sqa (Kd.Q_drew O0.1)
  replace B0 := sqa (blk_drew B0.1)
  replace B2 := sqa (blk_drew B2.1)
  replace HI0 := sqa (IsS131.drew HI0.1)
  replace HB := sqa (below_drew1 HB.1)
  refine start_ (n := 4) (S := fun w' => w'.cell? ⟨g1, 0, none⟩ = some (.int .i64 t390) ∧ w'.cell? ⟨g1, 1, none⟩ = some (.int .i64 t391) ∧ w'.cell? ⟨g1, 2, none⟩ = some (.slice Ao0 t1.length co0)) (ds := []) #[false, false, false, false] (by kernel_rfl) rfl rfl (sqk1 B2) (fun hHeld => ?_)
  generalize w2.drew = w3 at O0 B0 B2 HI0 HB hHeld ⊢
  refine sqQk 0 (some 12) hHeld (h := ?_)
  refine join_ (σ := Value) 1 #[true, true, true, false] (fun s_ => [(13, s_)]) (fun s_ w' => (w'.cell? ⟨g1, 0, none⟩ = some (.int .i64 t390) ∧ w'.cell? ⟨g1, 1, none⟩ = some (.int .i64 t391) ∧ w'.cell? ⟨g1, 2, none⟩ = some (.slice Ao0 t1.length co0)) ∧ (Kd.Q k31 31 w' w.heap.size (fun _ => True) (.slice Ao0 t1.length co0) t1) ∧ (Kd.R k38 38 w' w.heap.size (fun _ => True) s_ y0) ∧ (w'.heap[g0]? = some (.cells #[.int .i64 t390, .int .i64 t391, .slice Ao0 t1.length co0] 34 (0, 0))) ∧ (w'.heap[g1]? = some (.cells #[.int .i64 t390, .int .i64 t391, .slice Ao0 t1.length co0] 34 (0, 0))) ∧ (IsS131 w w' g389 t387 t3) ∧ (Below w.heap.size w w')) ?_ ?_
  rotate_left
  ·intro hCont
   refine two_ (i := 1) (j := 2) (Ni := some 13) (Nj := none) #[true, true, false, false] #[true, false, true, false] rfl rfl rfl rfl (by kernel_rfl) (by decide) (by decide) (fun K hK => ?_) (fun K hK => ?_)
   ·skip
    refine Kd.R_make_step k38 _ 38 (by rfl) (N := 13) rfl 52 _ _ rfl 41 rfl rfl underlying52 (.agg #[(.int .i64 0), (.string ⟨#[]⟩)]) 24 info38 rfl (by decide) (by omega) z38 (ok := fun _ => True) (okp := fun _ => True) (k38_mkM _ _ _ z38 ) (fun _ hk => hk) trivial (by omega) (by omega) (Below.refl _ _) (Nat.le_refl _) ?_
    intro v1 w4 ho1 hb hg_ hnew_
    clear hg_ hnew_
    (first | rw [← Ny0.out] at ho1 | (simp only [Int.reduceToNat] at ho1; rw [← Ny0.out] at ho1))
    replace O0 := sqa (Kd.Q_below (Z10 O0) hb)
    have O1 := sqa (Kd.R_lower ho1 (below_size (Z32 HI0 E0 E1)))
    replace B0 := sqT B0 hb
    replace B2 := sqT B2 hb
    replace HB := sqa (below_step (Z32 HI0 E0 E1) hb)
    replace HI0 := sqa (IsS131.below (Z31 HI0 N0 N4) hb)
    clear hb ho1
    refine hK.out _ _ (sqk1 B2) (fun hHeld => ?_)
    clear hK K
    refine sqN (some 13) ?_
    refine sq1k 2 none (h := fun K hK => ?_)
    have := sqY3 B0
    have := sqn2 N3 N2
    refine skip_ (w1 := ?_) (by rfl) rfl ?_ ?_
    rotate_left
    ·go_simp
     rfl
    refine hK.out _ _ (sql1 N3 hHeld) (fun hHeld => ?_)
    clear hK K
    exact norm_ Z34 (hCont (v1) _ ⟨hHeld, (by (with_reducible repeat (first | apply Kd.Q_alloc | apply Kd.Q_drewN | apply Kd.Q_drew)); exact Kd.Q_mono (sqq3 O0.1 B0.1) (fun _ hk => trivial)), (by (with_reducible repeat (first | apply Kd.R_alloc | apply Kd.R_drewN | apply Kd.R_drew)); exact Kd.R_mono (sqr3 O1.1 B0.1) (fun _ hk => trivial)), (Z33 B0), (Z5 N3 B2), (Z31 HI0 N0 N4), (Z32 HI0 E0 E1)⟩)
   ·skip
    have := sqY3 B0
    have := sqn4 N3 N2 N3 N2
    refine skip_ (w1 := ?_) (by rfl) rfl ?_ ?_
    rotate_left
    ·go_simp
     rfl
    refine hK.out _ _ (sql1 N3 hHeld) (fun hHeld => ?_)
    clear hK K
    refine sq1k 1 (some 13) (h := fun K hK => ?_)
    refine Kd.R_make_step k38 _ 38 (by rfl) (N := 13) rfl 52 _ _ rfl 41 rfl rfl underlying52 (.agg #[(.int .i64 0), (.string ⟨#[]⟩)]) 24 info38 rfl (by decide) (by omega) z38 (ok := fun _ => True) (okp := fun _ => True) (k38_mkM _ _ _ z38 ) (fun _ hk => hk) trivial (by omega) (by omega) (Below.refl _ _) (Nat.le_refl _) ?_
    intro v1 w5 ho2 hb hg_ hnew_
    clear hg_ hnew_
    (first | rw [← Ny0.out] at ho2 | (simp only [Int.reduceToNat] at ho2; rw [← Ny0.out] at ho2))
    replace O0 := sqa (Kd.Q_below (by (with_reducible repeat (first | apply Kd.Q_alloc | apply Kd.Q_drewN | apply Kd.Q_drew)); exact (Kd.Q_mono (sqq3 O0.1 B0.1) (fun _ h_ => h_.1))) hb)
    have O1 := sqa (Kd.R_lower ho2 (below_size (Z32 HI0 E0 E1)))
    replace B0 := sqa (blk_below (g := g0) (o := .cells #[.int .i64 t390, .int .i64 t391, .slice Ao0 t1.length co0] 34 (0, 0)) (Z33 B0) hb)
    replace B2 := sqH N3 B2 hb
    replace HB := sqa (below_step (Z32 HI0 E0 E1) hb)
    replace HI0 := sqa (IsS131.below (show IsS131 w (((w3.setCell ⟨g0, 0, none⟩ (.int .i64 t390)).setCell ⟨g0, 1, none⟩ (.int .i64 t391)).setCell ⟨g0, 2, none⟩ (.slice Ao0 t1.length co0)) g389 t387 t3 from by repeat (first | (with_reducible first | exact HI0.1 | apply IsS131.alloc | apply IsS131.drewN | apply IsS131.drew | apply IsS131.set_1 | refine IsS131.far ?_ N0.1 _ | refine IsS131.far ?_ N4.1 _) | exact HI0.1)) hb)
    clear hb ho2
    refine hK.out _ _ (sqk1 B2) (fun hHeld => ?_)
    clear hK K
    refine sqN (some 13) ?_
    exact norm_ Z34 (hCont (v1) _ ⟨hHeld, (Z10 O0), (sqR O1), (sqK B0), (sqK B2), (Z31 HI0 N0 N4), (Z32 HI0 E0 E1)⟩)
  rintro v1 w6 ⟨hS_, h0_, h1_, h2_, h3_, h4_, h5_⟩
  replace O0 := sqa h0_
  replace O1 := sqa h1_
  replace B0 := sqa h2_
  replace B2 := sqa h3_
  replace HI0 := sqa h4_
  replace HB := sqa h5_
  clear h0_ h1_ h2_ h3_ h4_ h5_
  have hHeld : w6.cell? ⟨g1, 0, none⟩ = some (.int .i64 t390) ∧ w6.cell? ⟨g1, 1, none⟩ = some (.int .i64 t391) ∧ w6.cell? ⟨g1, 2, none⟩ = some (.slice Ao0 t1.length co0) := hS_
  refine norm_ (a' := ?_) ?_ ?_
  rotate_left
  ·simp only [putAll, Act.put, List.setIfInBounds_toArray, List.set_cons_zero, List.set_cons_succ]
   rfl
  refine sqPk 3 (some 3) (h := ?_)
  refine done_ (by kernel_rfl) ?_
  try go_wp2
  refine sqE g0 34 #[.int .i64 t390, .int .i64 t391, .slice Ao0 t1.length co0] (sqK B0) underlying34 ?_
  exact ⟨_, _, Z14, Z10 O0, Z25 O1, Z32 HI0 E0 E1⟩
 obtain rfl := sqb c5
 rw [if_neg sqF] at H
 obtain ⟨⟨t4, t5⟩, A1, H⟩ := sqD H
 try dsimp only at H
 obtain ⟨rfl, rfl, rfl, rfl⟩ := sqO4 H
 go_enter func27, ntmps27
 try go_wp2_with (first | ((with_reducible refine sqd 2 rfl ?_); refine sqBx w (sqB HB) (cs := #[.int .i64 0, .int .i64 0, .slice none 0 0]) (t := 34) ?_; intro g0 hg w24 B0 E0 HB hb; clear hb hg) | ((with_reducible refine sqc 66 rfl ?_); refine sqC (some 7) func66 #[.slice A0 l0.length c0] ?_; (with_reducible refine (F80.c _ _ l0 t387 t0 w _ ?side1 ?side2 ?side3 A2.1).mono ?_); (case side1 => exact Z26 E0); (case side2 => exact HR0.1); (case side3 => exact HC0.1); rintro e w25 ⟨g389, rfl, hi, hb, hb2⟩; refine ⟨_, rfl, ?_⟩; replace HB := sqa (hb); have HI0 := sqa (hi); have N0 := sqa (IsS131.ne_blk hi (blk_below (sqK B0) hb2) (by decide)); have N1 := sqa (Ne.symm (IsS131.ne_blk hi (blk_below (sqK B0) hb2) (by decide))); replace B0 := sqa (blk_below (sqK B0) hb2)) | ((with_reducible refine sqc 67 rfl ?_); refine sqC (some 9) func67 #[.pointer (some ⟨g389, 0, none⟩), .int .i64 12] ?_; (with_reducible refine (F19.c k g389 t387 t0 12 t390 t391 t1 t395 w _ ?side1 ?side2 A3.1).mono ?_); (case side1 => exact Z27 HI0 N0); (case side2 => exact Z28 HI0 E0); rintro e w26 ⟨v0, rfl, ho0, hi, hb, hk⟩; refine ⟨_, rfl, ?_⟩; replace B0 := sqkb hk B0 N1; have O0 := sqa (Kd.Q_lower ho0 (below_size (Z28 HI0 E0))); replace HB := sqa (hb); replace HI0 := sqa (hi); (try clear ho0)) | ((with_reducible refine sqd 5 rfl ?_); refine sqBox (N := 5) (cs := #[.int .i64 0, .int .i64 0, .slice none 0 0]) (t := 34) ?_; intro g1 hg w27 B2 hb; replace O0 := sqa (Kd.Q_below (Z10 O0) hb); have GW0 := sqa ((by rw [hg]; exact (below_size (Z28 HI0 E0)) : w.heap.size ≤ g1)); have E1 := GW0; replace HB := sqa (below_step (Z28 HI0 E0) hb); obtain ⟨N2, N3⟩ := sqM hg B0; replace B0 := sqT B0 hb; have N4 := sqa ((Z29 HI0 N0 : g389 ≠ g1)); have N5 := sqa ((Z30 HI0 N0 : g1 ≠ g389)); replace HI0 := sqa (IsS131.below (Z27 HI0 N0) hb); clear hb hg; have := sqn4 N3 N2 N5 N4; have := sqY3 B2; obtain ⟨Ao1, co1, eo1, _⟩ := Kd.Q_slice O0.1; subst eo1) | ((with_reducible refine sqc 74 rfl ?_); refine sqC (some 11) func74 #[.pointer (some ⟨g389, 0, none⟩), .int .i64 30] ?_; (with_reducible refine (F46.c k g389 t387 t395 30 false t3 w _ ?side1 ?side2 A4.1).mono ?_); (case side1 => exact Z31 HI0 N0 N4); (case side2 => exact Z32 HI0 E0 E1); rintro e w32 ⟨rfl, hi, hb, hk⟩; refine ⟨_, rfl, ?_⟩; replace B0 := sqa (KeepBut.blk hk (g' := g0) (o := .cells #[.int .i64 0, .int .i64 0, .slice none 0 0] 34 (0, 0)) (Z5 N2 B0) N1.1 (by simp)); replace O0 := sqa (Kd.Q_mono (Kd.Q_keep (IsS131.apartQ (show IsS131 w _ g389 t387 t395 from by repeat (first | (with_reducible first | exact HI0.1 | apply IsS131.alloc | apply IsS131.drewN | apply IsS131.drew | apply IsS131.set_1 | refine IsS131.far ?_ N0.1 _ | refine IsS131.far ?_ N4.1 _) | exact HI0.1)) (by (with_reducible repeat (first | apply Kd.Q_alloc | apply Kd.Q_drewN | apply Kd.Q_drew)); exact (Kd.Q_mono (sqq3 O0.1 B2.1) (fun _ h_ => h_.1))) (by decide)) hk (fun _ h => h.2)) (fun _ h => h.1)); replace B2 := sqa (KeepBut.blk hk (g' := g1) (o := .cells #[.int .i64 t390, .int .i64 t391, .slice Ao1 t1.length co1] 34 (0, 0)) (Z33 B2) N5.1 (by simp)); replace HB := sqa (hb); replace HI0 := sqa (hi)))
 replace O0 := sqa (Kd.Q_drew O0.1)
 replace B0 := sqa (blk_drew B0.1)
 replace B2 := sqa (blk_drew B2.1)
 replace HI0 := sqa (IsS131.drew HI0.1)
 replace HB := sqa (below_drew1 HB.1)
 refine start_ (n := 5) (S := fun w' => w'.cell? ⟨g1, 0, none⟩ = some (.int .i64 t390) ∧ w'.cell? ⟨g1, 1, none⟩ = some (.int .i64 t391) ∧ w'.cell? ⟨g1, 2, none⟩ = some (.slice Ao1 t1.length co1)) (ds := []) #[false, false, false, false, false] (by kernel_rfl) rfl rfl (sqk1 B2) (fun hHeld => ?_)
 generalize w32.drew = w33 at O0 B0 B2 HI0 HB hHeld ⊢
 refine sqPk 1 (some 15) (h := ?_)
 refine sqQk 0 (some 14) hHeld (h := ?_)
 refine sq1k 2 (some 16) (h := fun K hK => ?_)
 refine sqg func75 #[.pointer (some ⟨g389, 0, none⟩)] ?_
 with_reducible refine (F29.c k g389 t387 t3 t4 t5 w _ ?side1 ?side2 A1.1).mono ?_
 (case side1 => exact Z31 HI0 N0 N4)
 (case side2 => exact Z32 HI0 E0 E1)
 rintro e w34 ⟨v2, rfl, ho0, hi, hb, hk⟩
 refine ⟨_, rfl, ?_⟩
 replace B0 := sqkb hk B0 N1
 replace O0 := sqa (Kd.Q_mono (Kd.Q_keep (IsS131.apartQ (show IsS131 w _ g389 t387 t3 from by repeat (first | (with_reducible first | exact HI0.1 | apply IsS131.alloc | apply IsS131.drewN | apply IsS131.drew | apply IsS131.set_1 | refine IsS131.far ?_ N0.1 _ | refine IsS131.far ?_ N4.1 _) | exact HI0.1)) (Z10 O0) (by decide)) hk (fun _ h => h.2)) (fun _ h => h.1))
 replace B2 := sqkb hk B2 N5
 have O2 := sqa (Kd.R_lower ho0 (below_size (Z32 HI0 E0 E1)))
 replace HB := sqa (hb)
 replace HI0 := sqa (hi)
 refine hK.out _ _ (sqk1 B2) (fun hHeld => ?_)
 clear hK K
 refine sqN (some 16) ?_
 refine sq1k 3 none (h := fun K hK => ?_)
 have := sqY3 B0
 have := sqn2 N3 N2
 refine skip_ (w1 := ?_) (by rfl) rfl ?_ ?_
 rotate_left
 ·go_simp
  rfl
 refine hK.out _ _ (sql1 N3 hHeld) (fun hHeld => ?_)
 clear hK K
 refine sqPk 4 (some 3) (h := ?_)
 refine done_ (by kernel_rfl) ?_
 try go_wp2
 refine sqE g0 34 #[.int .i64 t390, .int .i64 t391, .slice Ao1 t1.length co1] (Z33 B0) underlying34 ?_
 exact ⟨_, _, Z14, by (with_reducible repeat (first | apply Kd.Q_alloc | apply Kd.Q_drewN | apply Kd.Q_drew)); exact Kd.Q_mono (sqq3 O0.1 B0.1) (fun _ hk => trivial), by (with_reducible repeat (first | apply Kd.R_alloc | apply Kd.R_drewN | apply Kd.R_drew)); exact Kd.R_mono (sqr3 O2.1 B0.1) (fun _ hk => trivial), Z32 HI0 E0 E1⟩

def F75.f (k : Nat) (a0_0 : Int) (a0_1 : Int) : Option (Bool) := (F2.f k a0_0 a0_1).bind fun t0 => (some (!t0))
theorem F75.m : ∀ a0 a1 k, LeO (F75.f k a0 a1) (F75.f (k + 1) a0 a1) := by
 intro a0 a1 k
 unfold F75.f
 repeat' (with_reducible first | exact F2.m _ _ _ | exact LeO.refl _ | exact LeO.none _ | refine LeO.ite ?_ ?_ | refine LeO.bind ?_ fun _ => ?_)
theorem F75.c (k : Nat) (a0_0 : Int) (a0_1 : Int) (r : Bool) (w : World) (H : F75.f k a0_0 a0_1 = some r) :
  Calls prog 110 #[.agg #[.int .i64 a0_0, .int .i64 a0_1]] w fun e w' => e = .returned (.bool r) ∧ Below w.heap.size w w' := by
 have hu31 := underlying31
 have HB := sqh w
 unfold F75.f at H
 obtain ⟨t0, A2, H⟩ := sqD H
 obtain rfl := sqo H
 go_enter func110, ntmps110
 go_wp2_with (first | ((with_reducible refine sqd 1 rfl ?_); refine sqBx w (sqB HB) (cs := #[.int .i64 a0_0, .int .i64 a0_1]) (t := 31) ?_; intro g0 hg w3 B0 E0 HB hb; clear hb hg; have := sqY2 B0) | ((with_reducible refine sqc 70 rfl ?_); refine sqC (some 4) func70 #[.agg #[.int .i64 a0_0, .int .i64 a0_1]] ?_; (with_reducible refine (F2.c k a0_0 a0_1 t0 _ A2.1).mono ?_); refine sqV fun w5 hb => ?_; replace B0 := sqT B0 hb; replace HB := sqS (sqB1 HB E0) hb))
 go_ret
 exact ⟨Z14, sqB1 HB E0⟩

section
theorem gate_dyn {P : Program} {ops : Array Oper} {rest : List Oper} {o : Oper} {a : Act} {Q : Exit → Act → World → Prop} {W : World} {t : Tmp} {zs : Array Operand} {ts : Array TypeId} (_ho : o.op = .call { callee := .value (.tmp t), args := zs, argTypes := ts }) (h : wpList P ops Q (o :: rest) a W) : wpList P ops Q (o :: rest) a W := h
/-- A call of a function value that stands in a temporary: after the words' goesL_. -/
theorem goesV_ {P : Program} {ops : Array Oper} {Q : Exit → Act → World → Prop} {rest : List Oper} {oi : Oper} {a : Act} {w : World} (N : Option Tmp) (hd : oi.dst = N) (hg : oi.guard = none) {f : FuncId} {fn : Func} {t : Tmp} {zs : Array Operand} {ts : Array TypeId} (hf : P.funcs[f]? = some fn) (hname : (fn.name == "runtime.NumGoroutine") = false) (hb : fn.body.isSome = true) (args : Array Value)
  (hop : oi.op = .call { callee := .value (.tmp t), args := zs, argTypes := ts }) (hev : a.eval (.tmp t) = .func (.func f) #[] #[]) (hargs : zs.map a.eval = args)
  (h : Calls P f args w fun e w' => ∃ v, e = .returned v ∧ wpList P ops Q rest (a.put N v) w') : wpList P ops Q (oi :: rest) a w := by
 refine wpList_plain hg fun K hK => ?_
 have he := enters_ hf hname hb args w
 have hrun : (execOp a.eval oi).run P w = .ok (.enter f args) w := by
  unfold execOp
  simp [hop, resolve, Deferred.ofValue, invoke, hev, hargs, he]
 unfold Oper.wp
 rw [hrun, Oper.upon_enter]
 refine h.mono fun e w'' hh => ?_
 obtain ⟨v, rfl, hk⟩ := hh
 subst hd
 exact hK _ _ hk
end
def F45.l0 : Nat → List (S31) → Int → Int → Option (Int)
 | 0, _, _, _ => none
 | k + 1, x0, x7, x8 => if x8 < x7 then (if 0 ≤ x8 then (if x8 < (x0.length : Int) then ((F75.f k ((rd_T31 x0 x8).f0) ((rd_T31 x0 x8).f1)).bind fun t0 => (if t0 = true then (some x8) else (F45.l0 k x0 x7 (wrap64 (x8 + 1))))) else (none)) else (none)) else (some (-1))
def F45.f (k : Nat) (l0 : List (S31)) (a1 : Int) : Option (Int) := F45.l0 k l0 (l0.length : Int) 0
abbrev F45.M (k : Nat) : Prop := (∀ y0 y1 y2, LeO (F45.l0 k y0 y1 y2) (F45.l0 (k + 1) y0 y1 y2))
theorem F45.mt : ∀ k, F45.M k → F45.M (k + 1) ∧ ∀ a0 a1, LeO (F45.f k a0 a1) (F45.f (k + 1) a0 a1) := by
  rintro k ih0
  refine ⟨?_, ?_⟩ <;> (try unfold F45.M) <;> intros <;> (first | unfold F45.l0 | unfold F45.f) <;> repeat' (with_reducible first | exact ih0 _ _ _ | exact F75.m _ _ _ | exact LeO.refl _ | exact LeO.none _ | refine LeO.ite ?_ ?_ | refine LeO.bind ?_ fun _ => ?_)
theorem F45.ml : ∀ k, F45.M k
 | 0 => fun _ _ _ r h => by simp [F45.l0] at h
 | k + 1 => (F45.mt k (F45.ml k)).1
theorem F45.m a0 a1 k : LeO (F45.f k a0 a1) (F45.f (k + 1) a0 a1) := (F45.mt k (F45.ml k)).2 a0 a1
theorem F45.c (k : Nat) (A0 : Option Addr) (c0 : Nat) (l0 : List (S31)) (a1 : Int) (r : Int) (w : World) (hr0 : Kd.C k31 w A0 l0.length l0) (hc0 : l0.length ≤ c0) (H : F45.f k l0 a1 = some r) :
  Calls prog 137 #[.slice A0 l0.length c0, .func (.func 110) #[] #[]] w fun e w' => e = .returned (.int .i64 r) ∧ Below w.heap.size w w' := by
 have hu31 := underlying31
 have HR0 := sqa hr0
 have HC0 := sqa hc0
 clear hr0 hc0
 have HB := sqh w
 unfold F45.f at H
 have H' := sqa H
 clear H
 go_enter func137, ntmps137
 go_wp2
 go_loopg [8] k (fun kq v8 w' => ∃ (x8_1 : Int), v8 = .int .i64 x8_1 ∧ Aside0 (F45.l0 kq l0 (l0.length : Int) x8_1 = some r) ∧ Aside0 (kq ≤ k) ∧ Aside0 (Below w.heap.size w w'))
 case atStart => exact ⟨(0), Z2, H', ⟨Nat.le_refl _⟩, ⟨sqB HB⟩⟩
 case round =>
  clear H'
  obtain ⟨x8_1, rfl, HA, HK1, HB⟩ := hrel
  cases gk with
  | zero => exact absurd HA.out (by simp [F45.l0])
  | succ k1 =>
   have H := HA.out
   clear HA
   simp only [F45.l0] at H
   by_cases c3 : x8_1 < (l0.length : Int)
   ·rw [if_pos c3] at H
    have c3b0 : decide (x8_1 < (l0.length : Int)) = true := decide_eq_true c3
    clear c3
    obtain ⟨c4, H⟩ := sqI H
    have c4b0 : decide (0 ≤ x8_1) = true := decide_eq_true c4
    clear c4
    obtain ⟨c5, H⟩ := sqI H
    have c5b0 : decide (x8_1 < (l0.length : Int)) = true := decide_eq_true c5
    clear c5
    obtain ⟨t0, A6, H⟩ := sqD H
    by_cases c7 : t0 = true
    ·subst c7
     rw [if_pos rfl] at H
     obtain rfl := sqo H
     have p0 : 0 ≤ (x8_1 : Int) := of_decide_eq_true Z7
     have q0 : x8_1 < (l0.length : Int) := of_decide_eq_true Z7
     obtain ⟨ad0, e0, hx0, hx1⟩ := at_T31 HR0.1 x8_1 p0 q0
     cases e0
     replace hx0 := (HB.1.cell (World.block_lt_of_cell? w _ hx0)).trans hx0
     replace hx1 := (HB.1.cell (World.block_lt_of_cell? w _ hx1)).trans hx1
     replace p0 := eq_true p0
     replace q0 := eq_true q0
     go_wp2_with (first | ((with_reducible refine gate_dyn rfl ?_); refine goesV_ (some 16) rfl rfl func110 (by kernel_rfl) rfl #[.agg #[.int .i64 ((rd_T31 l0 x8_1).f0), .int .i64 ((rd_T31 l0 x8_1).f1)]] rfl (by rfl) sqA ?_; (with_reducible refine (F75.c k1 ((rd_T31 l0 x8_1).f0) ((rd_T31 l0 x8_1).f1) true _ A6.1).mono ?_); refine sqV fun w8 hb => ?_; replace HB := sqS (sqB HB) hb))
     go_ret
     exact ⟨Z14, sqB HB⟩
    obtain rfl := sqb c7
    rw [if_neg sqF] at H
    have H' := sqa H
    clear H
    have p0 : 0 ≤ (x8_1 : Int) := of_decide_eq_true Z7
    have q0 : x8_1 < (l0.length : Int) := of_decide_eq_true Z7
    obtain ⟨ad0, e0, hx0, hx1⟩ := at_T31 HR0.1 x8_1 p0 q0
    cases e0
    replace hx0 := (HB.1.cell (World.block_lt_of_cell? w _ hx0)).trans hx0
    replace hx1 := (HB.1.cell (World.block_lt_of_cell? w _ hx1)).trans hx1
    replace p0 := eq_true p0
    replace q0 := eq_true q0
    go_wp2_with (first | ((with_reducible refine gate_dyn rfl ?_); refine goesV_ (some 16) rfl rfl func110 (by kernel_rfl) rfl #[.agg #[.int .i64 ((rd_T31 l0 x8_1).f0), .int .i64 ((rd_T31 l0 x8_1).f1)]] rfl (by rfl) sqA ?_; (with_reducible refine (F75.c k1 ((rd_T31 l0 x8_1).f0) ((rd_T31 l0 x8_1).f1) false _ A6.1).mono ?_); refine sqV fun w9 hb => ?_; replace HB := sqS (sqB HB) hb))
    go_roundg k1
    case measure => have := HK1.out; omega
    case rel => exact ⟨(wrap64 (x8_1 + 1)), Z2, H', ⟨Z15 HK1⟩, ⟨sqB HB⟩⟩
   rw [if_neg c3] at H
   have c3b0 : decide (x8_1 < (l0.length : Int)) = false := decide_eq_false c3
   clear c3
   obtain rfl := sqo H
   go_wp2
   go_ret
   exact ⟨Z14, sqB HB⟩

def F77.f (k : Nat) (l0 : List (S31)) (a1 : Int) : Option (Bool) := (F45.f k l0 a1).bind fun t0 => (some (decide (t0 ≥ 0)))
theorem F77.m : ∀ a0 a1 k, LeO (F77.f k a0 a1) (F77.f (k + 1) a0 a1) := by
 intro a0 a1 k
 unfold F77.f
 repeat' (with_reducible first | exact F45.m _ _ _ | exact LeO.refl _ | exact LeO.none _ | refine LeO.ite ?_ ?_ | refine LeO.bind ?_ fun _ => ?_)
theorem F77.c (k : Nat) (A0 : Option Addr) (c0 : Nat) (l0 : List (S31)) (a1 : Int) (r : Bool) (w : World) (hr0 : Kd.C k31 w A0 l0.length l0) (hc0 : l0.length ≤ c0) (H : F77.f k l0 a1 = some r) :
  Calls prog 109 #[.slice A0 l0.length c0, .func (.func 110) #[] #[]] w fun e w' => e = .returned (.bool r) ∧ Below w.heap.size w w' := by
 have HR0 := sqa hr0
 have HC0 := sqa hc0
 clear hr0 hc0
 have HB := sqh w
 unfold F77.f at H
 obtain ⟨t0, A3, H⟩ := sqD H
 obtain rfl := sqo H
 go_enter func109, ntmps109
 go_wp2_with (first | ((with_reducible refine sqc 137 rfl ?_); refine sqC (some 7) func137 #[.slice A0 l0.length c0, .func (.func 110) #[] #[]] ?_; (with_reducible refine (F45.c k _ _ l0 a1 t0 _ ?side1 ?side2 A3.1).mono ?_); (case side1 => repeat (first | exact HR0.1 | (with_reducible refine Kd.C_alloc ?_ _) | (with_reducible refine Kd.C_drewN ?_ _) | (with_reducible refine Kd.C_drew ?_))); (case side2 => exact HC0.1); refine sqV fun w4 hb => ?_; replace HB := sqS (sqB HB) hb))
 go_ret
 exact ⟨Z14, sqB HB⟩

def F47.f (k : Nat) (a0_0 : Int) (a0_1 : Int) (l0_2 : List (S31)) : Option (Bool) := (F2.f k a0_0 a0_1).bind fun t0 => (if t0 = true then (if (l0_2.length : Int) ≤ 8 then ((F77.f k l0_2 777777).bind fun t1 => (some (!t1))) else (some false)) else (some false))
theorem F47.m : ∀ a0 a1 a2 k, LeO (F47.f k a0 a1 a2) (F47.f (k + 1) a0 a1 a2) := by
 intro a0 a1 a2 k
 unfold F47.f
 repeat' (with_reducible first | exact F77.m _ _ _ | exact F2.m _ _ _ | exact LeO.refl _ | exact LeO.none _ | refine LeO.ite ?_ ?_ | refine LeO.bind ?_ fun _ => ?_)
theorem F47.c (k : Nat) (a0_0 : Int) (a0_1 : Int) (A0_2 : Option Addr) (c0_2 : Nat) (l0_2 : List (S31)) (r : Bool) (w : World) (hr0_2 : Kd.C k31 w A0_2 l0_2.length l0_2) (hc0_2 : l0_2.length ≤ c0_2) (H : F47.f k a0_0 a0_1 l0_2 = some r) :
  Calls prog 60 #[.agg #[.int .i64 a0_0, .int .i64 a0_1, .slice A0_2 l0_2.length c0_2]] w fun e w' => e = .returned (.bool r) ∧ Below w.heap.size w w' := by
 have hu34 := underlying34
 have hu31 := underlying31
 have HR0_2 := sqa hr0_2
 have HC0_2 := sqa hc0_2
 clear hr0_2 hc0_2
 have HB := sqh w
 unfold F47.f at H
 obtain ⟨t0, A2, H⟩ := sqD H
 by_cases c3 : t0 = true
 ·subst c3
  rw [if_pos rfl] at H
  by_cases c4 : (l0_2.length : Int) ≤ 8
  ·rw [if_pos c4] at H
   have c4b0 : decide ((l0_2.length : Int) ≤ 8) = true := decide_eq_true c4
   have c4b1 : decide (l0_2.length ≤ 8) = true := decide_eq_true (by omega)
   clear c4
   obtain ⟨t1, A5, H⟩ := sqD H
   obtain rfl := sqo H
   go_enter func60, ntmps60
   go_wp2_with (first | ((with_reducible refine sqd 1 rfl ?_); (try (refine gate_guard (by rfl) ?_; dsimp only)); refine sqBx w (sqB HB) (cs := #[.int .i64 a0_0, .int .i64 a0_1, .slice A0_2 l0_2.length c0_2]) (t := 34) ?_; intro g0 hg w6 B0 E0 HB hb; clear hb hg; have := sqY3 B0) | ((with_reducible refine sqc 70 rfl ?_); refine sqC (some 5) func70 #[.agg #[.int .i64 a0_0, .int .i64 a0_1]] ?_; (with_reducible refine (F2.c k a0_0 a0_1 true _ A2.1).mono ?_); refine sqV fun w8 hb => ?_; replace B0 := sqT B0 hb; replace HB := sqS (sqB1 HB E0) hb; have := sqY3 B0) | (go_at_call 109; (with_reducible refine (F77.c k _ _ l0_2 777777 t1 _ ?side1 ?side2 A5.1).mono ?_); (case side1 => exact Z1); (case side2 => exact HC0_2.1); rintro e w0 ⟨rfl, hb⟩; replace B0 := sqT B0 hb; replace HB := sqS (sqB1 HB E0) hb))
   go_ret
   exact ⟨Z14, sqB1 HB E0⟩
  rw [if_neg c4] at H
  have c4b0 : decide ((l0_2.length : Int) ≤ 8) = false := decide_eq_false c4
  have c4b1 : decide (l0_2.length ≤ 8) = false := decide_eq_false (by omega)
  clear c4
  obtain rfl := sqo H
  go_enter func60, ntmps60
  go_wp2_with (first | ((with_reducible refine sqd 1 rfl ?_); (try (refine gate_guard (by rfl) ?_; dsimp only)); refine sqBx w (sqB HB) (cs := #[.int .i64 a0_0, .int .i64 a0_1, .slice A0_2 l0_2.length c0_2]) (t := 34) ?_; intro g0 hg w1 B0 E0 HB hb; clear hb hg; have := sqY3 B0) | ((with_reducible refine sqc 70 rfl ?_); refine sqC (some 5) func70 #[.agg #[.int .i64 a0_0, .int .i64 a0_1]] ?_; (with_reducible refine (F2.c k a0_0 a0_1 true _ A2.1).mono ?_); refine sqV fun w2 hb => ?_; replace B0 := sqT B0 hb; replace HB := sqS (sqB1 HB E0) hb; have := sqY3 B0))
  go_ret
  exact ⟨Z14, sqB1 HB E0⟩
 obtain rfl := sqb c3
 rw [if_neg sqF] at H
 obtain rfl := sqo H
 go_enter func60, ntmps60
 go_wp2_with (first | ((with_reducible refine sqd 1 rfl ?_); (try (refine gate_guard (by rfl) ?_; dsimp only)); refine sqBx w (sqB HB) (cs := #[.int .i64 a0_0, .int .i64 a0_1, .slice A0_2 l0_2.length c0_2]) (t := 34) ?_; intro g0 hg w3 B0 E0 HB hb; clear hb hg; have := sqY3 B0) | ((with_reducible refine sqc 70 rfl ?_); refine sqC (some 5) func70 #[.agg #[.int .i64 a0_0, .int .i64 a0_1]] ?_; (with_reducible refine (F2.c k a0_0 a0_1 false _ A2.1).mono ?_); refine sqV fun w4 hb => ?_; replace B0 := sqT B0 hb; replace HB := sqS (sqB1 HB E0) hb))
 go_ret
 exact ⟨Z14, sqB1 HB E0⟩
end Go.Proofs.YtofmlbgfcohhoaaGreatDoor.PFnReadJournal
