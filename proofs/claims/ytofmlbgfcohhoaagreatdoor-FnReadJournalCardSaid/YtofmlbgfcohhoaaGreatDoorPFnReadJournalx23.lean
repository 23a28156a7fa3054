import Derived.Test.YtofmlbgfcohhoaaGreatDoorPFnReadJournalx20
set_option maxHeartbeats 8000000
set_option maxRecDepth 100000
namespace Go.Proofs.YtofmlbgfcohhoaaGreatDoor.PFnReadJournal
open Go.RowKit Go.Proofs.YtofmlbgfcohhoaaGreatDoorW.PrintWords Go.Proofs.YtofmlbgfcohhoaaGreatDoorW.PrintLast Go.Proofs.YtofmlbgfcohhoaaGreatDoorW.PrintMore Go.Proofs.YtofmlbgfcohhoaaGreatDoor.Lib Go.Proofs.Tryz
attribute [local go_sem] max2_int min2_int max_two min_two max_three min_three max_four min_four
set_option linter.unusedVariables false
set_option linter.unusedSimpArgs false

section
attribute [local go_sem high] eqA38
mutual
def F5.j0 : Nat → ByteArray → List (S38) → Option (Int × ByteArray × Bool)
 | 0, _, _ => none
 | k + 1, x0, x5 => F5.l0 k x0 x5 0
def F5.l0 : Nat → ByteArray → List (S38) → Int → Option (Int × ByteArray × Bool)
 | 0, _, _, _ => none
 | k + 1, x0, x5, x6 => if x6 < (x5.length : Int) then (if x0.toList = ([] : List UInt8) then (F5.l0 k x0 x5 (wrap64 (x6 + 1))) else (if 0 ≤ x6 then ((F9.f k ((rd_T38 x5 x6).f0) ((rd_T38 x5 x6).f1)).bind fun t0 => (if t0.toList = x0.toList then (some ((rd_T38 x5 x6).f0, (rd_T38 x5 x6).f1, true)) else (F5.l0 k x0 x5 (wrap64 (x6 + 1))))) else (none))) else (some (0, (⟨#[]⟩ : ByteArray), false))
end
def F5.f (k : Nat) (a0 : ByteArray) : Option (Int × ByteArray × Bool) := (F22.f k a0 32).bind fun t0 => ((some (([(⟨2, (⟨#[]⟩ : ByteArray)⟩ : S38), (⟨3, (⟨#[]⟩ : ByteArray)⟩ : S38), (⟨4, (⟨#[]⟩ : ByteArray)⟩ : S38)] : List (S38)) : List (S38))).bind fun y0 => (if (t0.length : Int) = 2 then (if 1 < (t0.length : Int) then ((some (([(⟨0, rdOf ByteArray.empty t0 1⟩ : S38), (⟨1, rdOf ByteArray.empty t0 1⟩ : S38)] : List (S38)) : List (S38))).bind fun y1 => (if y0.length + y1.length < 5864062014805 then (F5.j0 k a0 (y0 ++ y1)) else (none))) else (none)) else (F5.j0 k a0 y0)))
abbrev F5.M (k : Nat) : Prop := (∀ y0 y1, LeO (F5.j0 k y0 y1) (F5.j0 (k + 1) y0 y1)) ∧ (∀ y0 y1 y2, LeO (F5.l0 k y0 y1 y2) (F5.l0 (k + 1) y0 y1 y2))
theorem F5.mt : ∀ k, F5.M k → F5.M (k + 1) ∧ ∀ a0, LeO (F5.f k a0) (F5.f (k + 1) a0) := by
  rintro k ⟨ih0, ih1⟩
  refine ⟨⟨?_, ?_⟩, ?_⟩ <;> intros <;> (first | unfold F5.j0 | unfold F5.l0 | unfold F5.f) <;> repeat' (with_reducible first | exact ih0 _ _ | exact ih1 _ _ _ | exact F9.m _ _ _ | exact F22.m _ _ _ | exact LeO.refl _ | exact LeO.none _ | refine LeO.ite ?_ ?_ | refine LeO.bind ?_ fun _ => ?_)
theorem F5.ml : ∀ k, F5.M k
 | 0 => ⟨fun _ _ r h => by simp [F5.j0] at h, fun _ _ _ r h => by simp [F5.l0] at h⟩
 | k + 1 => (F5.mt k (F5.ml k)).1
theorem F5.m a0 k : LeO (F5.f k a0) (F5.f (k + 1) a0) := (F5.mt k (F5.ml k)).2 a0
def F5.T4 : Bool × List (List Nat × List Nat) := (true, [([], []), ([], []), ([1], [1]), ([2], [2]), ([3], [3]), ([], []), ([5], [5]), ([6], [6]), ([7], [7]), ([4, 8], [4, 8]), ([0, 9], [0, 9]), ([10, 10, 0, 1, 2, 3, 4, 5, 6, 7, 8, 9, 10], [0, 10])])
def F5.B4 : List Nat := [0, 0, 2, 6, 14, 0, 32, 96, 224, 510, 1023, 2047]
theorem F5.tab4 : rtab .any (opsOf f86 4) = F5.T4 := by kernel_rfl
theorem F5.bits4 : waitsOk F5.T4.2 F5.B4 = true := by kernel_rfl
theorem F5.c (k : Nat) (a0 : ByteArray) (r1 : Int) (r2 : ByteArray) (r3 : Bool) (w : World) (H : F5.f k a0 = some (r1, r2, r3)) :
  Calls prog 86 #[.string a0] w fun e w' => e = .returned (.tuple #[.agg #[.int .i64 r1, .string r2], .bool r3]) ∧ Below w.heap.size w w' := by
 have hu38 := underlying38
 have HB := sqh w
 unfold F5.f at H
 obtain ⟨t0, A2, H⟩ := sqD H
 obtain ⟨y0, hy0⟩ : ∃ y_ : List (S38), y_ = (([(⟨2, (⟨#[]⟩ : ByteArray)⟩ : S38), (⟨3, (⟨#[]⟩ : ByteArray)⟩ : S38), (⟨4, (⟨#[]⟩ : ByteArray)⟩ : S38)] : List (S38))) := ⟨_, rfl⟩
 replace H : (if (t0.length : Int) = 2 then (if 1 < (t0.length : Int) then ((some (([(⟨0, rdOf ByteArray.empty t0 1⟩ : S38), (⟨1, rdOf ByteArray.empty t0 1⟩ : S38)] : List (S38)) : List (S38))).bind fun y1 => (if y0.length + y1.length < 5864062014805 then (F5.j0 k a0 (y0 ++ y1)) else (none))) else (none)) else (F5.j0 k a0 y0)) = some (r1, r2, r3) := sqW hy0 H
 have Ny0 := sqa hy0
 clear hy0
 have HC3 := sqa H
 clear H
 go_enter func86, ntmps86
 go_upto_if 15 with (first | ((with_reducible refine sqd 2 rfl ?_); refine sqBx w (sqB HB) (cs := #[.int .i64 0, .string (⟨#[]⟩ : ByteArray)]) (t := 38) ?_; intro g0 hg w4 B0 E0 HB hb; clear hb hg) | ((with_reducible refine sqc 99 rfl ?_); refine sqC (some 8) func99 #[.string a0, .int .u8 32] ?_; (with_reducible refine (F22.c k a0 32 t0 _ A2.1).mono ?_); rintro e w5 ⟨v0, rfl, ho0, hb⟩; refine ⟨_, rfl, ?_⟩; have O0 := sqL ho0 (sqB1 HB E0); replace B0 := sqT B0 hb; replace HB := sqS (sqB1 HB E0) hb; (try clear ho0)) | ((with_reducible refine sqd 12 rfl ?_); refine Kd.R_lit k38 _ 38 ?hg (N := 12) ?hd (xs := ([(⟨2, (⟨#[]⟩ : ByteArray)⟩ : S38), (⟨3, (⟨#[]⟩ : ByteArray)⟩ : S38), (⟨4, (⟨#[]⟩ : ByteArray)⟩ : S38)] : List (S38))) (inner := [.int .i64 2, .string (⟨#[]⟩ : ByteArray), .int .i64 3, .string (⟨#[]⟩ : ByteArray), .int .i64 4, .string (⟨#[]⟩ : ByteArray)]) (ok := fun _ => True) (okp := fun _ => True) ?hr ?hp (fun _ hk => hk) trivial (Below.refl _ _) (Nat.le_refl _) (by simp) ?_; (case hd => rfl); (case hg => rfl); (case hr => exact Z8); (case hp => exact (Reps.c2 (show Kd.M k38 _ _ _ (⟨2, (⟨#[]⟩ : ByteArray)⟩ : S38) [.int .i64 2, .string (⟨#[]⟩ : ByteArray)] from (k38_mkM _ _ _ (⟨2, (⟨#[]⟩ : ByteArray)⟩ : S38) )) (Reps.c2 (show Kd.M k38 _ _ _ (⟨3, (⟨#[]⟩ : ByteArray)⟩ : S38) [.int .i64 3, .string (⟨#[]⟩ : ByteArray)] from (k38_mkM _ _ _ (⟨3, (⟨#[]⟩ : ByteArray)⟩ : S38) )) (Reps.c2 (show Kd.M k38 _ _ _ (⟨4, (⟨#[]⟩ : ByteArray)⟩ : S38) [.int .i64 4, .string (⟨#[]⟩ : ByteArray)] from (k38_mkM _ _ _ (⟨4, (⟨#[]⟩ : ByteArray)⟩ : S38) )) (Reps.none _ _))))); intro v1 w6 ho7 hb hg_ hnew_; clear hg_ hnew_; (first | rw [← Ny0.out] at ho7 | (simp only [Int.reduceToNat] at ho7; rw [← Ny0.out] at ho7)); replace O0 := sqU O0 hb; have O1 := sqa (Kd.R_lower (Kd.R_newB ho7 (sqK B0)) (below_size (sqB1 HB E0))); replace B0 := sqT B0 hb; replace HB := sqS (sqB1 HB E0) hb; clear hb ho7; obtain ⟨Ao8, co8, eo8⟩ := Kd.R_slice O0.1; subst eo8))
 (try simp only [Act.put, List.setIfInBounds_toArray, List.set_cons_zero, List.set_cons_succ])
 go_cut [5] (fun v5 wc => ∃ (kq : Nat) (x5_2 : List (S38)), Aside0 (F5.j0 kq a0 x5_2 = some (r1, r2, r3)) ∧ Aside0 (kq ≤ k) ∧ Aside0 (Kd.R k38 38 wc w.heap.size (fun k_ => k_ ≠ g0) v5 x5_2) ∧ Aside0 (wc.heap[g0]? = some (.cells #[.int .i64 0, .string (⟨#[]⟩ : ByteArray)] 38 (0, 0))) ∧ Aside0 (Below w.heap.size w wc))
 case first =>
  have H := HC3.1
  clear HC3
  by_cases c9 : (t0.length : Int) = 2
  ·rw [if_pos c9] at H
   have c9b0 : ((t0.length : Int) == 2) = true := sqe1 c9
   have c9b1 : ((t0.length : Int) != 2) = false := sqn0 c9
   clear c9
   (first | rw [c9b0] | (simp only [i64_w, i32_w]; rw [c9b0]) | skip)
   obtain ⟨c10, H⟩ := sqI H
   have c0 : decide (1 < (t0.length : Int)) = true := decide_eq_true c10
   have c1 : decide (1 < t0.length) = true := decide_eq_true (by omega)
   clear c10
   obtain ⟨y1, hy1⟩ : ∃ y_ : List (S38), y_ = (([(⟨0, rdOf ByteArray.empty t0 1⟩ : S38), (⟨1, rdOf ByteArray.empty t0 1⟩ : S38)] : List (S38))) := ⟨_, rfl⟩
   replace H : (if y0.length + y1.length < 5864062014805 then (F5.j0 k a0 (y0 ++ y1)) else (none)) = some (r1, r2, r3) := sqW hy1 H
   have Ny1 := sqa hy1
   clear hy1
   obtain ⟨c3, H⟩ := sqI H
   have LMc0 := sqa c3
   clear c3
   obtain ⟨y2, hy2⟩ : ∃ y_ : List (S38), y_ = (y0 ++ y1) := ⟨_, rfl⟩
   replace H : (F5.j0 k a0 y2) = some (r1, r2, r3) := sqW hy2 H
   have Ny2 := sqa hy2
   clear hy2
   have H' := sqa H
   clear H
   try go_wp2
   replace O0 := sqa (Kd.R_drew O0.1)
   replace O1 := sqa (Kd.R_drew O1.1)
   replace B0 := sqa (blk_drew B0.1)
   replace HB := sqa (below_drew1 HB.1)
   have p0 : 0 ≤ (1 : Int) := (by omega)
   have q0 : 1 < (t0.length : Int) := of_decide_eq_true Z7
   obtain ⟨ad0, e0, hx0⟩ := Kd.at_string (Kd.R_reads' O0.1).2.2 1 p0 q0
   cases e0
   (try simp only [show (1 : Int).toNat = 1 from rfl, Nat.reduceMul, Nat.reduceEqDiff, Go.Addr.add, ↓reduceIte] at hx0)
   have qi0 : (1 < t0.length) = True := eq_true (by omega)
   (try rw [show ((1 : Int)).toNat = 1 from rfl] at hx0)
   replace p0 := eq_true p0
   replace q0 := eq_true q0
   have p1 : 0 ≤ (1 : Int) := (by omega)
   have q1 : 1 < (t0.length : Int) := of_decide_eq_true Z7
   obtain ⟨ad1, e1, hx1⟩ := Kd.at_string (Kd.R_reads' O0.1).2.2 1 p1 q1
   obtain rfl : ad0 = ad1 := (by injection e1)
   (try simp only [show (1 : Int).toNat = 1 from rfl, Nat.reduceMul, Nat.reduceEqDiff, Go.Addr.add, ↓reduceIte] at hx1)
   have qi1 : (1 < t0.length) = True := eq_true (by omega)
   (try rw [show ((1 : Int)).toNat = 1 from rfl] at hx1)
   replace p1 := eq_true p1
   replace q1 := eq_true q1
   refine start_ (n := 12) (S := fun w' => w'.cell? ⟨ad0.block, ad0.off + 1, none⟩ = some (.string (rdOf ByteArray.empty t0 1)) ∧ w'.cell? ⟨ad0.block, ad0.off + 1, none⟩ = some (.string (rdOf ByteArray.empty t0 1))) (ds := [10]) #[false, false, false, false, false, false, false, false, false, false, false, false] (by kernel_rfl) rfl rfl ⟨hx0, hx1⟩ (fun hHeld => ?_); refine with_tabW F5.tab4 F5.bits4 (fun HT_ HW_ => ?_)
   generalize w6.drew = w1 at O0 O1 B0 HB hx0 hx1 hHeld ⊢
   refine sqP 0 (some 16) (h := ?_)
   refine sqP 1 (some 17) (h := ?_)
   refine sqP 2 (some 18) (h := ?_)
   refine sqP 5 (some 21) (h := ?_)
   refine sqP 6 (some 22) (h := ?_)
   refine sqQ 3 (some 19) hHeld (h := ?_)
   refine sqP 4 (some 20) (h := ?_)
   refine sqQ 7 (some 23) hHeld (h := ?_)
   refine sqP 8 (some 24) (h := ?_)
   refine sq1 9 (some 25) (h := fun K hK => ?_)
   refine Kd.R_lit_step k38 _ 38 ?hg (N := 25) ?hd (xs := ([(⟨0, rdOf ByteArray.empty t0 1⟩ : S38), (⟨1, rdOf ByteArray.empty t0 1⟩ : S38)] : List (S38))) (inner := [.int .i64 0, .string (rdOf ByteArray.empty t0 1), .int .i64 1, .string (rdOf ByteArray.empty t0 1)]) (ok := fun _ => True) (okp := fun _ => True) ?hr ?hp (fun _ hk => hk) trivial (Below.refl _ _) (Nat.le_refl _) (by simp) ?_; (case hd => rfl); (case hg => rfl); (case hr => exact Z8); (case hp => exact (Reps.c2 (show Kd.M k38 _ _ _ (⟨0, rdOf ByteArray.empty t0 1⟩ : S38) [.int .i64 0, .string (rdOf ByteArray.empty t0 1)] from (k38_mkM _ _ _ (⟨0, rdOf ByteArray.empty t0 1⟩ : S38) )) (Reps.c2 (show Kd.M k38 _ _ _ (⟨1, rdOf ByteArray.empty t0 1⟩ : S38) [.int .i64 1, .string (rdOf ByteArray.empty t0 1)] from (k38_mkM _ _ _ (⟨1, rdOf ByteArray.empty t0 1⟩ : S38) )) (Reps.none _ _))))
   intro v2 w2 ho1 hb hg_ hnew_
   have HS0_ := (hb.cell (World.block_lt_of_cell? _ _ (hHeld.1))).trans (hHeld.1)
   have HS1_ := (hb.cell (World.block_lt_of_cell? _ _ (hHeld.2))).trans (hHeld.2)
   clear hg_ hnew_
   (first | rw [← Ny1.out] at ho1 | (simp only [Int.reduceToNat] at ho1; rw [← Ny1.out] at ho1))
   replace O0 := sqU O0 hb
   have O2 := sqa (Kd.R_lower (Kd.R_newB (Kd.R_new' ho1 (Kd.R_lt (sqR O1))) (sqK B0)) (below_size (sqB1 HB E0)))
   replace O1 := sqa (Kd.R_elder' (sqR O1) (Kd.R_base ho1) hb)
   replace B0 := sqT B0 hb
   replace HB := sqS (sqB1 HB E0) hb
   clear hb ho1
   obtain ⟨Ao0, co0, eo0⟩ := Kd.R_slice O2.1
   (first | subst eo0 | (injection eo0 with f1_ f2_ f3_; have f4_ := f1_.symm; have f5_ := f3_.symm; clear f1_ f2_ f3_; subst f4_; subst f5_))
   refine hK.out _ _ ⟨HS0_, HS1_⟩ (fun hHeld => ?_)
   clear hK K
   refine sqN (some 25) ?_
   refine last_ (i := 10) (N := some 26) #[true, true, true, true, true, true, true, true, true, true, true, false] rfl rfl (one_of HT_.out (by kernel_rfl)) (by decide) (fun K hK => ?_)
   refine Kd.R_append_rows_step k38 (w0 := w) w.heap.size (by rfl) (.tmp 16) (.tmp 25) 52 38 (.agg #[(.int .i64 0), (.string ⟨#[]⟩)]) 24 rfl underlying52 info38 rfl (by decide) (by omega) v1 y0 y1 _ _ _ (fun k_ => some k_ ≠ (.slice Ao0 y1.length co0 : Value).ownBlock ∧ k_ ≠ g0) (fun _ => False) rfl rfl ?aO ?aR (fun _ _ h => h) (fun _ h => h.elim) ?aF ?aB ?aS ?aL ?_
   (case aR => exact Z47 O2)
   (case aB => exact (sqB1 HB E0))
   (case aF => exact (fun k_ hk => ⟨Kd.fresh' (Kd.R_lt (sqR O2)) k_ hk, Kd.freshB (sqK B0) k_ hk⟩))
   (case aO => exact (Z96 O1))
   (case aS => exact (below_size (sqB1 HB E0)))
   (case aL => exact Z15 LMc0)
   intro v3 w3 ho hb hg hat
   rw [← Ny2.out] at ho
   replace B0 := sqa (blk_grown (sqK B0) hg (Kd.R_away O1.1 (fun _ hk => hk.1.2)))
   replace O0 := sqa (Kd.R_over' (sqR O0) (Kd.R_typed (sqR O1)) (by decide) hg)
   replace O2 := sqa (Kd.R_after (ok := (fun k_ => k_ ≠ g0)) (Z96 O2) hg hat)
   replace HB := sqa (hb)
   have O3 := sqa (ho)
   clear O1
   clear ho hb hg hat
   refine hK.out _ _ ?_
   clear hK K
   refine sqN (some 26) ?_
   refine sqP 11 (some 5) (h := ?_)
   refine done_ (done_of HT_.out (by kernel_rfl)) ?_
   try go_wp2
   go_meet
   case rel => exact ⟨_, (y2), H', ⟨Z3⟩, ⟨Z82 O3⟩, ⟨sqK B0⟩, ⟨sqB1 HB E0⟩⟩
  rw [if_neg c9] at H
  have c9b0 : ((t0.length : Int) == 2) = false := sqe0 c9
  have c9b1 : ((t0.length : Int) != 2) = true := sqn1 c9
  (first | rw [c9b0] | (simp only [i64_w, i32_w]; rw [c9b0]) | skip)
  have H' := sqa H
  clear H
  go_wp2
  go_meet
  case rel => exact ⟨_, (y0), H', ⟨Z3⟩, ⟨Z82 O1⟩, ⟨sqK B0⟩, ⟨sqB1 HB E0⟩⟩
 case rest =>
  clear HC3
  obtain ⟨kq, x5_2, HA, HJ2, O4, B0, HB⟩ := hcut
  cases kq with
  | zero => exact absurd HA.out (by simp [F5.j0])
  | succ kj2 =>
   have H := HA.out
   clear HA
   simp only [F5.j0] at H
   have H' := sqa H
   clear H
   go_wp2
   go_loopg [6] kj2 (fun kq v6 w' => ∃ (x6_2 : Int) (x0 : Int) (x1 : ByteArray), v6 = .int .i64 x6_2 ∧ Aside0 (F5.l0 kq a0 x5_2 x6_2 = some (r1, r2, r3)) ∧ Aside0 (kq ≤ kj2) ∧ Aside0 (Kd.R k38 38 w' w.heap.size (fun k_ => k_ ≠ g0) u5 x5_2) ∧ Aside0 (w'.heap[g0]? = some (.cells #[.int .i64 x0, .string x1] 38 (0, 0))) ∧ Aside0 (Below w.heap.size w w'))
   case atStart => exact ⟨(0), (0), ((⟨#[]⟩ : ByteArray)), Z2, H', ⟨Nat.le_refl _⟩, ⟨sqR O4⟩, ⟨sqK B0⟩, ⟨sqB1 HB E0⟩⟩
   case round =>
    clear H'
    obtain ⟨x6_2, x0, x1, rfl, HA, HK2, O4, B0, HB⟩ := hrel
    cases gk with
    | zero => exact absurd HA.out (by simp [F5.l0])
    | succ k2 =>
     have H := HA.out
     clear HA
     simp only [F5.l0] at H
     by_cases c4 : x6_2 < (x5_2.length : Int)
     ·rw [if_pos c4] at H
      have c5 : decide (x6_2 < (x5_2.length : Int)) = true := decide_eq_true c4
      clear c4
      by_cases c6 : a0.toList = ([] : List UInt8)
      ·rw [if_pos c6] at H
       have c7 := sqe1 c6
       try have c8 : a0.toList.isEmpty = true := by (have h_ := c7; (repeat rw [sqy] at h_); exact h_)
       have c12 := sqn0 c6
       clear c6
       have H' := sqa H
       clear H
       obtain ⟨Ao1, co1, eo1⟩ := Kd.R_slice O4.1
       subst eo1
       go_wp2
       go_roundg k2
       case measure => have := HJ2.out; have := HK2.out; omega
       case rel => exact ⟨(wrap64 (x6_2 + 1)), (x0), (x1), Z2, H', ⟨Z52 HK2⟩, ⟨sqR O4⟩, ⟨sqK B0⟩, ⟨sqB1 HB E0⟩⟩
      rw [if_neg c6] at H
      have c7 := sqe0 c6
      try have c8 : a0.toList.isEmpty = false := by (have h_ := c7; (repeat rw [sqy] at h_); exact h_)
      have c12 := sqn1 c6
      obtain ⟨c20, H⟩ := sqI H
      have c13 : decide (0 ≤ x6_2) = true := decide_eq_true c20
      clear c20
      obtain ⟨t1, A0, H⟩ := sqD H
      by_cases c22 : t1.toList = a0.toList
      ·rw [if_pos c22] at H
       have c15 := sqe1 c22
       have c16 := sqn0 c22
       clear c22
       obtain ⟨rfl, rfl, rfl⟩ := sqO3 H
       obtain ⟨Ao2, co2, eo2⟩ := Kd.R_slice O4.1
       subst eo2
       have p2 : 0 ≤ (x6_2 : Int) := of_decide_eq_true Z7
       have q2 : x6_2 < (x5_2.length : Int) := of_decide_eq_true Z7
       obtain ⟨ad2, e2, hx2, hx3⟩ := at_T38 (Kd.R_reads' O4.1).2.2 x6_2 p2 q2
       cases e2
       replace p2 := eq_true p2
       replace q2 := eq_true q2
       go_wp2_with (first | (go_at_call 122; (with_reducible refine (F9.c k2 ((rd_T38 x5_2 x6_2).f0) ((rd_T38 x5_2 x6_2).f1) t1 _ A0.1).mono ?_); rintro e w7 ⟨rfl, hb⟩; replace O4 := sqU O4 hb; replace B0 := sqT B0 hb; replace HB := sqS (sqB1 HB E0) hb; have p3 : 0 ≤ (x6_2 : Int) := of_decide_eq_true Z7; have q3 : x6_2 < (x5_2.length : Int) := of_decide_eq_true Z7; obtain ⟨ad3, e3, hx4, hx5⟩ := at_T38 (Kd.R_reads' O4.1).2.2 x6_2 p3 q3; obtain rfl : ad2 = ad3 := (by injection e3); replace p3 := eq_true p3; replace q3 := eq_true q3; have := sqY2 B0))
       refine sqE g0 38 #[.int .i64 ((rd_T38 x5_2 x6_2).f0), .string ((rd_T38 x5_2 x6_2).f1)] (by refine sqPut (cs := #[.int .i64 ((rd_T38 x5_2 x6_2).f0), .string x1]) ?_ 1; refine sqPut (cs := #[.int .i64 x0, .string x1]) ?_ 0; exact sqK B0) underlying38 ?_
       exact ⟨Z14, sqB1 HB E0⟩
      rw [if_neg c22] at H
      have c15 := sqe0 c22
      have c16 := sqn1 c22
      have H' := sqa H
      clear H
      obtain ⟨Ao3, co3, eo3⟩ := Kd.R_slice O4.1
      subst eo3
      have p2 : 0 ≤ (x6_2 : Int) := of_decide_eq_true Z7
      have q2 : x6_2 < (x5_2.length : Int) := of_decide_eq_true Z7
      obtain ⟨ad2, e2, hx2, hx3⟩ := at_T38 (Kd.R_reads' O4.1).2.2 x6_2 p2 q2
      cases e2
      replace p2 := eq_true p2
      replace q2 := eq_true q2
      go_wp2_with (first | (go_at_call 122; (with_reducible refine (F9.c k2 ((rd_T38 x5_2 x6_2).f0) ((rd_T38 x5_2 x6_2).f1) t1 _ A0.1).mono ?_); rintro e w8 ⟨rfl, hb⟩; replace O4 := sqU O4 hb; replace B0 := sqT B0 hb; replace HB := sqS (sqB1 HB E0) hb))
      go_roundg k2
      case measure => have := HJ2.out; have := HK2.out; omega
      case rel => exact ⟨(wrap64 (x6_2 + 1)), (x0), (x1), Z2, H', ⟨Z52 HK2⟩, ⟨sqR O4⟩, ⟨sqK B0⟩, ⟨sqB1 HB E0⟩⟩
     rw [if_neg c4] at H
     have c5 : decide (x6_2 < (x5_2.length : Int)) = false := decide_eq_false c4
     clear c4
     obtain ⟨rfl, rfl, rfl⟩ := sqO3 H
     obtain ⟨Ao4, co4, eo4⟩ := Kd.R_slice O4.1
     subst eo4
     have := sqY2 B0
     go_wp2
     refine sqE g0 38 #[.int .i64 0, .string (⟨#[]⟩ : ByteArray)] (by refine sqPut (cs := #[.int .i64 0, .string x1]) ?_ 1; refine sqPut (cs := #[.int .i64 x0, .string x1]) ?_ 0; exact sqK B0) underlying38 ?_
     exact ⟨Z14, sqB1 HB E0⟩

def F26.l0 : Nat → ByteArray → List (S38) → Int → Int → Option ((List (S38)) × Int)
 | 0, _, _, _, _ => none
 | k + 1, x0, x4, x5, x6 => if x6 < (x0.size : Int) then (if 0 ≤ x6 then (if (bt x0 x6) = 10 then (if 0 ≤ x5 then (if x5 ≤ x6 then (if x6 ≤ (x0.size : Int) then ((F5.f k (x0.extract (x5 : Int).toNat (x6 : Int).toNat)).bind fun bt0 => (if bt0.2.2 = true then (if x4.length < 5864062014805 then (F26.l0 k x0 (x4 ++ [(⟨bt0.1, bt0.2.1⟩ : S38)]) (wrap64 (x6 + 1)) (wrap64 (x6 + 1))) else (none)) else (some (x4, x5)))) else (none)) else (none)) else (none)) else (F26.l0 k x0 x4 x5 (wrap64 (x6 + 1)))) else (none)) else (some (x4, x5))
def F26.f (k : Nat) (a0 : ByteArray) : Option ((List (S38)) × Int) := F26.l0 k a0 (([] : List (S38))) 0 0
abbrev F26.M (k : Nat) : Prop := (∀ y0 y1 y2 y3, LeO (F26.l0 k y0 y1 y2 y3) (F26.l0 (k + 1) y0 y1 y2 y3))
theorem F26.mt : ∀ k, F26.M k → F26.M (k + 1) ∧ ∀ a0, LeO (F26.f k a0) (F26.f (k + 1) a0) := by
  rintro k ih0
  refine ⟨?_, ?_⟩ <;> (try unfold F26.M) <;> intros <;> (first | unfold F26.l0 | unfold F26.f) <;> repeat' (with_reducible first | exact ih0 _ _ _ _ | exact F5.m _ _ | exact LeO.refl _ | exact LeO.none _ | refine LeO.ite ?_ ?_ | refine LeO.bind ?_ fun _ => ?_)
theorem F26.ml : ∀ k, F26.M k
 | 0 => fun _ _ _ _ r h => by simp [F26.l0] at h
 | k + 1 => (F26.mt k (F26.ml k)).1
theorem F26.m a0 k : LeO (F26.f k a0) (F26.f (k + 1) a0) := (F26.mt k (F26.ml k)).2 a0
theorem F26.c (k : Nat) (a0 : ByteArray) (r1 : List (S38)) (r2 : Int) (w : World) (H : F26.f k a0 = some (r1, r2)) :
  Calls prog 38 #[.string a0] w fun e w' => ∃ v0_ : Value, e = .returned (.tuple #[v0_, .int .i64 r2]) ∧ Kd.R k38 38 w' w.heap.size (fun _ => True) v0_ r1 ∧ Below w.heap.size w w' := by
 have hu38 := underlying38
 have HB := sqh w
 unfold F26.f at H
 obtain ⟨y0, hy0⟩ : ∃ y_ : List (S38), y_ = (([] : List (S38))) := ⟨_, rfl⟩
 replace H : (F26.l0 k a0 y0 0 0) = some (r1, r2) := sqW hy0 H
 have Ny0 := sqa hy0
 clear hy0
 have H' := sqa H
 clear H
 go_enter func38, ntmps38
 go_wp2_with (first | ((with_reducible refine sqd 9 rfl ?_); refine Kd.R_lit k38 _ 38 ?hg (N := 9) ?hd (xs := ([] : List (S38))) (inner := []) (ok := fun _ => True) (okp := fun _ => True) ?hr ?hp (fun _ hk => hk) trivial (Below.refl _ _) (Nat.le_refl _) (by simp) ?_; (case hd => rfl); (case hg => rfl); (case hr => exact Z8); (case hp => exact Z23); intro v0 w2 ho3 hb hg_ hnew_; clear hg_ hnew_; (first | rw [← Ny0.out] at ho3 | (simp only [Int.reduceToNat] at ho3; rw [← Ny0.out] at ho3)); have O0 := sqL ho3 (sqB HB); replace HB := sqS (sqB HB) hb; clear hb ho3))
 go_loopg [4, 5, 6] k (fun kq v4 v5 v6 w' => ∃ (x4_1 : List (S38)) (x5_1 : Int) (x6_1 : Int), v5 = .int .i64 x5_1 ∧ v6 = .int .i64 x6_1 ∧ Aside0 (F26.l0 kq a0 x4_1 x5_1 x6_1 = some (r1, r2)) ∧ Aside0 (kq ≤ k) ∧ Aside0 (Kd.R k38 38 w' w.heap.size (fun _ => True) v4 x4_1) ∧ Aside0 (Below w.heap.size w w'))
 case atStart => exact ⟨(y0), (0), (0), Z2, Z2, H', ⟨Nat.le_refl _⟩, ⟨sqR O0⟩, ⟨sqB HB⟩⟩
 case round =>
  clear H'
  obtain ⟨x4_1, x5_1, x6_1, rfl, rfl, HA, HK1, O1, HB⟩ := hrel
  cases gk with
  | zero => exact absurd HA.out (by simp [F26.l0])
  | succ k1 =>
   have H := HA.out
   clear HA
   simp only [F26.l0] at H
   by_cases c4 : x6_1 < (a0.size : Int)
   ·rw [if_pos c4] at H
    have c4b0 : decide (x6_1 < (a0.size : Int)) = true := decide_eq_true c4
    clear c4
    obtain ⟨c5, H⟩ := sqI H
    have c5b0 : decide (0 ≤ x6_1) = true := decide_eq_true c5
    clear c5
    by_cases c7 : (bt a0 x6_1) = 10
    ·rw [if_pos c7] at H
     have c7b0 : ((bt a0 x6_1) == 10) = true := sqe1 c7
     have c7b1 : ((bt a0 x6_1) != 10) = false := sqn0 c7
     clear c7
     obtain ⟨c8, H⟩ := sqI H
     have c8b0 := eq_true c8
     have c8b1 : decide (0 ≤ x5_1) = true := decide_eq_true c8
     clear c8
     obtain ⟨c9, H⟩ := sqI H
     have c9b0 := eq_true c9
     have c9b1 : decide (x5_1 ≤ x6_1) = true := decide_eq_true c9
     clear c9
     obtain ⟨c10, H⟩ := sqI H
     have c0 := eq_true c10
     have c1 : decide (x6_1 ≤ (a0.size : Int)) = true := decide_eq_true c10
     clear c10
     obtain ⟨⟨t631, t0, t1⟩, A0, H⟩ := sqD H
     try dsimp only at H
     by_cases c2 : t1 = true
     ·subst c2
      rw [if_pos rfl] at H
      obtain ⟨c3, H⟩ := sqI H
      have LMc0 := sqa c3
      clear c3
      obtain ⟨y1, hy1⟩ : ∃ y_ : List (S38), y_ = (x4_1 ++ [(⟨t631, t0⟩ : S38)]) := ⟨_, rfl⟩
      replace H : (F26.l0 k1 a0 y1 (wrap64 (x6_1 + 1)) (wrap64 (x6_1 + 1))) = some (r1, r2) := sqW hy1 H
      have Ny1 := sqa hy1
      clear hy1
      have H' := sqa H
      clear H
      have p6 : 0 ≤ (x6_1 : Int) := of_decide_eq_true Z7
      have q6 : x6_1 < (a0.size : Int) := of_decide_eq_true Z7
      have hx6 := bt_at a0 x6_1
      replace p6 := eq_true p6
      replace q6 := eq_true q6
      go_wp2_with (first | ((with_reducible refine sqc 86 rfl ?_); refine sqC (some 25) func86 #[.string (a0.extract (x5_1 : Int).toNat (x6_1 : Int).toNat)] ?_; (with_reducible refine (F5.c k1 (a0.extract (x5_1 : Int).toNat (x6_1 : Int).toNat) t631 t0 true _ A0.1).mono ?_); refine sqV fun w1 hb => ?_; replace O1 := sqU O1 hb; replace HB := sqS (sqB HB) hb) | ((with_reducible refine sqd 7 rfl ?_); refine sqBx w (sqB HB) (cs := #[.int .i64 0, .string (⟨#[]⟩ : ByteArray)]) (t := 38) ?_; intro g0 hg w3 B0 E0 HB hb; replace O1 := sqa (Kd.R_below (Kd.R_elderB (sqR O1) g0 (Nat.le_of_eq hg.symm)) hb); clear hb hg; have := sqY2 B0) | ((with_reducible refine gate_builtin (b := .append) (xs := #[.tmp 32, .tmp 34]) rfl ?_); at_builtin; refine Kd.R_append k38 (w0 := w) w.heap.size rfl (.tmp 32) (.tmp 34) 52 38 (.agg #[(.int .i64 0), (.string ⟨#[]⟩)]) 24 rfl underlying52 info38 rfl (by decide) (by omega) u4 x4_1 (⟨t631, t0⟩ : S38) [.int .i64 t631, .string t0] (fun k_ => k_ ≠ g0) (fun _ => False) rfl Z8 ?aP (fun _ hk => hk.elim) ?aF ?aO ?aB ?aS ?aL ?_; (case aP => exact k38_mkM _ _ _ (⟨t631, t0⟩ : S38)); (case aB => exact (sqB1 HB E0)); (case aF => exact (fun k_ hk => Kd.freshB (g := g0) (o := .cells #[.int .i64 t631, .string t0] 38 (0, 0)) (Z97 B0) k_ hk)); (case aO => exact (by (with_reducible repeat (first | apply Kd.R_alloc | apply Kd.R_drewN | apply Kd.R_drew)); exact Kd.R_mono (Kd.R_far (p := ⟨g0, 1, none⟩) (Kd.R_far (p := ⟨g0, 0, none⟩) (Kd.R_mono O1.1 (fun k_ hk => (⟨hk, hk.2⟩ : _ ∧ k_ ≠ g0))) (fun _ hk => hk.2) (.int .i64 t631)) (fun _ hk => hk.2) (.string t0)) (fun _ hk => hk.1.2))); (case aS => exact (below_size (sqB1 HB E0))); (case aL => exact Z15 LMc0); intro v1 w4 ho hb hg hat; rw [← Ny1.out] at ho; replace B0 := sqa (blk_grown (g := g0) (o := .cells #[.int .i64 t631, .string t0] 38 (0, 0)) (Z97 B0) hg (Kd.R_away O1.1 (fun _ hk => hk.2))); replace HB := sqa (hb); have O2 := sqa (ho); clear O1; clear ho hb hg hat))
      go_roundg k1
      case measure => have := HK1.out; omega
      case rel => exact ⟨(y1), (wrap64 (x6_1 + 1)), (wrap64 (x6_1 + 1)), Z2, Z2, H', ⟨Z15 HK1⟩, ⟨Z83 O2⟩, ⟨sqB1 HB E0⟩⟩
     obtain rfl := sqb c2
     rw [if_neg sqF] at H
     obtain ⟨rfl, rfl⟩ := sqO2 H
     have p6 : 0 ≤ (x6_1 : Int) := of_decide_eq_true Z7
     have q6 : x6_1 < (a0.size : Int) := of_decide_eq_true Z7
     have hx6 := bt_at a0 x6_1
     replace p6 := eq_true p6
     replace q6 := eq_true q6
     go_wp2_with (first | ((with_reducible refine sqc 86 rfl ?_); refine sqC (some 25) func86 #[.string (a0.extract (x5_1 : Int).toNat (x6_1 : Int).toNat)] ?_; (with_reducible refine (F5.c k1 (a0.extract (x5_1 : Int).toNat (x6_1 : Int).toNat) t631 t0 false _ A0.1).mono ?_); refine sqV fun w5 hb => ?_; replace O1 := sqU O1 hb; replace HB := sqS (sqB HB) hb) | ((with_reducible refine sqd 7 rfl ?_); refine sqBx w (sqB HB) (cs := #[.int .i64 0, .string (⟨#[]⟩ : ByteArray)]) (t := 38) ?_; intro g0 hg w6 B0 E0 HB hb; replace O1 := sqa (Kd.R_below (Kd.R_elderB (sqR O1) g0 (Nat.le_of_eq hg.symm)) hb); clear hb hg; have := sqY2 B0))
     go_ret2
     exact ⟨_, Z14, by (with_reducible repeat (first | apply Kd.R_alloc | apply Kd.R_drewN | apply Kd.R_drew)); exact Kd.R_mono (Kd.R_far (p := ⟨g0, 1, none⟩) (Kd.R_far (p := ⟨g0, 0, none⟩) (Kd.R_mono O1.1 (fun k_ hk => (⟨hk, hk.2⟩ : _ ∧ k_ ≠ g0))) (fun _ hk => hk.2) (.int .i64 t631)) (fun _ hk => hk.2) (.string t0)) (fun _ hk => trivial), sqB1 HB E0⟩
    rw [if_neg c7] at H
    have c7b0 : ((bt a0 x6_1) == 10) = false := sqe0 c7
    have c7b1 : ((bt a0 x6_1) != 10) = true := sqn1 c7
    have H' := sqa H
    clear H
    have p6 : 0 ≤ (x6_1 : Int) := of_decide_eq_true Z7
    have q6 : x6_1 < (a0.size : Int) := of_decide_eq_true Z7
    have hx6 := bt_at a0 x6_1
    replace p6 := eq_true p6
    replace q6 := eq_true q6
    go_wp2
    go_roundg k1
    case measure => have := HK1.out; omega
    case rel => exact ⟨(x4_1), (x5_1), (wrap64 (x6_1 + 1)), Z2, Z2, H', ⟨Z15 HK1⟩, ⟨sqR O1⟩, ⟨sqB HB⟩⟩
   rw [if_neg c4] at H
   have c4b0 : decide (x6_1 < (a0.size : Int)) = false := decide_eq_false c4
   clear c4
   obtain ⟨rfl, rfl⟩ := sqO2 H
   go_wp2
   go_ret2
   exact ⟨_, Z14, Z25 O1, sqB HB⟩

def F35.l0 : Nat → List (S38) → List (S38) → Int → Option (Bool)
 | 0, _, _, _ => none
 | k + 1, x0, x1, x5 => if x5 < (x0.length : Int) then (if 0 ≤ x5 then (if x5 < (x1.length : Int) then (if (!(((rd_T38 x0 x5).f0) == ((rd_T38 x1 x5).f0)) || (!((((rd_T38 x0 x5).f1).toList) == (((rd_T38 x1 x5).f1).toList)))) = true then (some false) else (F35.l0 k x0 x1 (wrap64 (x5 + 1)))) else (none)) else (none)) else (some true)
def F35.f (k : Nat) (l0 : List (S38)) (l1 : List (S38)) : Option (Bool) := if (l0.length : Int) = (l1.length : Int) then (F35.l0 k l0 l1 0) else (some false)
abbrev F35.M (k : Nat) : Prop := (∀ y0 y1 y2, LeO (F35.l0 k y0 y1 y2) (F35.l0 (k + 1) y0 y1 y2))
theorem F35.mt : ∀ k, F35.M k → F35.M (k + 1) ∧ ∀ a0 a1, LeO (F35.f k a0 a1) (F35.f (k + 1) a0 a1) := by
  rintro k ih0
  refine ⟨?_, ?_⟩ <;> (try unfold F35.M) <;> intros <;> (first | unfold F35.l0 | unfold F35.f) <;> repeat' (with_reducible first | exact ih0 _ _ _ | exact LeO.refl _ | exact LeO.none _ | refine LeO.ite ?_ ?_ | refine LeO.bind ?_ fun _ => ?_)
theorem F35.ml : ∀ k, F35.M k
 | 0 => fun _ _ _ r h => by simp [F35.l0] at h
 | k + 1 => (F35.mt k (F35.ml k)).1
theorem F35.m a0 a1 k : LeO (F35.f k a0 a1) (F35.f (k + 1) a0 a1) := (F35.mt k (F35.ml k)).2 a0 a1
theorem F35.c (k : Nat) (A0 : Option Addr) (c0 : Nat) (l0 : List (S38)) (A1 : Option Addr) (c1 : Nat) (l1 : List (S38)) (r : Bool) (w : World) (hr0 : Kd.C k38 w A0 l0.length l0) (hc0 : l0.length ≤ c0) (hr1 : Kd.C k38 w A1 l1.length l1) (hc1 : l1.length ≤ c1) (H : F35.f k l0 l1 = some r) :
  Calls prog 39 #[.slice A0 l0.length c0, .slice A1 l1.length c1] w fun e w' => e = .returned (.bool r) ∧ Drawn0 w w' := by
 have hu38 := underlying38
 have HR0 := sqa hr0
 have HC0 := sqa hc0
 clear hr0 hc0
 have HR1 := sqa hr1
 have HC1 := sqa hc1
 clear hr1 hc1
 unfold F35.f at H
 by_cases c3 : (l0.length : Int) = (l1.length : Int)
 ·rw [if_pos c3] at H
  have c3b0 : ((l0.length : Int) == (l1.length : Int)) = true := sqe1 c3
  have c3b1 : ((l0.length : Int) != (l1.length : Int)) = false := sqn0 c3
  have c3b2 : (l0.length == l1.length) = true := by first | simpa using c3 | (simp at c3 ⊢; omega)
  clear c3
  have H' := sqa H
  clear H
  go_enter func39, ntmps39
  go_wp2
  repeat (go_quiet (fail); try go_wp2)
  go_loopg [5] k (fun kq v5 w' => ∃ (x5_1 : Int), v5 = .int .i64 x5_1 ∧ Aside0 (F35.l0 kq l0 l1 x5_1 = some r) ∧ Aside0 (kq ≤ k) ∧ Drawn0 w w')
  case atStart => exact ⟨(0), Z2, H', ⟨Nat.le_refl _⟩, Z87⟩
  case round =>
   clear H'
   obtain ⟨x5_1, rfl, HA, HK1, ⟨m1, rfl⟩⟩ := hrel
   cases gk with
   | zero => exact absurd HA.out (by simp [F35.l0])
   | succ k1 =>
    have H := HA.out
    clear HA
    simp only [F35.l0] at H
    by_cases c4 : x5_1 < (l0.length : Int)
    ·rw [if_pos c4] at H
     have c4b0 : decide (x5_1 < (l0.length : Int)) = true := decide_eq_true c4
     clear c4
     obtain ⟨c5, H⟩ := sqI H
     have c5b0 : decide (0 ≤ x5_1) = true := decide_eq_true c5
     clear c5
     obtain ⟨c6, H⟩ := sqI H
     have c6b0 : decide (x5_1 < (l1.length : Int)) = true := decide_eq_true c6
     clear c6
     by_cases c7 : (!(((rd_T38 l0 x5_1).f0) == ((rd_T38 l1 x5_1).f0)) || (!((((rd_T38 l0 x5_1).f1).toList) == (((rd_T38 l1 x5_1).f1).toList)))) = true
     ·rw [if_pos c7] at H
      have c7b0 : (!(((rd_T38 l0 x5_1).f0) == ((rd_T38 l1 x5_1).f0)) || (!((((rd_T38 l0 x5_1).f1).toList) == (((rd_T38 l1 x5_1).f1).toList)))) = true := c7
      clear c7
      obtain rfl := sqo H
      have p0 : 0 ≤ (x5_1 : Int) := of_decide_eq_true Z7
      have q0 : x5_1 < (l0.length : Int) := of_decide_eq_true Z7
      obtain ⟨ad0, e0, hx0, hx1⟩ := at_T38 HR0.1 x5_1 p0 q0
      cases e0
      replace p0 := eq_true p0
      replace q0 := eq_true q0
      have p1 : 0 ≤ (x5_1 : Int) := of_decide_eq_true Z7
      have q1 : x5_1 < (l1.length : Int) := of_decide_eq_true Z7
      obtain ⟨ad1, e1, hx2, hx3⟩ := at_T38 HR1.1 x5_1 p1 q1
      cases e1
      replace p1 := eq_true p1
      replace q1 := eq_true q1
      go_wp2
      repeat (go_quiet (fail); try go_wp2)
      go_ret
      exact ⟨Z2, Z87⟩
     rw [if_neg c7] at H
     have c7b0 : (!(((rd_T38 l0 x5_1).f0) == ((rd_T38 l1 x5_1).f0)) || (!((((rd_T38 l0 x5_1).f1).toList) == (((rd_T38 l1 x5_1).f1).toList)))) = false := by simpa using c7
     clear c7
     have H' := sqa H
     clear H
     have p0 : 0 ≤ (x5_1 : Int) := of_decide_eq_true Z7
     have q0 : x5_1 < (l0.length : Int) := of_decide_eq_true Z7
     obtain ⟨ad0, e0, hx0, hx1⟩ := at_T38 HR0.1 x5_1 p0 q0
     cases e0
     replace p0 := eq_true p0
     replace q0 := eq_true q0
     have p1 : 0 ≤ (x5_1 : Int) := of_decide_eq_true Z7
     have q1 : x5_1 < (l1.length : Int) := of_decide_eq_true Z7
     obtain ⟨ad1, e1, hx2, hx3⟩ := at_T38 HR1.1 x5_1 p1 q1
     cases e1
     replace p1 := eq_true p1
     replace q1 := eq_true q1
     go_wp2
     repeat (go_quiet (fail); try go_wp2)
     go_roundg k1
     case measure => have := HK1.out; omega
     case rel => exact ⟨(wrap64 (x5_1 + 1)), Z2, H', ⟨Z15 HK1⟩, Z87⟩
    rw [if_neg c4] at H
    have c4b0 : decide (x5_1 < (l0.length : Int)) = false := decide_eq_false c4
    clear c4
    obtain rfl := sqo H
    go_wp2
    repeat (go_quiet (fail); try go_wp2)
    go_ret
    exact ⟨Z2, Z87⟩
 rw [if_neg c3] at H
 have c3b0 : ((l0.length : Int) == (l1.length : Int)) = false := sqe0 c3
 have c3b1 : ((l0.length : Int) != (l1.length : Int)) = true := sqn1 c3
 have c3b2 : (l0.length == l1.length) = false := by first | simpa using c3 | (simp at c3 ⊢; omega)
 obtain rfl := sqo H
 go_enter func39, ntmps39
 go_wp2
 repeat (go_quiet (fail); try go_wp2)
 go_ret
 exact ⟨Z2, Z87⟩
end
end Go.Proofs.YtofmlbgfcohhoaaGreatDoor.PFnReadJournal
