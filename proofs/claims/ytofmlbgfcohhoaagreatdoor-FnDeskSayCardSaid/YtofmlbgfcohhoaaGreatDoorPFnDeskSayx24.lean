import Derived.Test.YtofmlbgfcohhoaaGreatDoorPFnDeskSayx12
set_option maxHeartbeats 8000000
set_option maxRecDepth 100000
namespace Go.Proofs.YtofmlbgfcohhoaaGreatDoor.PFnDeskSay
open Go.RowKit Go.Proofs.YtofmlbgfcohhoaaGreatDoorW.PrintWords Go.Proofs.YtofmlbgfcohhoaaGreatDoorW.PrintLast Go.Proofs.YtofmlbgfcohhoaaGreatDoorW.PrintMore Go.Proofs.YtofmlbgfcohhoaaGreatDoor.Lib Go.Proofs.Tryz
attribute [local go_sem] max2_int min2_int max_two min_two max_three min_three max_four min_four   -- for this text's walks alone
set_option linter.unusedVariables false
set_option linter.unusedSimpArgs false

mutual
def F8.j0 : Nat → List ByteArray → Bool → Int → Int → List (S31) → Option (Int × Int × (List (S31)) × List ByteArray)
 | 0, _, _, _, _, _ => none
 | k + 1, x1, x0, x2, x3, x4 => if x0 = true then (some (0, 0, ([] : List (S31)), ([] : List ByteArray))) else ((F12.f x2 x3 x4).bind fun bt0 => (F8.l0 k (([] : List ByteArray)) x1 (x1.length : Int) 0 bt0.1 bt0.2.1 bt0.2.2))
def F8.l0 : Nat → List ByteArray → List ByteArray → Int → Int → Int → Int → List (S31) → Option (Int × Int × (List (S31)) × List ByteArray)
 | 0, _, _, _, _, _, _, _ => none
 | k + 1, x6, x0, x1, x2, x3, x4, x5 => if x2 < x1 then (if 0 ≤ x2 then (if x2 < (x0.length : Int) then ((F43.f k x3 x4 x5 (rdOf ByteArray.empty x0 x2)).bind fun bt0 => (if x6.length < 8796093022208 then (F8.l0 k (x6 ++ [bt0.2.2.2]) x0 x1 (wrap64 (x2 + 1)) bt0.1 bt0.2.1 bt0.2.2.1) else (none))) else (none)) else (none)) else (some (x3, x4, x5, x6))
end
def F8.f (k : Nat) (a0_0 : Int) (a0_1 : Int) (l0_2 : List (S31)) (l1 : List ByteArray) : Option (Int × Int × (List (S31)) × List ByteArray) := (F38.f k a0_0 a0_1 l0_2).bind fun t0 => (if t0 = true then (F8.j0 k l1 (decide ((l1.length : Int) > 40)) a0_0 a0_1 l0_2) else (F8.j0 k l1 true a0_0 a0_1 l0_2))
theorem F8.c (k : Nat) (a0_0 : Int) (a0_1 : Int) (A0_2 : Option Addr) (c0_2 : Nat) (l0_2 : List (S31)) (A1 : Option Addr) (c1 : Nat) (l1 : List ByteArray) (r1 : Int) (r2 : Int) (r3 : List (S31)) (r4 : List ByteArray) (w : World) (hG : Glob w) (hr0_2 : Kd.C k31 w A0_2 l0_2.length l0_2) (hc0_2 : l0_2.length ≤ c0_2) (hr1 : Kd.C Kd.string w A1 l1.length l1) (hc1 : l1.length ≤ c1) (H : F8.f k a0_0 a0_1 l0_2 l1 = some (r1, r2, r3, r4)) :
  Calls prog 48 #[.agg #[.int .i64 a0_0, .int .i64 a0_1, .slice A0_2 l0_2.length c0_2], .slice A1 l1.length c1] w fun e w' => ∃ v2_ v3_ : Value, e = .returned (.tuple #[.agg #[.int .i64 r1, .int .i64 r2, v2_], v3_]) ∧ Kd.R k31 31 w' w.heap.size (fun _ => True) v2_ r3 ∧ Kd.R Kd.string 9 w' w.heap.size (fun _ => True) v3_ r4 ∧ Below w.heap.size w w' := by
 have hu34 := underlying34
 have HR0_2 := sqa hr0_2
 have HC0_2 := sqa hc0_2
 clear hr0_2 hc0_2
 have HR1 := sqa hr1
 have HC1 := sqa hc1
 clear hr1 hc1
 have HB := sqh w
 unfold F8.f at H
 have HC3 := sqa H
 clear H
 go_enter func48, ntmps48
 go_upto_region 1 with (first | ((with_reducible refine sqd 2 rfl ?_); (try (refine gate_guard (by rfl) ?_; dsimp only)); refine sqx0 w (sqB HB) #[.int .i64 a0_0, .int .i64 a0_1, .slice A0_2 l0_2.length c0_2] 34 fun gb698 w4 B0 E0 HB => ?_) | ((with_reducible refine sqd 4 rfl ?_); (try (refine gate_guard (by rfl) ?_; dsimp only)); refine sqx1 w (sqB1 HB E0) #[.int .i64 0, .int .i64 0, .slice none 0 0] 34 B0 fun g0 w5 B2 E1 HB N0 N1 B0 => ?_))
 (try simp only [Act.put, List.setIfInBounds_toArray, List.set_cons_zero, List.set_cons_succ])
 go_cut [18] (fun v0 wc => ∃ (kq : Nat) (x0 : Bool), v0 = .bool x0 ∧ Aside0 (F8.j0 kq l1 x0 a0_0 a0_1 l0_2 = some (r1, r2, r3, r4)) ∧ Aside0 (kq ≤ k) ∧ Aside0 (wc.heap[gb698]? = some (.cells #[.int .i64 a0_0, .int .i64 a0_1, (.slice A0_2 l0_2.length c0_2)] 34 (0, 0))) ∧ Aside0 (wc.heap[g0]? = some (.cells #[.int .i64 0, .int .i64 0, (.slice none 0 0)] 34 (0, 0))) ∧ Aside0 (Below w.heap.size w wc))
 case first =>
  have H := HC3.1
  clear HC3
  obtain ⟨t0, A6, H⟩ := sqD H
  obtain rfl | rfl := sqt t0
  ·rw [if_pos rfl] at H
   have H' := sqa H
   clear H
   have := sqn2 N0 N1
   have := sqY3 B0
   go_wp2_with (first | ((with_reducible refine sqc 60 rfl ?_); refine sqv (some 12) func60 (args := #[.agg #[.int .i64 a0_0, .int .i64 a0_1, .slice A0_2 l0_2.length c0_2]]) (F38.c k a0_0 a0_1 _ _ l0_2 true _ Z35 Z36 A6.1) fun w1 hb => ?_; obtain ⟨B0, B2⟩ := sqT2 hb B0 B2; replace HB := sqS (sqB2 HB E0 E1) hb))
   go_meet
   case rel => exact ⟨_, (decide ((l1.length : Int) > 40)), Z1, H', ⟨Z11⟩, ⟨sqK B0⟩, ⟨sqK B2⟩, ⟨sqB2 HB E0 E1⟩⟩
  rw [if_neg sqF] at H
  have H' := sqa H
  clear H
  have := sqn2 N0 N1
  have := sqY3 B0
  go_wp2_with (first | ((with_reducible refine sqc 60 rfl ?_); refine sqv (some 12) func60 (args := #[.agg #[.int .i64 a0_0, .int .i64 a0_1, .slice A0_2 l0_2.length c0_2]]) (F38.c k a0_0 a0_1 _ _ l0_2 false _ Z35 Z36 A6.1) fun w2 hb => ?_; obtain ⟨B0, B2⟩ := sqT2 hb B0 B2; replace HB := sqS (sqB2 HB E0 E1) hb))
  go_meet
  case rel => exact ⟨_, (true), Z1, H', ⟨Z11⟩, ⟨sqK B0⟩, ⟨sqK B2⟩, ⟨sqB2 HB E0 E1⟩⟩
 case rest =>
  clear HC3
  obtain ⟨kq, x0, rfl, HA, HJ2, B0, B2, HB⟩ := hcut
  cases kq with
  | zero => exact absurd HA.out (by simp [F8.j0])
  | succ kj2 =>
   have H := HA.out
   clear HA
   simp only [F8.j0] at H
   obtain rfl | rfl := sqt x0
   ·rw [if_pos rfl] at H
    obtain ⟨rfl, rfl, rfl, rfl⟩ := sqO4 H
    have := sqn2 N1 N0
    have := sqY3 B2
    go_wp2
    refine sqE g0 34 #[.int .i64 0, .int .i64 0, .slice none 0 0] (Z46 B2) underlying34 ?_
    exact ⟨_, _, Z5, Z47, Z47, sqB2 HB E0 E1⟩
   rw [if_neg sqF] at H
   obtain ⟨⟨t1, t2, t3⟩, A0, H⟩ := sqD H
   try dsimp only at H
   obtain ⟨y0, hy0⟩ : ∃ y_ : List ByteArray, y_ = (([] : List ByteArray)) := ⟨_, rfl⟩
   replace H : (F8.l0 kj2 y0 l1 (l1.length : Int) 0 t1 t2 t3) = some (r1, r2, r3, r4) := sqW hy0 H
   have Ny0 := sqa hy0
   clear hy0
   have H' := sqa H
   clear H
   have := sqn2 N0 N1
   have := sqY3 B0
   go_wp2_with (first | ((with_reducible refine sqc 76 rfl ?_); refine sqvo (some 21) func76 (args := #[.agg #[.int .i64 a0_0, .int .i64 a0_1, .slice A0_2 l0_2.length c0_2]]) (F12.c a0_0 a0_1 _ _ l0_2 t1 t2 t3 _ Z35 Z36 A0.1) fun v1 w3 ho0 hb => ?_; have O0 := sqL ho0 (sqB2 HB E0 E1); obtain ⟨B0, B2⟩ := sqT2 hb B0 B2; replace HB := sqS (sqB2 HB E0 E1) hb; (try clear ho0); have := sqY3 B0; obtain ⟨Ao0, co0, eo0⟩ := Kd.R_slice O0.1; subst eo0) | ((with_reducible refine sqd 22 rfl ?_); (try (refine gate_guard (by rfl) ?_; dsimp only)); refine Kd.R_lit Kd.string _ 9 ?hg (N := 22) ?hd (xs := ([] : List ByteArray)) (inner := []) (ok := fun _ => True) (okp := fun _ => True) ?hr ?hp (fun _ hk => hk) trivial (Below.refl _ _) (Nat.le_refl _) (by simp) ?_; (case hd => rfl); (case hg => rfl); (case hr => exact Z17); (case hp => exact Z24); intro v2 w6 ho1 hb hg_ hnew_; clear hg_ hnew_; (first | rw [← Ny0.out] at ho1 | (simp only [Int.reduceToNat] at ho1; rw [← Ny0.out] at ho1)); replace O0 := sqa (Kd.R_below (by (with_reducible repeat (first | apply Kd.R_alloc | apply Kd.R_drewN | apply Kd.R_drew)); exact (Kd.R_mono (sqr3 O0.1 B0.1) (fun _ h_ => h_.1))) hb); have O1 := sqL ho1 (sqB2 HB E0 E1); replace B0 := sqa (blk_below (g := gb698) (o := .cells #[.int .i64 t1, .int .i64 t2, .slice Ao0 t3.length co0] 34 (0, 0)) (by refine sqPut (cs := #[.int .i64 t1, .int .i64 t2, .slice A0_2 l0_2.length c0_2]) ?_ 2; refine sqPut (cs := #[.int .i64 t1, .int .i64 a0_1, .slice A0_2 l0_2.length c0_2]) ?_ 1; refine sqPut (cs := #[.int .i64 a0_0, .int .i64 a0_1, .slice A0_2 l0_2.length c0_2]) ?_ 0; exact sqK B0) hb); replace B2 := sqH N1 B2 hb; replace HB := sqS (sqB2 HB E0 E1) hb; clear hb ho1))
   go_loopg [6, 25] kj2 (fun kq v6 v3 w' => ∃ (x6_2 : List ByteArray) (x1 : Int) (x2 : Int) (x3 : Int) (x4 : List (S31)) (u699002 : Value), v3 = .int .i64 x1 ∧ Aside0 (F8.l0 kq x6_2 l1 (l1.length : Int) x1 x2 x3 x4 = some (r1, r2, r3, r4)) ∧ Aside0 (kq ≤ kj2) ∧ Aside0 (Kd.R Kd.string 9 w' w.heap.size (fun _ => True) v6 x6_2) ∧ Aside0 (Kd.R k31 31 w' w.heap.size (fun _ => True) u699002 x4) ∧ Aside0 (w'.heap[gb698]? = some (.cells #[.int .i64 x2, .int .i64 x3, u699002] 34 (0, 0))) ∧ Aside0 (w'.heap[g0]? = some (.cells #[.int .i64 0, .int .i64 0, (.slice none 0 0)] 34 (0, 0))) ∧ Aside0 (Below w.heap.size w w'))
   case atStart => exact ⟨(y0), (0), (t1), (t2), (t3), (.slice Ao0 t3.length co0), Z1, H', ⟨Nat.le_refl _⟩, ⟨sqR O1⟩, ⟨sqR O0⟩, ⟨sqK B0⟩, ⟨sqK B2⟩, ⟨sqB2 HB E0 E1⟩⟩
   case round =>
    clear H'
    obtain ⟨x6_2, x1, x2, x3, x4, u699002, rfl, HA, HK2, O2, O3, B0, B2, HB⟩ := hrel
    cases gk with
    | zero => exact absurd HA.out (by simp [F8.l0])
    | succ k2 =>
     have H := HA.out
     clear HA
     simp only [F8.l0] at H
     obtain ⟨c3, H⟩ | ⟨c3, H⟩ := sqi3 H
     ·obtain ⟨c5, H⟩ := sqJ2 H
      obtain ⟨c8, H⟩ := sqJ2 H
      obtain ⟨⟨t710, t711, t712, t4⟩, A2, H⟩ := sqD H
      try dsimp only at H
      obtain ⟨c9, H⟩ := sqI H
      have LMc0 := sqa c9
      clear c9
      obtain ⟨y1, hy1⟩ : ∃ y_ : List ByteArray, y_ = (x6_2 ++ [t4]) := ⟨_, rfl⟩
      replace H : (F8.l0 k2 y1 l1 (l1.length : Int) (wrap64 (x1 + 1)) t710 t711 t712) = some (r1, r2, r3, r4) := sqW hy1 H
      have Ny1 := sqa hy1
      clear hy1
      have H' := sqa H
      clear H
      have p0 : 0 ≤ (x1 : Int) := of_decide_eq_true Z16
      have q0 : x1 < (l1.length : Int) := of_decide_eq_true Z16
      obtain ⟨ad0, e0, hx0⟩ := Kd.at_string HR1.1 x1 p0 q0
      cases e0
      replace hx0 := (HB.1.cell (World.block_lt_of_cell? w _ hx0)).trans hx0
      replace p0 := eq_true p0
      replace q0 := eq_true q0
      have := sqn2 N0 N1
      have := sqY3 B0
      obtain ⟨Ao1, co1, eo1⟩ := Kd.R_slice O3.1
      subst eo1
      go_wp2_with (first | ((with_reducible refine sqc 87 rfl ?_); refine sqvo (some 32) func87 (args := #[.agg #[.int .i64 x2, .int .i64 x3, .slice Ao1 x4.length co1], .string (rdOf ByteArray.empty l1 x1)]) (F43.c k2 x2 x3 _ _ x4 (rdOf ByteArray.empty l1 x1) t710 t711 t712 t4 _ (Z10 E0 E1) (Z7 O3) (Z8 O3) A2.1) fun v4 w7 ho0 hb => ?_; replace O2 := sqU O2 hb; have O4 := sqa (Kd.R_lower (Kd.R_new' ho0 (Kd.R_lt (sqR O3))) (below_size (sqB2 HB E0 E1))); replace O3 := sqa (Kd.R_elder' (sqR O3) (Kd.R_base ho0) hb); obtain ⟨B0, B2⟩ := sqT2 hb B0 B2; replace HB := sqS (sqB2 HB E0 E1) hb; (try clear ho0)) | ((with_reducible refine sqd 9 rfl ?_); (try (refine gate_guard (by rfl) ?_; dsimp only)); refine sqx w (sqB2 HB E0 E1) #[.int .i64 0, .int .i64 0, .slice none 0 0] 34 fun gb716 hg w8 B9 E2 HB hb => ?_; replace O2 := sqU O2 hb; replace O3 := sqU O3 hb; replace O4 := sqU O4 hb; obtain ⟨N2, N3⟩ := sqM hg B0; replace B0 := sqT B0 hb; obtain ⟨N4, N5⟩ := sqM hg B2; replace B2 := sqT B2 hb; clear hb hg; have := sqn4 N3 N2 N5 N4; have := sqY3 B9; obtain ⟨Ao38, co38, eo2⟩ := Kd.R_slice O4.1; subst eo2; have := sqY3 B0) | ((with_reducible refine gate_builtin (b := .append) (xs := #[.tmp 36, .tmp 38]) rfl ?_); (try (refine gate_guard (by rfl) ?_; dsimp only)); at_builtin; refine Kd.R_append Kd.string (w0 := w) w.heap.size rfl (.tmp 36) (.tmp 38) 73 9 (.string ⟨#[]⟩) 16 rfl underlying73 info9 rfl (by decide) (by omega) u6 x6_2 t4 [.string t4] (fun _ => True) (fun _ => False) rfl Z17 ?aP (fun _ hk => hk.elim) ?aF ?aO ?aB ?aS ?aL ?_; (case aP => exact rfl); (case aB => exact (sqB3 HB E0 E1 E2)); (case aF => exact Z25); (case aO => exact (by (with_reducible repeat (first | apply Kd.R_alloc | apply Kd.R_drewN | apply Kd.R_drew)); exact Kd.R_mono (Kd.R_far (p := ⟨gb698, 2, none⟩) (Kd.R_far (p := ⟨gb698, 1, none⟩) (Kd.R_far (p := ⟨gb698, 0, none⟩) (Kd.R_far (p := ⟨gb716, 2, none⟩) (Kd.R_far (p := ⟨gb716, 1, none⟩) (Kd.R_far (p := ⟨gb716, 0, none⟩) (Kd.R_types (Kd.R_types O2.1 B9.1 (by decide)) B0.1 (by decide)) (fun _ hk => hk.1.2) (.int .i64 t710)) (fun _ hk => hk.1.2) (.int .i64 t711)) (fun _ hk => hk.1.2) (.slice Ao38 t712.length co38)) (fun _ hk => hk.2) (.int .i64 t710)) (fun _ hk => hk.2) (.int .i64 t711)) (fun _ hk => hk.2) (.slice Ao38 t712.length co38)) (fun _ hk => trivial))); (case aS => exact (below_size (sqB3 HB E0 E1 E2))); (case aL => exact Z2 LMc0); intro v5 w9 ho hb hg hat; rw [← Ny1.out] at ho; replace O3 := sqa (Kd.R_over' (Z76 O3 B9 B0) (Kd.R_typed (Z76 O2 B9 B0)) (by decide) hg); replace B2 := sqa (blk_grown (g := g0) (o := .cells #[.int .i64 0, .int .i64 0, .slice none 0 0] 34 (0, 0)) (Z75 N1 N4 B2) hg (Kd.R_ne O2.1 B2.1 (by decide))); replace O4 := sqa (Kd.R_over' (Z76 O4 B9 B0) (Kd.R_typed (Z76 O2 B9 B0)) (by decide) hg); replace B0 := sqa (blk_grown (g := gb698) (o := .cells #[.int .i64 t710, .int .i64 t711, .slice Ao38 t712.length co38] 34 (0, 0)) (by refine sqPut (cs := #[.int .i64 t710, .int .i64 t711, .slice Ao1 x4.length co1]) ?_ 2; refine sqPut (cs := #[.int .i64 t710, .int .i64 x3, .slice Ao1 x4.length co1]) ?_ 1; refine sqPut (cs := #[.int .i64 x2, .int .i64 x3, .slice Ao1 x4.length co1]) ?_ 0; refine sqFar ?_ N2; refine sqFar ?_ N2; refine sqFar ?_ N2; exact sqK B0) hg (Kd.R_ne O2.1 B0.1 (by decide))); replace B9 := sqa (blk_grown (g := gb716) (o := .cells #[.int .i64 t710, .int .i64 t711, .slice Ao38 t712.length co38] 34 (0, 0)) (by refine sqFar ?_ N3; refine sqFar ?_ N3; refine sqFar ?_ N3; refine sqPut (cs := #[.int .i64 t710, .int .i64 t711, .slice none 0 0]) ?_ 2; refine sqPut (cs := #[.int .i64 t710, .int .i64 0, .slice none 0 0]) ?_ 1; refine sqPut (cs := #[.int .i64 0, .int .i64 0, .slice none 0 0]) ?_ 0; exact sqK B9) hg (Kd.R_ne O2.1 B9.1 (by decide))); replace HB := sqa (hb); have O5 := sqa (ho); clear O2; clear ho hb hg hat))
      go_roundg k2
      case measure => have := HJ2.out; have := HK2.out; omega
      case rel => exact ⟨(y1), (wrap64 (x1 + 1)), (t710), (t711), (t712), (.slice Ao38 t712.length co38), Z1, H', ⟨Z21 HK2⟩, ⟨sqR O5⟩, ⟨by (with_reducible repeat (first | apply Kd.R_alloc | apply Kd.R_drewN | apply Kd.R_drew)); exact Kd.R_mono O4.1 (fun _ hk => trivial)⟩, ⟨sqK B0⟩, ⟨sqK B2⟩, ⟨sqB3 HB E0 E1 E2⟩⟩
     obtain ⟨rfl, rfl, rfl, rfl⟩ := sqO4 H
     have := sqn2 N0 N1
     have := sqY3 B0
     have := sqY3 B2
     obtain ⟨Ao2, co2, eo3⟩ := Kd.R_slice O3.1
     subst eo3
     go_wp2
     refine sqE g0 34 #[.int .i64 x2, .int .i64 x3, .slice Ao2 x4.length co2] (by refine sqPut (cs := #[.int .i64 x2, .int .i64 x3, .slice none 0 0]) ?_ 2; refine sqPut (cs := #[.int .i64 x2, .int .i64 0, .slice none 0 0]) ?_ 1; refine sqPut (cs := #[.int .i64 0, .int .i64 0, .slice none 0 0]) ?_ 0; exact sqK B2) underlying34 ?_
     exact ⟨_, _, Z5, Z77 O3 B2, Z77 O2 B2, sqB2 HB E0 E1⟩

/-- A state of type 131 at block g of W; what its slices lead to came in by w0. -/
def IsS131 (w0 W : World) (g : Nat) (f0 : List Int) (f1 : Int) : Prop := ∃ A0 c0, W.heap[g]? = some (.cells #[.slice A0 f0.length c0, .int .i64 f1] 131 (0, 0)) ∧ w0.heap.size ≤ g ∧ Kd.C (Kd.int .u8) w0 A0 f0.length f0
theorem IsS131.grown {w0 W : World} {g : Nat} {f0 : List Int} {f1 : Int} {W1 : World} {row : Option Nat} (h : IsS131 w0 W g f0 f1) (hw : W.grownBy W1 row) (hne : some g ≠ row) : IsS131 w0 W1 g f0 f1 := by
 obtain ⟨A0, c0, hb, hg, hr0⟩ := h
 exact ⟨A0, c0, blk_grown hb hw hne, hg, hr0⟩
theorem IsS131.own_neN {w0 W : World} {g : Nat} {f0 : List Int} {f1 : Int} {α : Type} {d : Kd α} {e : Nat} {base : Nat} {ok : Nat → Prop} {v : Value} {xs : List α} (h : IsS131 w0 W g f0 f1) (ho : Kd.N d e W base ok v xs) (ht : e ≠ 131) : some g ≠ v.ownBlock := by
 obtain ⟨A0, c0, hb, hg, hr0⟩ := h
 exact Kd.N_ne ho hb ht
theorem IsS131.fresh {w0 W : World} {g : Nat} {f0 : List Int} {f1 : Int} (h : IsS131 w0 W g f0 f1) : ∀ k, W.heap.size ≤ k → k ≠ g := by
 obtain ⟨A0, c0, hb, hg, hr0⟩ := h
 exact Kd.freshB hb
theorem IsS131.kept {w0 W : World} {g : Nat} {f0 : List Int} {f1 : Int} {W1 : World} {S : Nat → Prop} (h : IsS131 w0 W g f0 f1) (hk : Kept W W1 S) (hne : ¬ S g) : IsS131 w0 W1 g f0 f1 := by
 obtain ⟨A0, c0, hb, hg, hr0⟩ := h
 exact ⟨A0, c0, blk_kept hb hk hne, hg, hr0⟩
theorem IsS131.below {w0 W : World} {g : Nat} {f0 : List Int} {f1 : Int} {W1 : World} (h : IsS131 w0 W g f0 f1) (hw : Below W.heap.size W W1) : IsS131 w0 W1 g f0 f1 := h.grown (grown_of_below hw none) (by simp)
theorem IsS131.alloc {w0 W : World} {g : Nat} {f0 : List Int} {f1 : Int} (h : IsS131 w0 W g f0 f1) (o : Obj) : IsS131 w0 (W.alloc o) g f0 f1 := h.below (below_alloc (Below.refl _ _) o)
theorem IsS131.drewN {w0 W : World} {g : Nat} {f0 : List Int} {f1 : Int} (h : IsS131 w0 W g f0 f1) (m : Nat) : IsS131 w0 (W.drewN m) g f0 f1 := h
theorem IsS131.drew {w0 W : World} {g : Nat} {f0 : List Int} {f1 : Int} (h : IsS131 w0 W g f0 f1) : IsS131 w0 W.drew g f0 f1 := h
theorem IsS131.at_ {w0 W : World} {g : Nat} {f0 : List Int} {f1 : Int} {w' : World} {m : Nat} (hq : W.drewN m = w') (h : IsS131 w0 W g f0 f1) : IsS131 w0 w' g f0 f1 := by subst hq; exact IsS131.drewN h m
theorem IsS131.apart {w0 W : World} {g : Nat} {f0 : List Int} {f1 : Int} {α : Type} {d : Kd α} {e : Nat} {base : Nat} {ok : Nat → Prop} {v : Value} {xs : List α} (h : IsS131 w0 W g f0 f1) (ho : d.R e W base ok v xs) (ht : ∀ q, q ∈ e :: d.E → q ≠ 131) : d.R e W base (fun k => ok k ∧ k ≠ g) v xs := by
 obtain ⟨A0, c0, hb, hg, hr0⟩ := h
 exact Kd.R_types ho hb ht
theorem IsS131.own_ne {w0 W : World} {g : Nat} {f0 : List Int} {f1 : Int} {α : Type} {d : Kd α} {e : Nat} {base : Nat} {ok : Nat → Prop} {v : Value} {xs : List α} (h : IsS131 w0 W g f0 f1) (ho : d.R e W base ok v xs) (ht : e ≠ 131) : some g ≠ v.ownBlock := by
 obtain ⟨A0, c0, hb, hg, hr0⟩ := h
 exact Kd.R_ne ho hb ht
theorem IsS131.apartQ {w0 W : World} {g : Nat} {f0 : List Int} {f1 : Int} {α : Type} {d : Kd α} {e : Nat} {base : Nat} {ok : Nat → Prop} {v : Value} {xs : List α} (h : IsS131 w0 W g f0 f1) (ho : d.Q e W base ok v xs) (ht : ∀ q, q ∈ e :: d.E → q ≠ 131) : d.Q e W base (fun k => ok k ∧ k ≠ g) v xs := by
 obtain ⟨A0, c0, hb, hg, hr0⟩ := h
 exact Kd.Q_types ho hb ht
theorem IsS131.own_neQ {w0 W : World} {g : Nat} {f0 : List Int} {f1 : Int} {α : Type} {d : Kd α} {e : Nat} {base : Nat} {ok : Nat → Prop} {v : Value} {xs : List α} (h : IsS131 w0 W g f0 f1) (ho : d.Q e W base ok v xs) (ht : e ≠ 131) : some g ≠ v.ownBlock := by
 obtain ⟨A0, c0, hb, hg, hr0⟩ := h
 exact Kd.Q_ne ho hb ht
theorem IsS131.apartS {w0 W : World} {g : Nat} {f0 : List Int} {f1 : Int} {α : Type} {d : Kd α} {e : Nat} {base : Nat} {ok : Nat → Prop} {v : Value} {xs : List α} (h : IsS131 w0 W g f0 f1) (ho : d.S e W base ok v xs) (ht : ∀ q, q ∈ e :: d.E → q ≠ 131) : d.S e W base (fun k => ok k ∧ k ≠ g) v xs := by
 obtain ⟨A0, c0, hb, hg, hr0⟩ := h
 exact Kd.S_types ho hb ht
theorem IsS131.own_neS {w0 W : World} {g : Nat} {f0 : List Int} {f1 : Int} {α : Type} {d : Kd α} {e : Nat} {base : Nat} {ok : Nat → Prop} {v : Value} {xs : List α} (h : IsS131 w0 W g f0 f1) (ho : d.S e W base ok v xs) (ht : e ≠ 131) : some g ≠ v.ownBlock := by
 obtain ⟨A0, c0, hb, hg, hr0⟩ := h
 exact Kd.S_ne ho hb ht
theorem IsS131.lt {w0 W : World} {g : Nat} {f0 : List Int} {f1 : Int} (h : IsS131 w0 W g f0 f1) : g < W.heap.size := by
 obtain ⟨A0, c0, hb, hg, hr0⟩ := h
 exact blk_lt hb
theorem IsS131.ge {w0 W : World} {g : Nat} {f0 : List Int} {f1 : Int} (h : IsS131 w0 W g f0 f1) : w0.heap.size ≤ g := by
 obtain ⟨A0, c0, hb, hg, hr0⟩ := h
 exact hg
theorem IsS131.ne_blk {w0 W : World} {g : Nat} {f0 : List Int} {f1 : Int} {a : Nat} {cs : Array Value} {t : TypeId} {fr : Nat × Nat} (h : IsS131 w0 W g f0 f1) (hb2 : W.heap[a]? = some (.cells cs t fr)) (ht : t ≠ 131) : g ≠ a := by
 obtain ⟨A0, c0, hb, hg, hr0⟩ := h
 rintro rfl
 rw [hb] at hb2
 injection hb2 with hb2
 injection hb2 with _ ht2
 exact ht ht2.symm
theorem IsS131.far {w0 W : World} {g : Nat} {f0 : List Int} {f1 : Int} {p : Addr} (h : IsS131 w0 W g f0 f1) (hne : g ≠ p.block) (u : Value) : IsS131 w0 (W.setCell p u) g f0 f1 := by
 obtain ⟨A0, c0, hb, hg, hr0⟩ := h
 exact ⟨A0, c0, blk_far hb hne u, hg, hr0⟩
theorem cellS131_0 {W : World} {g : Nat} {A0 : Option Addr} {c0 : Nat} {f0 : List Int} {f1 : Int} (h : W.heap[g]? = some (.cells #[.slice A0 f0.length c0, .int .i64 f1] 131 (0, 0))) : W.cell? ⟨g, 0, none⟩ = some (.slice A0 f0.length c0) := (blk_cell h 0).trans rfl
theorem cellS131_1 {W : World} {g : Nat} {A0 : Option Addr} {c0 : Nat} {f0 : List Int} {f1 : Int} (h : W.heap[g]? = some (.cells #[.slice A0 f0.length c0, .int .i64 f1] 131 (0, 0))) : W.cell? ⟨g, 1, none⟩ = some (.int .i64 f1) := (blk_cell h 1).trans rfl
theorem IsS131.set_1 {w0 W : World} {g : Nat} {f0 : List Int} {f1 : Int} (h : IsS131 w0 W g f0 f1) (x : Int) : IsS131 w0 (W.setCell ⟨g, 1, none⟩ (.int .i64 x)) g f0 x := by
 obtain ⟨A0, c0, hb, hg, hr0⟩ := h
 exact ⟨A0, c0, by simpa using blk_set hb 1 (.int .i64 x), hg, hr0⟩
theorem IsS131.new (w0 W : World) (A0 : Option Addr) (c0 : Nat) (f0 : List Int) (f1 : Int) (hB : Below w0.heap.size w0 W) (hr0 : Kd.C (Kd.int .u8) w0 A0 f0.length f0) : IsS131 w0 (W.alloc (.cells #[.slice A0 f0.length c0, .int .i64 f1] 131)) W.heap.size f0 f1 := ⟨A0, c0, by simpa using heap_alloc_new W _, hB.size, hr0⟩

def F93.f (l0 : List Int) : Option (List Int × Int) := if (l0.length : Int) > 2000 then (if 2000 ≤ (l0.length : Int) then (some (l0.take 2000, 0)) else (none)) else (some (l0, 0))
theorem F93.c (A0 : Option Addr) (c0 : Nat) (l0 : List Int) (r1 : List Int) (r2 : Int) (w0 w : World) (hB : Below w0.heap.size w0 w) (hr0 : Kd.C (Kd.int .u8) w0 A0 l0.length l0) (hc0 : l0.length ≤ c0) (H : F93.f l0 = some (r1, r2)) :
  Calls prog 66 #[.slice A0 l0.length c0] w fun e w' => ∃ g_ : Nat, e = .returned (.pointer (some ⟨g_, 0, none⟩)) ∧ IsS131 w0 w' g_ r1 r2 ∧ Below w0.heap.size w0 w' ∧ Below w.heap.size w w' := by
 have hu131 := underlying131
 have HR0 := sqa hr0
 have HC0 := sqa hc0
 clear hr0 hc0
 have HBW := sqa (Below.refl w.heap.size w)
 have HW0 := sqa hB.size
 have HB := sqa hB
 clear hB
 unfold F93.f at H
 obtain ⟨c2, H⟩ | ⟨c2, H⟩ := sqi2 H
 ·have c2b0 : decide (2000 < (l0.length : Int)) = true := decide_eq_true c2
  have c2b1 : decide (2000 < l0.length) = true := decide_eq_true (by omega)
  clear c2
  obtain ⟨c3b0, c3b1, H⟩ := sqJ3 H
  obtain ⟨rfl, rfl⟩ := sqO2 H
  obtain ⟨i04, hi0, _, hsz4, _⟩ := info_parts info5
  obtain ⟨hcut4, hA4, hC4⟩ := print_take_of (P := prog) (Value.int .u8) 0 43 5 .i64 underlying43 hi0 hsz4 A0 c0 l0 2000 (by omega) (of_decide_eq_true Z16) HC0.1
  have HR1 := sqa (Kd.C_of_reads (h1 := fun _ => rfl) (hA4 _ (Kd.reads_of_C HR0.1)))
  have HC1 := sqa hC4
  clear hA4 hC4 hi0 hsz4
  go_enter func66, ntmps66
  go_wp2_with (first | ((with_reducible refine sqd 10 rfl ?_); refine sqBox (N := 10) (cs := #[.slice A0 (l0.take 2000).length c0, .int .i64 0]) (t := 131) ?_; intro g0 hg w5 B0 hb; replace HB := sqS (sqB HB) hb; have GW0 := sqa ((sqG hg (sqB HBW))); have E0 := sqa ((Nat.le_trans HW0.out (sqG hg (sqB HBW)) : w0.heap.size ≤ g0)); replace HBW := sqa (below_step HBW.1 hb); clear hb hg))
  go_ret
  exact ⟨_, rfl, (show IsS131 w0 _ g0 (l0.take 2000) 0 from ⟨_, _, by exact sqK B0, E0.1, HR1.1⟩), sqB1 HB E0, sqB1 HBW GW0⟩
 have c2b0 : decide (2000 < (l0.length : Int)) = false := decide_eq_false c2
 have c2b1 : decide (2000 < l0.length) = false := decide_eq_false (by omega)
 clear c2
 obtain ⟨rfl, rfl⟩ := sqO2 H
 go_enter func66, ntmps66
 go_wp2_with (first | ((with_reducible refine sqd 10 rfl ?_); refine sqBox (N := 10) (cs := #[.slice A0 l0.length c0, .int .i64 0]) (t := 131) ?_; intro g1 hg w6 B2 hb; replace HB := sqS (sqB HB) hb; have GW1 := sqa ((sqG hg (sqB HBW))); have E1 := sqa ((Nat.le_trans HW0.out (sqG hg (sqB HBW)) : w0.heap.size ≤ g1)); replace HBW := sqa (below_step HBW.1 hb); clear hb hg))
 go_ret
 exact ⟨_, rfl, (show IsS131 w0 _ g1 l0 0 from ⟨_, _, by exact sqK B2, E1.1, HR0.1⟩), sqB1 HB E1, sqB1 HBW GW1⟩

def F1.j0 : Nat → Int → Bool → List Int → Int → Option (Int × Int)
 | 0, _, _, _, _ => none
 | k + 1, x1, x0, x2, x3 => if x0 = true then (some (0, x3)) else (if (wrap64 (x3 - 1)) < (x2.length : Int) then (if 0 ≤ (wrap64 (x3 - 1)) then (if x1 = 0 then (none) else (some (Int.tmod (wrap64 (rd x2 (wrap64 (x3 - 1)))) x1, x3))) else (none)) else (if (x2.length : Int) = 0 then (none) else (if 0 ≤ (Int.tmod (wrap64 (x3 - 1)) (x2.length : Int)) then (if (Int.tmod (wrap64 (x3 - 1)) (x2.length : Int)) < (x2.length : Int) then (if 0 ≤ (Int.tmod (wrap64 ((wrap64 ((wrap64 (x3 - 1)) * 7)) + 3)) (x2.length : Int)) then (if (Int.tmod (wrap64 ((wrap64 ((wrap64 (x3 - 1)) * 7)) + 3)) (x2.length : Int)) < (x2.length : Int) then (if x1 = 0 then (none) else (some (Int.tmod (Go.bits .xor .i64 (wrap64 ((wrap64 ((wrap64 ((wrap64 ((wrap64 (rd x2 (Int.tmod (wrap64 (x3 - 1)) (x2.length : Int)))) * 131)) + (wrap64 ((wrap64 (rd x2 (Int.tmod (wrap64 ((wrap64 ((wrap64 (x3 - 1)) * 7)) + 3)) (x2.length : Int)))) * 1117)))) + (wrap64 ((wrap64 (x3 - 1)) * 29)))) + (wrap64 ((wrap64 (Int.tdiv (wrap64 (x3 - 1)) (x2.length : Int))) * 53)))) (wrap64 (Int.tdiv (wrap64 ((wrap64 ((wrap64 ((wrap64 ((wrap64 (rd x2 (Int.tmod (wrap64 (x3 - 1)) (x2.length : Int)))) * 131)) + (wrap64 ((wrap64 (rd x2 (Int.tmod (wrap64 ((wrap64 ((wrap64 (x3 - 1)) * 7)) + 3)) (x2.length : Int)))) * 1117)))) + (wrap64 ((wrap64 (x3 - 1)) * 29)))) + (wrap64 ((wrap64 (Int.tdiv (wrap64 (x3 - 1)) (x2.length : Int))) * 53)))) 64))) x1, x3))) else (none)) else (none)) else (none)) else (none))))
def F1.f (k : Nat) (s0_0 : List Int) (s0_1 : Int) (a1 : Int) : Option (Int × Int) := if a1 < 1 then (F1.j0 k a1 true s0_0 (wrap64 (s0_1 + 1))) else (F1.j0 k a1 ((s0_0.length : Int) == 0) s0_0 (wrap64 (s0_1 + 1)))
theorem F1.c (k : Nat) (g : Nat) (s0_0 : List Int) (s0_1 : Int) (a1 : Int) (r1 : Int) (r2 : Int) (w0 w : World) (hI : IsS131 w0 w g s0_0 s0_1) (hB : Below w0.heap.size w0 w) (H : F1.f k s0_0 s0_1 a1 = some (r1, r2)) :
  Calls prog 82 #[.pointer (some ⟨g, 0, none⟩), .int .i64 a1] w fun e w' => e = .returned (.int .i64 r1) ∧ IsS131 w0 w' g s0_0 r2 ∧ Below w0.heap.size w0 w' ∧ KeepBut w w' g none := by
 have HI0 := sqa hI
 have HK := sqa (KeepBut.refl w g none)
 have HL := sqa hB.size
 clear hI
 have HW0 := sqa hB.size
 have HB := sqa hB
 clear hB
 unfold F1.f at H
 have HC3 := sqa H
 clear H
 obtain ⟨ASz4_0, cSz4_0, HGz4, hgz4, HSz4_0⟩ := HI0.1
 have hcz4_0 := cellS131_0 HGz4
 have hcz4_1 := cellS131_1 HGz4
 have hfz4_1 := blk_frozen HGz4 1
 clear HGz4 hgz4
 go_enter func82, ntmps82
 go_upto_region 2 with (fail)
 repeat (go_quiet (fail); go_upto_region 2 with (fail))
 go_cut [24] (fun v24 wc => ∃ (kq : Nat) (x0 : Bool), v24 = .bool x0 ∧ Aside0 (F1.j0 kq a1 x0 s0_0 (wrap64 (s0_1 + 1)) = some (r1, r2)) ∧ Aside0 (kq ≤ k) ∧ Aside0 (IsS131 w0 wc g s0_0 (wrap64 (s0_1 + 1))) ∧ Aside0 (KeepBut w wc g none) ∧ Aside0 (Below w0.heap.size w0 wc))
 case first =>
  have H := HC3.1
  clear HC3
  obtain ⟨c5b0, H⟩ | ⟨c5b0, H⟩ := sqi3 H
  ·(first | rw [c5b0] | (simp only [i64_w, i32_w]; rw [c5b0]) | skip)
   have H' := sqa H
   clear H
   go_wp2
   repeat (go_quiet (fail); try go_wp2)
   go_meet
   case rel => exact ⟨_, (true), Z1, H', ⟨Z11⟩, ⟨Z78 HI0⟩, ⟨Z79⟩, ⟨Z80 HI0⟩⟩
  (first | rw [c5b0] | (simp only [i64_w, i32_w]; rw [c5b0]) | skip)
  have H' := sqa H
  clear H
  obtain ⟨ASz6_0, cSz6_0, HGz6, hgz6, HSz6_0⟩ := HI0.1
  have hcz6_0 := cellS131_0 HGz6
  have hcz6_1 := cellS131_1 HGz6
  have hfz6_1 := blk_frozen HGz6 1
  clear HGz6 hgz6
  go_wp2
  repeat (go_quiet (fail); try go_wp2)
  go_meet
  case rel => exact ⟨_, (((s0_0.length : Int) == 0)), Z1, H', ⟨Z11⟩, ⟨Z78 HI0⟩, ⟨Z79⟩, ⟨Z80 HI0⟩⟩
 case rest =>
  clear HC3
  obtain ⟨kq, x0, rfl, HA, HJ2, HI0, HK, HB⟩ := hcut
  cases kq with
  | zero => exact absurd HA.out (by simp [F1.j0])
  | succ kj2 =>
   have H := HA.out
   clear HA
   simp only [F1.j0] at H
   obtain rfl | rfl := sqt x0
   ·rw [if_pos rfl] at H
    obtain ⟨rfl, rfl⟩ := sqO2 H
    go_wp2
    repeat (go_quiet (fail); try go_wp2)
    go_ret
    exact ⟨Z5, Z78 HI0, Z80 HI0, Z79⟩
   rw [if_neg sqF] at H
   obtain ⟨c8b0, H⟩ | ⟨c8b0, H⟩ := sqi3 H
   ·obtain ⟨ji9, hji9⟩ : ∃ j_ : Int, (wrap64 ((wrap64 (s0_1 + 1)) - 1)) = j_ := ⟨_, rfl⟩
    replace H : (if 0 ≤ (ji9) then (if a1 = 0 then (none) else (some (Int.tmod (wrap64 (rd s0_0 (ji9))) a1, (wrap64 (s0_1 + 1))))) else (none)) = some (r1, r2) := by first | (rw [hji9] at H; exact H) | (simp only [hji9] at H ⊢; exact H)
    (try rw [hji9] at c8b0)
    have hji9w : (IntKind.i64.wrap ((wrap64 (s0_1 + 1)) - 1)) = ji9 := (i64_w _).trans hji9
    obtain ⟨c0, H⟩ := sqJ2 H
    obtain ⟨c1, H⟩ | ⟨c1, H⟩ := sqi2 H
    ·exact absurd H (by simp)
    have c2 := sqe0 c1
    have c3 := sqn1 c1
    obtain ⟨rfl, rfl⟩ := sqO2 H
    obtain ⟨ASz0, cSz0, HGz0, hgz0, HSz0⟩ := HI0.1
    have hcz0 := cellS131_0 HGz0
    have hcz1 := cellS131_1 HGz0
    have hfz0 := blk_frozen HGz0 1
    clear HGz0 hgz0
    have p0 : 0 ≤ ((ji9) : Int) := of_decide_eq_true Z16
    have q0 : (ji9) < (s0_0.length : Int) := of_decide_eq_true Z16
    obtain ⟨ad0, e0, hx0⟩ := Kd.at_int HSz0 (ji9) p0 q0
    cases e0
    replace hx0 := pw_cell_below HB.1 hx0
    replace p0 := eq_true p0
    replace q0 := eq_true q0
    go_wp2
    repeat (go_quiet (fail); try go_wp2)
    go_ret
    exact ⟨by first | rfl | (simp [errP_none, errP_some] <;> rfl) | (simp only [← hji9]; first | rfl | (simp [errP_none, errP_some] <;> rfl)) | (simp [*, errP_none, errP_some] <;> rfl), Z78 HI0, Z80 HI0, Z79⟩
   obtain ⟨c4, H⟩ | ⟨c4, H⟩ := sqi2 H
   ·exact absurd H (by simp)
   have c6 := sqe0 c4
   have c9 := sqn1 c4
   have c12 : ¬ (s0_0 = []) := fun h_ => c4 (by rw [h_]; rfl)
   obtain ⟨ji0, hji0⟩ : ∃ j_ : Int, (Int.tmod (wrap64 ((wrap64 (s0_1 + 1)) - 1)) (s0_0.length : Int)) = j_ := ⟨_, rfl⟩
   replace H : (if 0 ≤ (ji0) then (if (ji0) < (s0_0.length : Int) then (if 0 ≤ (Int.tmod (wrap64 ((wrap64 ((wrap64 ((wrap64 (s0_1 + 1)) - 1)) * 7)) + 3)) (s0_0.length : Int)) then (if (Int.tmod (wrap64 ((wrap64 ((wrap64 ((wrap64 (s0_1 + 1)) - 1)) * 7)) + 3)) (s0_0.length : Int)) < (s0_0.length : Int) then (if a1 = 0 then (none) else (some (Int.tmod (Go.bits .xor .i64 (wrap64 ((wrap64 ((wrap64 ((wrap64 ((wrap64 (rd s0_0 (ji0))) * 131)) + (wrap64 ((wrap64 (rd s0_0 (Int.tmod (wrap64 ((wrap64 ((wrap64 ((wrap64 (s0_1 + 1)) - 1)) * 7)) + 3)) (s0_0.length : Int)))) * 1117)))) + (wrap64 ((wrap64 ((wrap64 (s0_1 + 1)) - 1)) * 29)))) + (wrap64 ((wrap64 (Int.tdiv (wrap64 ((wrap64 (s0_1 + 1)) - 1)) (s0_0.length : Int))) * 53)))) (wrap64 (Int.tdiv (wrap64 ((wrap64 ((wrap64 ((wrap64 ((wrap64 (rd s0_0 (ji0))) * 131)) + (wrap64 ((wrap64 (rd s0_0 (Int.tmod (wrap64 ((wrap64 ((wrap64 ((wrap64 (s0_1 + 1)) - 1)) * 7)) + 3)) (s0_0.length : Int)))) * 1117)))) + (wrap64 ((wrap64 ((wrap64 (s0_1 + 1)) - 1)) * 29)))) + (wrap64 ((wrap64 (Int.tdiv (wrap64 ((wrap64 (s0_1 + 1)) - 1)) (s0_0.length : Int))) * 53)))) 64))) a1, (wrap64 (s0_1 + 1))))) else (none)) else (none)) else (none)) else (none)) = some (r1, r2) := by first | (rw [hji0] at H; exact H) | (simp only [hji0] at H ⊢; exact H)
   obtain ⟨c17, H⟩ := sqJ2 H
   obtain ⟨c22, H⟩ := sqJ2 H
   obtain ⟨ji1, hji1⟩ : ∃ j_ : Int, (Int.tmod (wrap64 ((wrap64 ((wrap64 ((wrap64 (s0_1 + 1)) - 1)) * 7)) + 3)) (s0_0.length : Int)) = j_ := ⟨_, rfl⟩
   replace H : (if 0 ≤ (ji1) then (if (ji1) < (s0_0.length : Int) then (if a1 = 0 then (none) else (some (Int.tmod (Go.bits .xor .i64 (wrap64 ((wrap64 ((wrap64 ((wrap64 ((wrap64 (rd s0_0 (ji0))) * 131)) + (wrap64 ((wrap64 (rd s0_0 (ji1))) * 1117)))) + (wrap64 ((wrap64 ((wrap64 (s0_1 + 1)) - 1)) * 29)))) + (wrap64 ((wrap64 (Int.tdiv (wrap64 ((wrap64 (s0_1 + 1)) - 1)) (s0_0.length : Int))) * 53)))) (wrap64 (Int.tdiv (wrap64 ((wrap64 ((wrap64 ((wrap64 ((wrap64 (rd s0_0 (ji0))) * 131)) + (wrap64 ((wrap64 (rd s0_0 (ji1))) * 1117)))) + (wrap64 ((wrap64 ((wrap64 (s0_1 + 1)) - 1)) * 29)))) + (wrap64 ((wrap64 (Int.tdiv (wrap64 ((wrap64 (s0_1 + 1)) - 1)) (s0_0.length : Int))) * 53)))) 64))) a1, (wrap64 (s0_1 + 1))))) else (none)) else (none)) = some (r1, r2) := by first | (rw [hji1] at H; exact H) | (simp only [hji1] at H ⊢; exact H)
   obtain ⟨c24, H⟩ := sqJ2 H
   obtain ⟨c26, H⟩ := sqJ2 H
   obtain ⟨c20, H⟩ | ⟨c20, H⟩ := sqi2 H
   ·exact absurd H (by simp)
   have c27 := sqe0 c20
   have c28 := sqn1 c20
   obtain ⟨rfl, rfl⟩ := sqO2 H
   obtain ⟨ASz1, cSz1, HGz1, hgz1, HSz1⟩ := HI0.1
   have hcz2 := cellS131_0 HGz1
   have hcz3 := cellS131_1 HGz1
   have hfz1 := blk_frozen HGz1 1
   clear HGz1 hgz1
   have p1 : 0 ≤ ((ji0) : Int) := of_decide_eq_true Z16
   have q1 : (ji0) < (s0_0.length : Int) := of_decide_eq_true Z16
   obtain ⟨ad1, e1, hx1⟩ := Kd.at_int HSz1 (ji0) p1 q1
   cases e1
   replace hx1 := pw_cell_below HB.1 hx1
   replace p1 := eq_true p1
   replace q1 := eq_true q1
   have p2 : 0 ≤ ((ji1) : Int) := of_decide_eq_true Z16
   have q2 : (ji1) < (s0_0.length : Int) := of_decide_eq_true Z16
   obtain ⟨ad2, e2, hx2⟩ := Kd.at_int HSz1 (ji1) p2 q2
   obtain rfl : ad1 = ad2 := (by injection e2)
   replace hx2 := pw_cell_below HB.1 hx2
   replace p2 := eq_true p2
   replace q2 := eq_true q2
   go_wp2
   repeat (go_quiet (fail); try go_wp2)
   go_ret
   exact ⟨by first | rfl | (simp [errP_none, errP_some] <;> rfl) | (simp only [← hji0, ← hji1]; first | rfl | (simp [errP_none, errP_some] <;> rfl)) | (simp [*, errP_none, errP_some] <;> rfl), Z78 HI0, Z80 HI0, Z79⟩

def F28.f (k : Nat) (s0_0 : List Int) (s0_1 : Int) (a1 : Int) : Option (Bool × Int) := if a1 > 0 then ((F1.f k s0_0 s0_1 a1).bind fun bt0 => (some ((bt0.1 == (wrap64 (a1 - 1))), bt0.2))) else (some (false, s0_1))
theorem F28.c (k : Nat) (g : Nat) (s0_0 : List Int) (s0_1 : Int) (a1 : Int) (r1 : Bool) (r2 : Int) (w0 w : World) (hI : IsS131 w0 w g s0_0 s0_1) (hB : Below w0.heap.size w0 w) (H : F28.f k s0_0 s0_1 a1 = some (r1, r2)) :
  Calls prog 74 #[.pointer (some ⟨g, 0, none⟩), .int .i64 a1] w fun e w' => e = .returned (.bool r1) ∧ IsS131 w0 w' g s0_0 r2 ∧ Below w0.heap.size w0 w' ∧ KeepBut w w' g none := by
 have HI0 := sqa hI
 have HK := sqa (KeepBut.refl w g none)
 have HL := sqa hB.size
 clear hI
 have HW0 := sqa hB.size
 have HB := sqa hB
 clear hB
 unfold F28.f at H
 obtain ⟨c3b0, H⟩ | ⟨c3b0, H⟩ := sqi3g H
 ·obtain ⟨⟨t0, t1⟩, A4, H⟩ := sqD H
  try dsimp only at H
  obtain ⟨rfl, rfl⟩ := sqO2 H
  go_enter func74, ntmps74
  go_wp2_with (first | (go_at_call 82; (with_reducible refine (F1.c k g s0_0 s0_1 a1 t0 t1 w0 _ ?side1 ?side2 A4.1).mono ?_); (case side1 => exact Z78 HI0); (case side2 => exact Z80 HI0); rintro e w5 ⟨rfl, hi, hb, hk⟩; replace HK := sqa (KeepBut.trans Z79 hk (.inl rfl)); replace HB := sqa (hb); replace HI0 := sqa (hi)))
  go_ret
  exact ⟨Z5, Z78 HI0, Z80 HI0, Z79⟩
 obtain ⟨rfl, rfl⟩ := sqO2 H
 go_enter func74, ntmps74
 go_wp2
 go_ret
 exact ⟨Z5, Z78 HI0, Z80 HI0, Z79⟩

end Go.Proofs.YtofmlbgfcohhoaaGreatDoor.PFnDeskSay
