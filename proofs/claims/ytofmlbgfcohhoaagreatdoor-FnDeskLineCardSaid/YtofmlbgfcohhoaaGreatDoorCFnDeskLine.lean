/- The walk of the law FnDeskLine, for the answer true: turned by a program of this session from the printed walk. -/
import Derived.Test.YtofmlbgfcohhoaaGreatDoorPFnDeskLinex22
import Derived.Test.YtofmlbgfcohhoaaGreatDoorPFnDeskLinex28
set_option maxHeartbeats 8000000
set_option maxRecDepth 100000
namespace Go.Proofs.YtofmlbgfcohhoaaGreatDoor.PFnDeskLine
open Go.RowKit Go.Proofs.YtofmlbgfcohhoaaGreatDoorW.PrintWords Go.Proofs.YtofmlbgfcohhoaaGreatDoorW.PrintLast Go.Proofs.YtofmlbgfcohhoaaGreatDoorW.PrintMore Go.Proofs.YtofmlbgfcohhoaaGreatDoor.Lib Go.Proofs.Tryz
attribute [local go_sem] max2_int min2_int max_two min_two max_three min_three max_four min_four   -- for this text's walks alone
set_option linter.unusedVariables false
set_option linter.unusedSimpArgs false

/-! ### laws_FnDeskLine: function 9 -/
def laws_FnDeskLine.j0 : Nat → ByteArray → Bool → Int → Int → List (S31) → Int → Int → List (S31) → Option (Bool)
 | 0, _, _, _, _, _, _, _, _ => none
 | k + 1, x6, x0, x1, x2, x3, x4, x5, x7 => if x0 = true then (some false) else ((spec_DeskOk.f k x1 x2 x3).bind fun t0 => (if t0 = true then ((impl_DeskLine.f k x1 x2 x3 (⟨#[]⟩ : ByteArray)).bind fun bt0 => ((impl_DeskOk.f k x4 x5 x7).bind fun t1 => (if t1 = true then (if x6.toList = ([111, 107] : List UInt8) then ((laws_sameDesk.f k bt0.1 bt0.2.1 bt0.2.2.1 x1 x2 x3).bind fun t2 => (if t2 = true then (some (bt0.2.2.2.toList == ([119, 104, 97, 116] : List UInt8))) else (some false))) else ((laws_sameDesk.f k x4 x5 x7 x1 x2 x3).bind fun t3 => (if t3 = true then ((laws_sameDesk.f k bt0.1 bt0.2.1 bt0.2.2.1 x1 x2 x3).bind fun t4 => (if t4 = true then (some (bt0.2.2.2.toList == ([119, 104, 97, 116] : List UInt8))) else (some false))) else (some false)))) else (some false)))) else (if x6.toList = ([] : List UInt8) then ((laws_noDesk.f k x4 x5 x7).bind fun t5 => (if t5 = true then ((laws_alive.f k).bind fun t6 => (some t6)) else (some false))) else (some false))))
def laws_FnDeskLine.f (k : Nat) (l0 : List Int) : Option (Bool) := if (l0.length : Int) > 1048576 then (some true) else ((spec_DrawDeskLine.f k l0).bind fun bt0 => ((impl_DeskLine.f k bt0.1 bt0.2.1 bt0.2.2.1 bt0.2.2.2).bind fun bt1 => ((spec_DeskLine.f k bt0.1 bt0.2.1 bt0.2.2.1 bt0.2.2.2).bind fun bt2 => ((laws_sameDesk.f k bt1.1 bt1.2.1 bt1.2.2.1 bt2.1 bt2.2.1 bt2.2.2.1).bind fun t0 => (if t0 = true then (laws_FnDeskLine.j0 k bt1.2.2.2 (bt1.2.2.2.toList != bt2.2.2.2.toList) bt0.1 bt0.2.1 bt0.2.2.1 bt1.1 bt1.2.1 bt1.2.2.1) else (laws_FnDeskLine.j0 k bt1.2.2.2 true bt0.1 bt0.2.1 bt0.2.2.1 bt1.1 bt1.2.1 bt1.2.2.1))))))
abbrev laws_FnDeskLine.M (k : Nat) : Prop := (∀ y0 y1 y2 y3 y4 y5 y6 y7, LeO (laws_FnDeskLine.j0 k y0 y1 y2 y3 y4 y5 y6 y7) (laws_FnDeskLine.j0 (k + 1) y0 y1 y2 y3 y4 y5 y6 y7))
theorem laws_FnDeskLine.mono_t : ∀ k, laws_FnDeskLine.M k → laws_FnDeskLine.M (k + 1) ∧ ∀ a0, LeO (laws_FnDeskLine.f k a0) (laws_FnDeskLine.f (k + 1) a0) := by
  rintro k ih0
  refine ⟨?_, ?_⟩ <;> (try unfold laws_FnDeskLine.M) <;> intros <;> (first | unfold laws_FnDeskLine.j0 | unfold laws_FnDeskLine.f) <;> repeat' (with_reducible first | exact ih0 _ _ _ _ _ _ _ _ | exact impl_DeskLine.mono _ _ _ _ _ | exact impl_DeskOk.mono _ _ _ _ | exact laws_alive.mono _ | exact laws_noDesk.mono _ _ _ _ | exact laws_sameDesk.mono _ _ _ _ _ _ _ | exact spec_DeskLine.mono _ _ _ _ _ | exact spec_DeskOk.mono _ _ _ _ | exact spec_DrawDeskLine.mono _ _ | exact LeO.refl _ | exact LeO.none _ | refine LeO.ite ?_ ?_ | refine LeO.bind ?_ fun _ => ?_)
theorem laws_FnDeskLine.mono_l : ∀ k, laws_FnDeskLine.M k
 | 0 => fun _ _ _ _ _ _ _ _ r h => by simp [laws_FnDeskLine.j0] at h
 | k + 1 => (laws_FnDeskLine.mono_t k (laws_FnDeskLine.mono_l k)).1
theorem laws_FnDeskLine.mono a0 k : LeO (laws_FnDeskLine.f k a0) (laws_FnDeskLine.f (k + 1) a0) := (laws_FnDeskLine.mono_t k (laws_FnDeskLine.mono_l k)).2 a0
theorem laws_FnDeskLine.calls (k : Nat) (A0 : Option Addr) (c0 : Nat) (l0 : List Int) (r : Bool) (w : World) (hG : Glob w) (hr0 : Kd.C (Kd.int .u8) w A0 l0.length l0) (hc0 : l0.length ≤ c0) (hT : Aside0 (r = true)) (H : laws_FnDeskLine.f k l0 = some r) :
  Calls prog 9 #[.slice A0 l0.length c0] w fun e w' => e = .returned (.bool r) ∧ Below w.heap.size w w' := by
 have hu34 := underlying34
 have HR0 := sqa hr0
 have HC0 := sqa hc0
 clear hr0 hc0
 have HB := sqh w
 unfold laws_FnDeskLine.f at H
 by_cases c2 : (l0.length : Int) > 1048576
 ·rw [if_pos c2] at H
  have c2b0 : decide (1048576 < (l0.length : Int)) = true := decide_eq_true c2
  have c2b1 : decide (1048576 < l0.length) = true := decide_eq_true (by omega)
  clear c2
  obtain rfl := sqo H
  go_enter func9, ntmps9
  go_wp2
  go_ret
  exact ⟨Z5, sqB HB⟩
 rw [if_neg c2] at H
 have c2b0 : decide (1048576 < (l0.length : Int)) = false := decide_eq_false c2
 have c2b1 : decide (1048576 < l0.length) = false := decide_eq_false (by omega)
 clear c2
 obtain ⟨⟨t0, t1, t829, t2⟩, A3, H⟩ := sqD H
 try dsimp only at H
 obtain ⟨⟨t3, t4, t836, t5⟩, A4, H⟩ := sqD H
 try dsimp only at H
 obtain ⟨⟨t841, t842, t843, t6⟩, A5, H⟩ := sqD H
 try dsimp only at H
 have HC6 := sqa H
 clear H
 go_enter func9, ntmps9
 go_upto_region 6 with (first | ((with_reducible refine sqc 44 rfl ?_); refine sqC (some 16) func44 #[.slice A0 l0.length c0] ?_; (with_reducible refine (spec_DrawDeskLine.calls k _ _ l0 t0 t1 t829 t2 _ ?side1 ?side2 A3.1).mono ?_); (case side1 => exact Z88 HR0); (case side2 => exact HC0.1); rintro e w7 ⟨v0, rfl, ho0, hb⟩; refine ⟨_, rfl, ?_⟩; have O0 := sqa (Kd.Q_lower ho0 (below_size (sqB HB))); replace HB := sqS (sqB HB) hb; (try clear ho0)) | ((with_reducible refine sqd 3 rfl ?_); refine sqBx w (sqB HB) (cs := #[.int .i64 0, .int .i64 0, .slice none 0 0]) (t := 34) ?_; intro g0 hg w8 B0 E0 HB hb; replace O0 := sqa (Kd.Q_below (Z39 O0) hb); clear hb hg; obtain ⟨_, _, _, _, _, _⟩ := sqY3 B0; obtain ⟨Ao10, co10, eo0, _⟩ := Kd.Q_slice O0.1; subst eo0) | ((with_reducible refine sqc 40 rfl ?_); refine sqC (some 22) func40 #[.agg #[.int .i64 t0, .int .i64 t1, .slice Ao10 t829.length co10], .string t2] ?_; (with_reducible refine (impl_DeskLine.calls k t0 t1 _ _ t829 t2 t3 t4 t836 t5 _ ?sideG ?side1 ?side2 A4.1).mono ?_); (case sideG => exact Z6 E0); (case side1 => refine (Kd.Q_reads' (e := 31) (base := w.heap.size) (ok := fun k_ => True) (n := t829.length) (c := co10) ?_).2.2; exact (Z107 O0 B0)); (case side2 => exact Z78 O0); rintro e w0 ⟨v1, rfl, ho0, hb⟩; refine ⟨_, rfl, ?_⟩; have O1 := sqa (Kd.R_lower (Kd.R_new' ho0 (Kd.Q_lt (Z107 O0 B0))) (below_size (sqB1 HB E0))); replace O0 := sqa (Kd.Q_elder' (Z107 O0 B0) (Kd.R_base ho0) hb); replace B0 := sqa (blk_below (g := g0) (o := .cells #[.int .i64 t0, .int .i64 t1, .slice Ao10 t829.length co10] 34 (0, 0)) (by refine sqPut (cs := #[.int .i64 t0, .int .i64 t1, .slice none 0 0]) ?_ 2; refine sqPut (cs := #[.int .i64 t0, .int .i64 0, .slice none 0 0]) ?_ 1; refine sqPut (cs := #[.int .i64 0, .int .i64 0, .slice none 0 0]) ?_ 0; exact sqK B0) hb); replace HB := sqS (sqB1 HB E0) hb; (try clear ho0)) | ((with_reducible refine sqd 5 rfl ?_); refine sqBx w (sqB1 HB E0) (cs := #[.int .i64 0, .int .i64 0, .slice none 0 0]) (t := 34) ?_; intro g1 hg w1 B2 E1 HB hb; replace O0 := sqa (Kd.Q_below (Z39 O0) hb); replace O1 := sqU O1 hb; obtain ⟨N0, N1⟩ := sqM hg B0; replace B0 := sqT B0 hb; clear hb hg; have := N1.1; have := N0.1; obtain ⟨_, _, _, _, _, _⟩ := sqY3 B2; obtain ⟨Ao15, co15, eo1⟩ := Kd.R_slice O1.1; subst eo1; obtain ⟨_, _, _, _, _, _⟩ := sqY3 B0) | ((with_reducible refine sqc 43 rfl ?_); refine sqC (some 28) func43 #[.agg #[.int .i64 t0, .int .i64 t1, .slice Ao10 t829.length co10], .string t2] ?_; (with_reducible refine (spec_DeskLine.calls k t0 t1 _ _ t829 t2 t841 t842 t843 t6 _ ?side1 ?side2 A5.1).mono ?_); (case side1 => refine (Kd.Q_reads' (e := 31) (base := w.heap.size) (ok := fun k_ => (True ∧ some k_ ≠ (.slice Ao15 t836.length co15 : Value).ownBlock)) (n := t829.length) (c := co10) ?_).2.2; exact (Z108 O0 B2)); (case side2 => exact Z78 O0); rintro e w2 ⟨v2, rfl, ho0, hb⟩; refine ⟨_, rfl, ?_⟩; have O2 := sqa (Kd.Q_lower (Kd.Q_new' (Kd.Q_new' ho0 (Kd.Q_lt (Z108 O0 B2))) (Kd.R_lt (Z109 O1 B2))) (below_size (sqB2 HB E0 E1))); replace O0 := sqa (Kd.Q_elder' (Z108 O0 B2) (Kd.Q_base ho0) hb); replace O1 := sqa (Kd.R_elder' (Z109 O1 B2) (Kd.Q_base ho0) hb); replace B0 := sqH N0 B0 hb; replace B2 := sqa (blk_below (g := g1) (o := .cells #[.int .i64 t3, .int .i64 t4, .slice Ao15 t836.length co15] 34 (0, 0)) (by refine sqPut (cs := #[.int .i64 t3, .int .i64 t4, .slice none 0 0]) ?_ 2; refine sqPut (cs := #[.int .i64 t3, .int .i64 0, .slice none 0 0]) ?_ 1; refine sqPut (cs := #[.int .i64 0, .int .i64 0, .slice none 0 0]) ?_ 0; exact sqK B2) hb); replace HB := sqS (sqB2 HB E0 E1) hb; (try clear ho0)) | ((with_reducible refine sqd 7 rfl ?_); refine sqBx w (sqB2 HB E0 E1) (cs := #[.int .i64 0, .int .i64 0, .slice none 0 0]) (t := 34) ?_; intro g2 hg w3 B8 E2 HB hb; replace O0 := sqa (Kd.Q_below (Z39 O0) hb); replace O1 := sqU O1 hb; replace O2 := sqa (Kd.Q_below (Z39 O2) hb); obtain ⟨N2, N3⟩ := sqM hg B0; replace B0 := sqT B0 hb; obtain ⟨N4, N5⟩ := sqM hg B2; replace B2 := sqT B2 hb; clear hb hg; have := N3.1; have := N2.1; have := N5.1; have := N4.1; obtain ⟨_, _, _, _, _, _⟩ := sqY3 B8; obtain ⟨Ao22, co22, eo2, _⟩ := Kd.Q_slice O2.1; subst eo2))
 (try simp only [Act.put, List.setIfInBounds_toArray, List.set_cons_zero, List.set_cons_succ])
 go_cut [39] (fun v3 wc => ∃ (kq : Nat) (x0 : Bool), v3 = .bool x0 ∧ Aside0 (laws_FnDeskLine.j0 kq t5 x0 t0 t1 t829 t3 t4 t836 = some r) ∧ Aside0 (kq ≤ k) ∧ Aside0 (Kd.Q k31 31 wc w.heap.size (fun k_ => some k_ ≠ ((.slice Ao15 t836.length co15) : Value).ownBlock ∧ some k_ ≠ ((.slice Ao22 t843.length co22) : Value).ownBlock) (.slice Ao10 t829.length co10) t829) ∧ Aside0 (Kd.R k31 31 wc w.heap.size (fun k_ => some k_ ≠ ((.slice Ao10 t829.length co10) : Value).ownBlock ∧ some k_ ≠ ((.slice Ao22 t843.length co22) : Value).ownBlock) (.slice Ao15 t836.length co15) t836) ∧ Aside0 (Kd.Q k31 31 wc w.heap.size (fun k_ => some k_ ≠ ((.slice Ao10 t829.length co10) : Value).ownBlock ∧ some k_ ≠ ((.slice Ao15 t836.length co15) : Value).ownBlock) (.slice Ao22 t843.length co22) t843) ∧ Aside0 (wc.heap[g0]? = some (.cells #[.int .i64 t0, .int .i64 t1, (.slice Ao10 t829.length co10)] 34 (0, 0))) ∧ Aside0 (wc.heap[g1]? = some (.cells #[.int .i64 t3, .int .i64 t4, (.slice Ao15 t836.length co15)] 34 (0, 0))) ∧ Aside0 (wc.heap[g2]? = some (.cells #[.int .i64 t841, .int .i64 t842, (.slice Ao22 t843.length co22)] 34 (0, 0))) ∧ Aside0 (Below w.heap.size w wc))
 case first =>
  have H := HC6.1
  clear HC6
  obtain ⟨t7, A1, H⟩ := sqD H
  by_cases c1 : t7 = true
  ·subst c1
   rw [if_pos rfl] at H
   have H' := sqa H
   clear H
   have := N1.1
   have := N0.1
   have := N4.1
   have := N5.1
   obtain ⟨_, _, _, _, _, _⟩ := sqY3 B2
   have := N3.1
   have := N2.1
   obtain ⟨_, _, _, _, _, _⟩ := sqY3 B8
   go_wp2_with (first | ((with_reducible refine sqc 22 rfl ?_); refine sqC (some 33) func22 #[.agg #[.int .i64 t3, .int .i64 t4, .slice Ao15 t836.length co15], .agg #[.int .i64 t841, .int .i64 t842, .slice Ao22 t843.length co22]] ?_; (with_reducible refine (laws_sameDesk.calls k t3 t4 _ _ t836 t841 t842 _ _ t843 true _ ?side1 ?side2 ?side3 ?side4 A1.1).mono ?_); (case side1 => exact Z145 O1 B8); (case side2 => exact Z8 O1); (case side3 => exact Z146 O2 B8); (case side4 => exact Z78 O2); refine sqV fun w4 hb => ?_; replace O0 := sqa (Kd.Q_below (Z111 O0 B8) hb); replace O1 := sqa (Kd.R_below (Z110 O1 B8) hb); replace O2 := sqa (Kd.Q_below (Z111 O2 B8) hb); replace B0 := sqH N2 B0 hb; replace B2 := sqH N4 B2 hb; replace B8 := sqa (blk_below (g := g2) (o := .cells #[.int .i64 t841, .int .i64 t842, .slice Ao22 t843.length co22] 34 (0, 0)) (Z112 B8) hb); replace HB := sqS (sqB3 HB E0 E1 E2) hb))
   go_meet
   case rel => exact ⟨_, ((t5.toList != t6.toList)), Z1, H', ⟨Z11⟩, ⟨Z113 O0⟩, ⟨Z114 O1⟩, ⟨Z113 O2⟩, ⟨sqK B0⟩, ⟨sqK B2⟩, ⟨sqK B8⟩, ⟨sqB3 HB E0 E1 E2⟩⟩
  obtain rfl := sqb c1
  rw [if_neg sqF] at H
  have H' := sqa H
  clear H
  have := N1.1
  have := N0.1
  have := N4.1
  have := N5.1
  obtain ⟨_, _, _, _, _, _⟩ := sqY3 B2
  have := N3.1
  have := N2.1
  obtain ⟨_, _, _, _, _, _⟩ := sqY3 B8
  go_wp2_with (first | ((with_reducible refine sqc 22 rfl ?_); refine sqC (some 33) func22 #[.agg #[.int .i64 t3, .int .i64 t4, .slice Ao15 t836.length co15], .agg #[.int .i64 t841, .int .i64 t842, .slice Ao22 t843.length co22]] ?_; (with_reducible refine (laws_sameDesk.calls k t3 t4 _ _ t836 t841 t842 _ _ t843 false _ ?side1 ?side2 ?side3 ?side4 A1.1).mono ?_); (case side1 => exact Z145 O1 B8); (case side2 => exact Z8 O1); (case side3 => exact Z146 O2 B8); (case side4 => exact Z78 O2); refine sqV fun w5 hb => ?_; replace O0 := sqa (Kd.Q_below (Z111 O0 B8) hb); replace O1 := sqa (Kd.R_below (Z110 O1 B8) hb); replace O2 := sqa (Kd.Q_below (Z111 O2 B8) hb); replace B0 := sqH N2 B0 hb; replace B2 := sqH N4 B2 hb; replace B8 := sqa (blk_below (g := g2) (o := .cells #[.int .i64 t841, .int .i64 t842, .slice Ao22 t843.length co22] 34 (0, 0)) (Z112 B8) hb); replace HB := sqS (sqB3 HB E0 E1 E2) hb))
  go_meet
  case rel => exact ⟨_, (true), Z1, H', ⟨Z11⟩, ⟨Z113 O0⟩, ⟨Z114 O1⟩, ⟨Z113 O2⟩, ⟨sqK B0⟩, ⟨sqK B2⟩, ⟨sqK B8⟩, ⟨sqB3 HB E0 E1 E2⟩⟩
 case rest =>
  clear HC6
  obtain ⟨kq, x0, rfl, HA, HJ5, O3, O4, O5, B0, B2, B8, HB⟩ := hcut
  cases kq with
  | zero => exact absurd HA.out (by simp [laws_FnDeskLine.j0])
  | succ kj5 =>
   have H := HA.out
   clear HA
   simp only [laws_FnDeskLine.j0] at H
   by_cases c37 : x0 = true
   ·subst c37
    rw [if_pos rfl] at H
    obtain rfl := sqo H
    go_wp2
    go_ret
    exact ⟨Z5, sqB3 HB E0 E1 E2⟩
   obtain rfl := sqb c37
   rw [if_neg sqF] at H
   obtain ⟨t8, A2, H⟩ := sqD H
   by_cases c3 : t8 = true
   ·subst c3
    rw [if_pos rfl] at H
    obtain ⟨⟨t852, t853, t9, t10⟩, A6, H⟩ := sqD H
    try dsimp only at H
    obtain ⟨t11, A7, H⟩ := sqD H
    by_cases c4 : t11 = true
    ·subst c4
     rw [if_pos rfl] at H
     by_cases c5 : t5.toList = ([111, 107] : List UInt8)
     ·rw [if_pos c5] at H
      have c6 := sqe1 c5
      have c7 := sqn0 c5
      clear c5
      obtain ⟨t12, A8, H⟩ := sqD H
      by_cases c8 : t12 = true
      ·subst c8
       rw [if_pos rfl] at H
       obtain rfl := sqo H
       have := N0.1
       have := N1.1
       have := N2.1
       have := N3.1
       obtain ⟨_, _, _, _, _, _⟩ := sqY3 B0
       go_wp2_with (first | ((with_reducible refine sqc 30 rfl ?_); refine sqC (some 41) func30 #[.agg #[.int .i64 t0, .int .i64 t1, .slice Ao10 t829.length co10]] ?_; (with_reducible refine (spec_DeskOk.calls kj5 t0 t1 _ _ t829 true _ ?side1 ?side2 A2.1).mono ?_); (case side1 => exact Z77 O3); (case side2 => exact Z78 O3); refine sqV fun w6 hb => ?_; replace O3 := sqa (Kd.Q_below (Z39 O3) hb); replace O4 := sqU O4 hb; replace O5 := sqa (Kd.Q_below (Z39 O5) hb); replace B0 := sqT B0 hb; replace B2 := sqT B2 hb; replace B8 := sqT B8 hb; replace HB := sqS (sqB3 HB E0 E1 E2) hb; obtain ⟨_, _, _, _, _, _⟩ := sqY3 B0) | ((with_reducible refine sqc 40 rfl ?_); refine sqC (some 54) func40 #[.agg #[.int .i64 t0, .int .i64 t1, .slice Ao10 t829.length co10], .string (⟨#[]⟩ : ByteArray)] ?_; (with_reducible refine (impl_DeskLine.calls kj5 t0 t1 _ _ t829 (⟨#[]⟩ : ByteArray) t852 t853 t9 t10 _ ?sideG ?side1 ?side2 A6.1).mono ?_); (case sideG => exact Glob.below hG (sqB3 HB E0 E1 E2)); (case side1 => exact Z77 O3); (case side2 => exact Z78 O3); rintro e w9 ⟨v4, rfl, ho0, hb⟩; refine ⟨_, rfl, ?_⟩; have O6 := sqa (Kd.R_lower (Kd.R_new' (Kd.R_new' (Kd.R_new' ho0 (Kd.Q_lt (Z39 O3))) (Kd.R_lt (sqR O4))) (Kd.Q_lt (Z39 O5))) (below_size (sqB3 HB E0 E1 E2))); replace O3 := sqa (Kd.Q_elder' (Z39 O3) (Kd.R_base ho0) hb); replace O4 := sqa (Kd.R_elder' (sqR O4) (Kd.R_base ho0) hb); replace O5 := sqa (Kd.Q_elder' (Z39 O5) (Kd.R_base ho0) hb); replace B0 := sqT B0 hb; replace B2 := sqT B2 hb; replace B8 := sqT B8 hb; replace HB := sqS (sqB3 HB E0 E1 E2) hb; (try clear ho0)) | ((with_reducible refine sqd 9 rfl ?_); refine sqBx w (sqB3 HB E0 E1 E2) (cs := #[.int .i64 0, .int .i64 0, .slice none 0 0]) (t := 34) ?_; intro g3 hg w52 B9 E3 HB hb; replace O3 := sqa (Kd.Q_below (Z39 O3) hb); replace O4 := sqU O4 hb; replace O5 := sqa (Kd.Q_below (Z39 O5) hb); replace O6 := sqU O6 hb; obtain ⟨N6, N7⟩ := sqM hg B0; replace B0 := sqT B0 hb; obtain ⟨N8, N9⟩ := sqM hg B2; replace B2 := sqT B2 hb; obtain ⟨N10, N11⟩ := sqM hg B8; replace B8 := sqT B8 hb; clear hb hg; have := N7.1; have := N6.1; have := N9.1; have := N8.1; have := N11.1; have := N10.1; obtain ⟨_, _, _, _, _, _⟩ := sqY3 B9; obtain ⟨Ao0, co0, eo3⟩ := Kd.R_slice O6.1; subst eo3; have := N4.1; have := N5.1; obtain ⟨_, _, _, _, _, _⟩ := sqY3 B2) | ((with_reducible refine sqc 23 rfl ?_); refine sqC (some 58) func23 #[.agg #[.int .i64 t3, .int .i64 t4, .slice Ao15 t836.length co15]] ?_; (with_reducible refine (impl_DeskOk.calls kj5 t3 t4 _ _ t836 true _ ?side1 ?side2 A7.1).mono ?_); (case side1 => refine (Kd.R_reads' (e := 31) (base := w.heap.size) (ok := fun k_ => ((some k_ ≠ (.slice Ao10 t829.length co10 : Value).ownBlock ∧ some k_ ≠ (.slice Ao22 t843.length co22 : Value).ownBlock) ∧ some k_ ≠ (.slice Ao0 t9.length co0 : Value).ownBlock)) (n := t836.length) (c := co15) ?_).2.2; exact (Z115 O4 B9)); (case side2 => exact Z8 O4); refine sqV fun w60 hb => ?_; replace O3 := sqa (Kd.Q_below (Z116 O3 B9) hb); replace O4 := sqa (Kd.R_below (Z115 O4 B9) hb); replace O5 := sqa (Kd.Q_below (Z116 O5 B9) hb); replace O6 := sqa (Kd.R_below (Z115 O6 B9) hb); replace B0 := sqH N6 B0 hb; replace B2 := sqH N8 B2 hb; replace B8 := sqH N10 B8 hb; replace B9 := sqa (blk_below (g := g3) (o := .cells #[.int .i64 t852, .int .i64 t853, .slice Ao0 t9.length co0] 34 (0, 0)) (Z117 B9) hb); replace HB := sqS (sqB4 HB E0 E1 E2 E3) hb; obtain ⟨_, _, _, _, _, _⟩ := sqY3 B9; obtain ⟨_, _, _, _, _, _⟩ := sqY3 B0) | (go_at_call 22; (with_reducible refine (laws_sameDesk.calls kj5 t852 t853 _ _ t9 t0 t1 _ _ t829 true _ ?side1 ?side2 ?side3 ?side4 A8.1).mono ?_); (case side1 => exact Z7 O6); (case side2 => exact Z8 O6); (case side3 => exact Z77 O3); (case side4 => exact Z78 O3); rintro e w63 ⟨rfl, hb⟩; replace O3 := sqa (Kd.Q_below (Z39 O3) hb); replace O4 := sqU O4 hb; replace O5 := sqa (Kd.Q_below (Z39 O5) hb); replace O6 := sqU O6 hb; replace B0 := sqT B0 hb; replace B2 := sqT B2 hb; replace B8 := sqT B8 hb; replace B9 := sqT B9 hb; replace HB := sqS (sqB4 HB E0 E1 E2 E3) hb))
       go_ret
       exact ⟨Z5, sqB4 HB E0 E1 E2 E3⟩
      rw [if_neg c8] at H
      exact absurd (sqo H) Z118
     rw [if_neg c5] at H
     have c6 := sqe0 c5
     have c7 := sqn1 c5
     obtain ⟨t13, A9, H⟩ := sqD H
     by_cases c9 : t13 = true
     ·subst c9
      rw [if_pos rfl] at H
      obtain ⟨t14, A84, H⟩ := sqD H
      by_cases c85 : t14 = true
      ·subst c85
       rw [if_pos rfl] at H
       obtain rfl := sqo H
       have := N0.1
       have := N1.1
       have := N2.1
       have := N3.1
       obtain ⟨_, _, _, _, _, _⟩ := sqY3 B0
       go_wp2_with (first | ((with_reducible refine sqc 30 rfl ?_); refine sqC (some 41) func30 #[.agg #[.int .i64 t0, .int .i64 t1, .slice Ao10 t829.length co10]] ?_; (with_reducible refine (spec_DeskOk.calls kj5 t0 t1 _ _ t829 true _ ?side1 ?side2 A2.1).mono ?_); (case side1 => exact Z77 O3); (case side2 => exact Z78 O3); refine sqV fun w89 hb => ?_; replace O3 := sqa (Kd.Q_below (Z39 O3) hb); replace O4 := sqU O4 hb; replace O5 := sqa (Kd.Q_below (Z39 O5) hb); replace B0 := sqT B0 hb; replace B2 := sqT B2 hb; replace B8 := sqT B8 hb; replace HB := sqS (sqB3 HB E0 E1 E2) hb; obtain ⟨_, _, _, _, _, _⟩ := sqY3 B0) | ((with_reducible refine sqc 40 rfl ?_); refine sqC (some 54) func40 #[.agg #[.int .i64 t0, .int .i64 t1, .slice Ao10 t829.length co10], .string (⟨#[]⟩ : ByteArray)] ?_; (with_reducible refine (impl_DeskLine.calls kj5 t0 t1 _ _ t829 (⟨#[]⟩ : ByteArray) t852 t853 t9 t10 _ ?sideG ?side1 ?side2 A6.1).mono ?_); (case sideG => exact Glob.below hG (sqB3 HB E0 E1 E2)); (case side1 => exact Z77 O3); (case side2 => exact Z78 O3); rintro e w91 ⟨v4, rfl, ho0, hb⟩; refine ⟨_, rfl, ?_⟩; have O6 := sqa (Kd.R_lower (Kd.R_new' (Kd.R_new' (Kd.R_new' ho0 (Kd.Q_lt (Z39 O3))) (Kd.R_lt (sqR O4))) (Kd.Q_lt (Z39 O5))) (below_size (sqB3 HB E0 E1 E2))); replace O3 := sqa (Kd.Q_elder' (Z39 O3) (Kd.R_base ho0) hb); replace O4 := sqa (Kd.R_elder' (sqR O4) (Kd.R_base ho0) hb); replace O5 := sqa (Kd.Q_elder' (Z39 O5) (Kd.R_base ho0) hb); replace B0 := sqT B0 hb; replace B2 := sqT B2 hb; replace B8 := sqT B8 hb; replace HB := sqS (sqB3 HB E0 E1 E2) hb; (try clear ho0)) | ((with_reducible refine sqd 9 rfl ?_); refine sqBx w (sqB3 HB E0 E1 E2) (cs := #[.int .i64 0, .int .i64 0, .slice none 0 0]) (t := 34) ?_; intro g3 hg w92 B9 E3 HB hb; replace O3 := sqa (Kd.Q_below (Z39 O3) hb); replace O4 := sqU O4 hb; replace O5 := sqa (Kd.Q_below (Z39 O5) hb); replace O6 := sqU O6 hb; obtain ⟨N6, N7⟩ := sqM hg B0; replace B0 := sqT B0 hb; obtain ⟨N8, N9⟩ := sqM hg B2; replace B2 := sqT B2 hb; obtain ⟨N10, N11⟩ := sqM hg B8; replace B8 := sqT B8 hb; clear hb hg; have := N7.1; have := N6.1; have := N9.1; have := N8.1; have := N11.1; have := N10.1; obtain ⟨_, _, _, _, _, _⟩ := sqY3 B9; obtain ⟨Ao1, co1, eo4⟩ := Kd.R_slice O6.1; subst eo4; have := N4.1; have := N5.1; obtain ⟨_, _, _, _, _, _⟩ := sqY3 B2) | ((with_reducible refine sqc 23 rfl ?_); refine sqC (some 58) func23 #[.agg #[.int .i64 t3, .int .i64 t4, .slice Ao15 t836.length co15]] ?_; (with_reducible refine (impl_DeskOk.calls kj5 t3 t4 _ _ t836 true _ ?side1 ?side2 A7.1).mono ?_); (case side1 => refine (Kd.R_reads' (e := 31) (base := w.heap.size) (ok := fun k_ => ((some k_ ≠ (.slice Ao10 t829.length co10 : Value).ownBlock ∧ some k_ ≠ (.slice Ao22 t843.length co22 : Value).ownBlock) ∧ some k_ ≠ (.slice Ao1 t9.length co1 : Value).ownBlock)) (n := t836.length) (c := co15) ?_).2.2; exact (Z119 O4 B9)); (case side2 => exact Z8 O4); refine sqV fun w20 hb => ?_; replace O3 := sqa (Kd.Q_below (Z120 O3 B9) hb); replace O4 := sqa (Kd.R_below (Z119 O4 B9) hb); replace O5 := sqa (Kd.Q_below (Z120 O5 B9) hb); replace O6 := sqa (Kd.R_below (Z119 O6 B9) hb); replace B0 := sqH N6 B0 hb; replace B2 := sqH N8 B2 hb; replace B8 := sqH N10 B8 hb; replace B9 := sqa (blk_below (g := g3) (o := .cells #[.int .i64 t852, .int .i64 t853, .slice Ao1 t9.length co1] 34 (0, 0)) (Z117 B9) hb); replace HB := sqS (sqB4 HB E0 E1 E2 E3) hb; obtain ⟨_, _, _, _, _, _⟩ := sqY3 B2; obtain ⟨_, _, _, _, _, _⟩ := sqY3 B0) | (go_at_call 22; (with_reducible refine (laws_sameDesk.calls kj5 t3 t4 _ _ t836 t0 t1 _ _ t829 true _ ?side1 ?side2 ?side3 ?side4 A9.1).mono ?_); (case side1 => exact Z7 O4); (case side2 => exact Z8 O4); (case side3 => exact Z77 O3); (case side4 => exact Z78 O3); rintro e w21 ⟨rfl, hb⟩; replace O3 := sqa (Kd.Q_below (Z39 O3) hb); replace O4 := sqU O4 hb; replace O5 := sqa (Kd.Q_below (Z39 O5) hb); replace O6 := sqU O6 hb; replace B0 := sqT B0 hb; replace B2 := sqT B2 hb; replace B8 := sqT B8 hb; replace B9 := sqT B9 hb; replace HB := sqS (sqB4 HB E0 E1 E2 E3) hb; obtain ⟨_, _, _, _, _, _⟩ := sqY3 B9; obtain ⟨_, _, _, _, _, _⟩ := sqY3 B0) | (go_at_call 22; (with_reducible refine (laws_sameDesk.calls kj5 t852 t853 _ _ t9 t0 t1 _ _ t829 true _ ?side1 ?side2 ?side3 ?side4 A84.1).mono ?_); (case side1 => exact Z7 O6); (case side2 => exact Z8 O6); (case side3 => exact Z77 O3); (case side4 => exact Z78 O3); rintro e w22 ⟨rfl, hb⟩; replace O3 := sqa (Kd.Q_below (Z39 O3) hb); replace O4 := sqU O4 hb; replace O5 := sqa (Kd.Q_below (Z39 O5) hb); replace O6 := sqU O6 hb; replace B0 := sqT B0 hb; replace B2 := sqT B2 hb; replace B8 := sqT B8 hb; replace B9 := sqT B9 hb; replace HB := sqS (sqB4 HB E0 E1 E2 E3) hb))
       go_ret
       exact ⟨Z5, sqB4 HB E0 E1 E2 E3⟩
      rw [if_neg c85] at H
      exact absurd (sqo H) Z118
     rw [if_neg c9] at H
     exact absurd (sqo H) Z118
    rw [if_neg c4] at H
    exact absurd (sqo H) Z118
   obtain rfl := sqb c3
   rw [if_neg sqF] at H
   by_cases c10 : t5.toList = ([] : List UInt8)
   ·rw [if_pos c10] at H
    have c11 := sqe1 c10
    try have c12 : t5.toList.isEmpty = true := by (have h_ := c11; (repeat rw [sqy] at h_); exact h_)
    have c13 := sqn0 c10
    clear c10
    obtain ⟨t15, A11, H⟩ := sqD H
    by_cases c14 : t15 = true
    ·subst c14
     rw [if_pos rfl] at H
     obtain ⟨t16, A12, H⟩ := sqD H
     obtain rfl := sqo H
     have := N0.1
     have := N1.1
     have := N2.1
     have := N3.1
     obtain ⟨_, _, _, _, _, _⟩ := sqY3 B0
     go_wp2_with (first | ((with_reducible refine sqc 30 rfl ?_); refine sqC (some 41) func30 #[.agg #[.int .i64 t0, .int .i64 t1, .slice Ao10 t829.length co10]] ?_; (with_reducible refine (spec_DeskOk.calls kj5 t0 t1 _ _ t829 false _ ?side1 ?side2 A2.1).mono ?_); (case side1 => exact Z77 O3); (case side2 => exact Z78 O3); refine sqV fun w23 hb => ?_; replace O3 := sqa (Kd.Q_below (Z39 O3) hb); replace O4 := sqU O4 hb; replace O5 := sqa (Kd.Q_below (Z39 O5) hb); replace B0 := sqT B0 hb; replace B2 := sqT B2 hb; replace B8 := sqT B8 hb; replace HB := sqS (sqB3 HB E0 E1 E2) hb; have := N4.1; have := N5.1; obtain ⟨_, _, _, _, _, _⟩ := sqY3 B2) | (go_at_call 31; (with_reducible refine (laws_noDesk.calls kj5 t3 t4 _ _ t836 true _ ?side1 ?side2 A11.1).mono ?_); (case side1 => exact Z7 O4); (case side2 => exact Z8 O4); rintro e w24 ⟨rfl, hb⟩; replace O3 := sqa (Kd.Q_below (Z39 O3) hb); replace O4 := sqU O4 hb; replace O5 := sqa (Kd.Q_below (Z39 O5) hb); replace B0 := sqT B0 hb; replace B2 := sqT B2 hb; replace B8 := sqT B8 hb; replace HB := sqS (sqB3 HB E0 E1 E2) hb) | (go_at_call 24; (with_reducible refine (laws_alive.calls kj5  t16 _ A12.1).mono ?_); rintro e w25 ⟨rfl, hb⟩; replace O3 := sqa (Kd.Q_below (Z39 O3) hb); replace O4 := sqU O4 hb; replace O5 := sqa (Kd.Q_below (Z39 O5) hb); replace B0 := sqT B0 hb; replace B2 := sqT B2 hb; replace B8 := sqT B8 hb; replace HB := sqS (sqB3 HB E0 E1 E2) hb))
     go_ret
     exact ⟨Z5, sqB3 HB E0 E1 E2⟩
    rw [if_neg c14] at H
    exact absurd (sqo H) Z118
   rw [if_neg c10] at H
   exact absurd (sqo H) Z118
/-- THE ONE PURE STATEMENT of laws_FnDeskLine: yours. -/
def laws_FnDeskLine.Pure : Prop := ∀ (l0 : List Int), l0.length ≤ maxLen → l0.length * 1 ≤ 140737488351232 → (∀ x ∈ l0, (Lit.int .u8 x).wf = true) → ∃ k, laws_FnDeskLine.f k l0 = some true
theorem laws_FnDeskLine.walk (P : laws_FnDeskLine.Pure) (a0 : Option Addr) (len0 cap0 : Nat) (z0 : List Int) (w : World) (hG : Glob w) (w0 : (a0 = none ∧ len0 = 0 ∧ cap0 = 0 ∧ z0 = []) ∨ ∃ x, a0 = some x ∧ len0 ≤ cap0 ∧ cap0 ≤ maxLen ∧ z0.length = cap0 ∧ (∀ i, i < z0.length → w.cell? (x.add i) = some (.int .u8 (z0.getD i 0))) ∧ ∀ n ∈ z0, (Lit.int .u8 n).wf = true) (y0 : len0 * 1 ≤ 140737488351232) :
  Calls prog 9 #[.slice a0 len0 cap0] w fun e w' => e = .returned (.bool true) ∧ Below w.heap.size w w' := by
 obtain ⟨l0, rfl, hr0, hm0, hw0, hc0⟩ := ReadsInt.ofRowC w0
 obtain ⟨k, h⟩ := P l0 hm0 y0 hw0
 refine (laws_FnDeskLine.calls k _ _ l0 true w hG (Kd.C_of_reads (d := (0 : Int)) (h1 := fun _ => rfl) hr0) hc0 ⟨rfl⟩ h).mono ?_
 rintro e w' ⟨rfl, hd⟩
 exact ⟨rfl, hd⟩


end Go.Proofs.YtofmlbgfcohhoaaGreatDoor.PFnDeskLine
