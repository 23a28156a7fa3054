/- The walk of the law FnDeskSay, for the answer true: turned by a program of this session from the printed walk. -/
import Derived.Test.YtofmlbgfcohhoaaGreatDoorPFnDeskSayx23
import Derived.Test.YtofmlbgfcohhoaaGreatDoorPFnDeskSayx29
set_option maxHeartbeats 8000000
set_option maxRecDepth 100000
namespace Go.Proofs.YtofmlbgfcohhoaaGreatDoor.PFnDeskSay
open Go.RowKit Go.Proofs.YtofmlbgfcohhoaaGreatDoorW.PrintWords Go.Proofs.YtofmlbgfcohhoaaGreatDoorW.PrintLast Go.Proofs.YtofmlbgfcohhoaaGreatDoorW.PrintMore Go.Proofs.YtofmlbgfcohhoaaGreatDoor.Lib Go.Proofs.Tryz
attribute [local go_sem] max2_int min2_int max_two min_two max_three min_three max_four min_four   -- for this text's walks alone
set_option linter.unusedVariables false
set_option linter.unusedSimpArgs false

mutual
def laws_FnDeskSay.j0 : Nat → List ByteArray → List ByteArray → Bool → Int → Int → List (S31) → Int → Int → List (S31) → Option (Bool)
 | 0, _, _, _, _, _, _, _, _, _ => none
 | k + 1, x4, x6, x0, x1, x2, x3, x5, x7, x8 => if x0 = true then (some false) else ((F15.f k x1 x2 x3).bind fun t0 => (if t0 = true then (laws_FnDeskSay.j1 k x4 x6 (decide ((x4.length : Int) > 40)) x1 x2 x3 x5 x7 x8) else (laws_FnDeskSay.j1 k x4 x6 true x1 x2 x3 x5 x7 x8)))
def laws_FnDeskSay.j1 : Nat → List ByteArray → List ByteArray → Bool → Int → Int → List (S31) → Int → Int → List (S31) → Option (Bool)
 | 0, _, _, _, _, _, _, _, _, _ => none
 | k + 1, x4, x6, x0, x1, x2, x3, x5, x7, x8 => if x0 = true then (if (x6.length : Int) = 0 then ((F91.f k x5 x7 x8).bind fun t0 => (if t0 = true then ((F88.f k).bind fun t1 => (some t1)) else (some false))) else (some false)) else (if 0 ≤ (wrap64 ((x4.length : Int) / 2)) then (if (wrap64 ((x4.length : Int) / 2)) ≤ (x4.length : Int) then ((F8.f k x1 x2 x3 (x4.take ((wrap64 ((x4.length : Int) / 2)) : Int).toNat)).bind fun bt0 => ((F8.f k bt0.1 bt0.2.1 bt0.2.2.1 (x4.drop ((wrap64 ((x4.length : Int) / 2)) : Int).toNat)).bind fun bt1 => (laws_FnDeskSay.l0 k x4 x6 bt0.2.2.2 bt1.2.2.2 0 x5 x7 x8 bt1.1 bt1.2.1 bt1.2.2.1))) else (none)) else (none))
def laws_FnDeskSay.l0 : Nat → List ByteArray → List ByteArray → List ByteArray → List ByteArray → Int → Int → Int → List (S31) → Int → Int → List (S31) → Option (Bool)
 | 0, _, _, _, _, _, _, _, _, _, _, _ => none
 | k + 1, x4, x6, x0, x1, x2, x3, x5, x7, x8, x9, x10 => if x2 < (x6.length : Int) then (if 0 ≤ x2 then (if (rdOf ByteArray.empty x6 x2).toList = ([] : List UInt8) then (some false) else (laws_FnDeskSay.l0 k x4 x6 x0 x1 (wrap64 (x2 + 1)) x3 x5 x7 x8 x9 x10)) else (none)) else ((F65.f k x3 x5 x7 (⟨#[116, 97, 107, 101, 32, 53, 47, 51]⟩ : ByteArray)).bind fun bt0 => ((F65.f k bt0.1 bt0.2.1 bt0.2.2.1 (⟨#[109, 111, 118, 101, 115]⟩ : ByteArray)).bind fun bt1 => ((F89.f k 5 3).bind fun bt2 => ((F22.f k x8 x9 x10 x3 x5 x7).bind fun t0 => (if t0 = true then ((some (([] : List ByteArray) : List ByteArray)).bind fun y0 => (if y0.length + x0.length < 8796093022208 then ((some (y0 ++ x0 : List ByteArray)).bind fun y1 => (if y1.length + x1.length < 8796093022208 then ((F41.f k (y1 ++ x1) x6).bind fun t1 => (if t1 = true then (if (x6.length : Int) = (x4.length : Int) then (if bt2.2 = true then (if 1 + bt2.1.size ≤ 9223372036854775807 then (some (bt1.2.2.2.toList == ((⟨#[58]⟩ : ByteArray) ++ bt2.1).toList)) else (none)) else (some false)) else (some false)) else (some false))) else (none))) else (none))) else (some false))))))
end
def laws_FnDeskSay.f (k : Nat) (l0 : List Int) : Option (Bool) := if (l0.length : Int) > 1048576 then (some true) else ((F54.f k l0).bind fun bt0 => ((F8.f k bt0.1 bt0.2.1 bt0.2.2.1 bt0.2.2.2).bind fun bt1 => ((F10.f k bt0.1 bt0.2.1 bt0.2.2.1 bt0.2.2.2).bind fun bt2 => ((F22.f k bt1.1 bt1.2.1 bt1.2.2.1 bt2.1 bt2.2.1 bt2.2.2.1).bind fun t0 => (if t0 = true then ((F41.f k bt1.2.2.2 bt2.2.2.2).bind fun t1 => (laws_FnDeskSay.j0 k bt0.2.2.2 bt1.2.2.2 (!t1) bt0.1 bt0.2.1 bt0.2.2.1 bt1.1 bt1.2.1 bt1.2.2.1)) else (laws_FnDeskSay.j0 k bt0.2.2.2 bt1.2.2.2 true bt0.1 bt0.2.1 bt0.2.2.1 bt1.1 bt1.2.1 bt1.2.2.1))))))
def laws_FnDeskSay.T11 : Bool × List (List Nat × List Nat) := (true, [([], []), ([], []), ([], []), ([1, 2], [1, 2]), ([0, 3], [0, 3]), ([4], [4]), ([5], [5]), ([5], [5]), ([], []), ([8, 6, 4, 0, 1, 2, 3, 4, 5, 6, 8], [6, 8]), ([7, 9, 0, 1, 2, 3, 4, 5, 6, 7, 8, 9], [7])])
def laws_FnDeskSay.B11 : List Nat := [0, 0, 0, 6, 15, 31, 63, 63, 0, 383, 1023]
theorem laws_FnDeskSay.tab11 : rtab .any (opsOf f11 11) = laws_FnDeskSay.T11 := by kernel_rfl
theorem laws_FnDeskSay.bits11 : waitsOk laws_FnDeskSay.T11.2 laws_FnDeskSay.B11 = true := by kernel_rfl
def laws_FnDeskSay.T12 : Bool × List (List Nat × List Nat) := (true, [([], []), ([], []), ([], []), ([1, 2], [1, 2]), ([0, 3], [0, 3]), ([4], [4]), ([5], [5]), ([5], [5]), ([], []), ([8, 6, 4, 0, 1, 2, 3, 4, 5, 6, 8], [6, 8]), ([7, 9, 0, 1, 2, 3, 4, 5, 6, 7, 8, 9], [7])])
def laws_FnDeskSay.B12 : List Nat := [0, 0, 0, 6, 15, 31, 63, 63, 0, 383, 1023]
theorem laws_FnDeskSay.tab12 : rtab .any (opsOf f11 12) = laws_FnDeskSay.T12 := by kernel_rfl
theorem laws_FnDeskSay.bits12 : waitsOk laws_FnDeskSay.T12.2 laws_FnDeskSay.B12 = true := by kernel_rfl
theorem laws_FnDeskSay.calls (k : Nat) (A0 : Option Addr) (c0 : Nat) (l0 : List Int) (r : Bool) (w : World) (hG : Glob w) (hr0 : Kd.C (Kd.int .u8) w A0 l0.length l0) (hc0 : l0.length ≤ c0) (hT : Aside0 (r = true)) (H : laws_FnDeskSay.f k l0 = some r) :
  Calls prog 11 #[.slice A0 l0.length c0] w fun e w' => e = .returned (.bool r) ∧ Below w.heap.size w w' := by
 have hu34 := underlying34
 have hu31 := underlying31
 have HR0 := sqa hr0
 have HC0 := sqa hc0
 clear hr0 hc0
 have HB := sqh w
 unfold laws_FnDeskSay.f at H
 obtain ⟨c2, H⟩ | ⟨c2, H⟩ := sqi2 H
 ·have c2b0 : decide (1048576 < (l0.length : Int)) = true := decide_eq_true c2
  have c2b1 : decide (1048576 < l0.length) = true := decide_eq_true (by omega)
  clear c2
  obtain rfl := sqo H
  go_enter func11, ntmps11
  go_wp2
  go_ret
  exact ⟨Z5, sqB HB⟩
 have c2b0 : decide (1048576 < (l0.length : Int)) = false := decide_eq_false c2
 have c2b1 : decide (1048576 < l0.length) = false := decide_eq_false (by omega)
 clear c2
 obtain ⟨⟨t0, t1, t890, t2⟩, A3, H⟩ := sqD H
 try dsimp only at H
 obtain ⟨⟨t3, t4, t899, t5⟩, A4, H⟩ := sqD H
 try dsimp only at H
 obtain ⟨⟨t906, t907, t908, t6⟩, A5, H⟩ := sqD H
 try dsimp only at H
 have HC6 := sqa H
 clear H
 go_enter func11, ntmps11
 go_upto_region 6 with (first | ((with_reducible refine sqc 52 rfl ?_); refine sqC (some 26) func52 #[.slice A0 l0.length c0] ?_; (with_reducible refine (F54.c k _ _ l0 t0 t1 t890 t2 _ ?side1 ?side2 A3.1).mono ?_); (case side1 => exact Z101 HR0); (case side2 => exact HC0.1); rintro e w7 ⟨v0, v1, rfl, ho0, ho1, hb⟩; refine ⟨_, rfl, ?_⟩; have O0 := sqa (Kd.Q_lower ho0 (below_size (sqB HB))); have O1 := sqL ho1 (sqB HB); replace HB := sqS (sqB HB) hb; (try clear ho0); (try clear ho1)) | ((with_reducible refine sqd 3 rfl ?_); (try (refine gate_guard (by rfl) ?_; dsimp only)); refine sqx w (sqB HB) #[.int .i64 0, .int .i64 0, .slice none 0 0] 34 fun g0 hg w8 B0 E0 HB hb => ?_; replace O0 := sqa (Kd.Q_below (Z40 O0) hb); replace O1 := sqU O1 hb; clear hb hg; have := sqY3 B0; obtain ⟨Ao10, co10, eo0, _⟩ := Kd.Q_slice O0.1; subst eo0; obtain ⟨Ao0, co0, eo1⟩ := Kd.R_slice O1.1; subst eo1) | ((with_reducible refine sqc 48 rfl ?_); refine sqC (some 32) func48 #[.agg #[.int .i64 t0, .int .i64 t1, .slice Ao10 t890.length co10], .slice Ao0 t2.length co0] ?_; (with_reducible refine (F8.c k t0 t1 _ _ t890 _ _ t2 t3 t4 t899 t5 _ ?sideG ?side1 ?side2 ?side3 ?side4 A4.1).mono ?_); (case sideG => exact Z6 E0); (case side1 => refine (Kd.Q_reads' (e := 31) (base := w.heap.size) (ok := fun k_ => True) (n := t890.length) (c := co10) ?_).2.2; exact (Z120 O0 B0)); (case side2 => exact Z70 O0); (case side3 => refine (Kd.R_reads' (e := 9) (base := w.heap.size) (ok := fun k_ => True) (n := t2.length) (c := co0) ?_).2.2; exact (Z121 O1 B0)); (case side4 => exact Z8 O1); rintro e w2 ⟨v2, v3, rfl, ho0, ho1, hb⟩; refine ⟨_, rfl, ?_⟩; have O2 := sqa (Kd.R_lower (Kd.R_new' ho0 (Kd.Q_lt (Z120 O0 B0))) (below_size (sqB1 HB E0))); replace O0 := sqa (Kd.Q_elder' (Z120 O0 B0) (Kd.R_base ho0) hb); have O3 := sqa (Kd.R_lower (Kd.R_new' ho1 (Kd.R_lt (Z121 O1 B0))) (below_size (sqB1 HB E0))); replace O1 := sqa (Kd.R_elder' (Z121 O1 B0) (Kd.R_base ho1) hb); replace B0 := sqa (blk_below (g := g0) (o := .cells #[.int .i64 t0, .int .i64 t1, .slice Ao10 t890.length co10] 34 (0, 0)) (by refine sqPut (cs := #[.int .i64 t0, .int .i64 t1, .slice none 0 0]) ?_ 2; refine sqPut (cs := #[.int .i64 t0, .int .i64 0, .slice none 0 0]) ?_ 1; refine sqPut (cs := #[.int .i64 0, .int .i64 0, .slice none 0 0]) ?_ 0; exact sqK B0) hb); replace HB := sqS (sqB1 HB E0) hb; (try clear ho0); (try clear ho1)) | ((with_reducible refine sqd 5 rfl ?_); (try (refine gate_guard (by rfl) ?_; dsimp only)); refine sqx w (sqB1 HB E0) #[.int .i64 0, .int .i64 0, .slice none 0 0] 34 fun g1 hg w3 B2 E1 HB hb => ?_; replace O0 := sqa (Kd.Q_below (Z40 O0) hb); replace O1 := sqU O1 hb; replace O2 := sqU O2 hb; replace O3 := sqU O3 hb; obtain ⟨N0, N1⟩ := sqM hg B0; replace B0 := sqT B0 hb; clear hb hg; have := sqn2 N1 N0; have := sqY3 B2; obtain ⟨Ao16, co16, eo2⟩ := Kd.R_slice O2.1; subst eo2; have := sqY3 B0) | ((with_reducible refine sqc 46 rfl ?_); refine sqC (some 38) func46 #[.agg #[.int .i64 t0, .int .i64 t1, .slice Ao10 t890.length co10], .slice Ao0 t2.length co0] ?_; (with_reducible refine (F10.c k t0 t1 _ _ t890 _ _ t2 t906 t907 t908 t6 _ ?side1 ?side2 ?side3 ?side4 A5.1).mono ?_); (case side1 => refine (Kd.Q_reads' (e := 31) (base := w.heap.size) (ok := fun k_ => (True ∧ some k_ ≠ (.slice Ao16 t899.length co16 : Value).ownBlock)) (n := t890.length) (c := co10) ?_).2.2; exact (Z122 O0 B2)); (case side2 => exact Z70 O0); (case side3 => refine (Kd.R_reads' (e := 9) (base := w.heap.size) (ok := fun k_ => (True ∧ some k_ ≠ (v3 : Value).ownBlock)) (n := t2.length) (c := co0) ?_).2.2; exact (Z123 O1 B2)); (case side4 => exact Z8 O1); rintro e w4 ⟨v4, v5, rfl, ho0, ho1, hb⟩; refine ⟨_, rfl, ?_⟩; have O4 := sqa (Kd.Q_lower (Kd.Q_new' (Kd.Q_new' ho0 (Kd.Q_lt (Z122 O0 B2))) (Kd.R_lt (Z123 O2 B2))) (below_size (sqB2 HB E0 E1))); replace O0 := sqa (Kd.Q_elder' (Z122 O0 B2) (Kd.Q_base ho0) hb); replace O2 := sqa (Kd.R_elder' (Z123 O2 B2) (Kd.Q_base ho0) hb); have O5 := sqa (Kd.R_lower (Kd.R_new' (Kd.R_new' ho1 (Kd.R_lt (Z123 O1 B2))) (Kd.R_lt (Z123 O3 B2))) (below_size (sqB2 HB E0 E1))); replace O1 := sqa (Kd.R_elder' (Z123 O1 B2) (Kd.R_base ho1) hb); replace O3 := sqa (Kd.R_elder' (Z123 O3 B2) (Kd.R_base ho1) hb); replace B0 := sqH N0 B0 hb; replace B2 := sqa (blk_below (g := g1) (o := .cells #[.int .i64 t3, .int .i64 t4, .slice Ao16 t899.length co16] 34 (0, 0)) (by refine sqPut (cs := #[.int .i64 t3, .int .i64 t4, .slice none 0 0]) ?_ 2; refine sqPut (cs := #[.int .i64 t3, .int .i64 0, .slice none 0 0]) ?_ 1; refine sqPut (cs := #[.int .i64 0, .int .i64 0, .slice none 0 0]) ?_ 0; exact sqK B2) hb); replace HB := sqS (sqB2 HB E0 E1) hb; (try clear ho0); (try clear ho1)) | ((with_reducible refine sqd 7 rfl ?_); (try (refine gate_guard (by rfl) ?_; dsimp only)); refine sqx w (sqB2 HB E0 E1) #[.int .i64 0, .int .i64 0, .slice none 0 0] 34 fun g2 hg w5 B9 E2 HB hb => ?_; replace O0 := sqa (Kd.Q_below (Z40 O0) hb); replace O1 := sqU O1 hb; replace O2 := sqU O2 hb; replace O3 := sqU O3 hb; replace O4 := sqa (Kd.Q_below (Z40 O4) hb); replace O5 := sqU O5 hb; obtain ⟨N2, N3⟩ := sqM hg B0; replace B0 := sqT B0 hb; obtain ⟨N4, N5⟩ := sqM hg B2; replace B2 := sqT B2 hb; clear hb hg; have := sqn4 N3 N2 N5 N4; have := sqY3 B9; obtain ⟨Ao23, co23, eo3, _⟩ := Kd.Q_slice O4.1; subst eo3))
 (try simp only [Act.put, List.setIfInBounds_toArray, List.set_cons_zero, List.set_cons_succ])
 go_cut [50] (fun v6 wc => ∃ (kq : Nat) (x0 : Bool), v6 = .bool x0 ∧ Aside0 (laws_FnDeskSay.j0 kq t2 t5 x0 t0 t1 t890 t3 t4 t899 = some r) ∧ Aside0 (kq ≤ k) ∧ Aside0 (Kd.R Kd.string 9 wc w.heap.size (fun k_ => some k_ ≠ (v3 : Value).ownBlock) (.slice Ao0 t2.length co0) t2) ∧ Aside0 (Kd.R Kd.string 9 wc w.heap.size (fun k_ => some k_ ≠ ((.slice Ao0 t2.length co0) : Value).ownBlock) v3 t5) ∧ Aside0 (Kd.Q k31 31 wc w.heap.size (fun k_ => some k_ ≠ ((.slice Ao16 t899.length co16) : Value).ownBlock ∧ some k_ ≠ ((.slice Ao23 t908.length co23) : Value).ownBlock) (.slice Ao10 t890.length co10) t890) ∧ Aside0 (Kd.R k31 31 wc w.heap.size (fun k_ => some k_ ≠ ((.slice Ao10 t890.length co10) : Value).ownBlock ∧ some k_ ≠ ((.slice Ao23 t908.length co23) : Value).ownBlock) (.slice Ao16 t899.length co16) t899) ∧ Aside0 (Kd.Q k31 31 wc w.heap.size (fun k_ => some k_ ≠ ((.slice Ao10 t890.length co10) : Value).ownBlock ∧ some k_ ≠ ((.slice Ao16 t899.length co16) : Value).ownBlock) (.slice Ao23 t908.length co23) t908) ∧ Aside0 (wc.heap[g0]? = some (.cells #[.int .i64 t0, .int .i64 t1, (.slice Ao10 t890.length co10)] 34 (0, 0))) ∧ Aside0 (wc.heap[g1]? = some (.cells #[.int .i64 t3, .int .i64 t4, (.slice Ao16 t899.length co16)] 34 (0, 0))) ∧ Aside0 (wc.heap[g2]? = some (.cells #[.int .i64 t906, .int .i64 t907, (.slice Ao23 t908.length co23)] 34 (0, 0))) ∧ Aside0 (Below w.heap.size w wc))
 case first =>
  have H := HC6.1
  clear HC6
  obtain ⟨t7, A2, H⟩ := sqD H
  obtain rfl | rfl := sqt t7
  ·rw [if_pos rfl] at H
   obtain ⟨t8, A6, H⟩ := sqD H
   have H' := sqa H
   clear H
   have := sqn4 N1 N0 N4 N5
   have := sqY3 B2
   have := sqn2 N3 N2
   have := sqY3 B9
   go_wp2_with (first | ((with_reducible refine sqc 22 rfl ?_); refine sqv (some 43) func22 (args := #[.agg #[.int .i64 t3, .int .i64 t4, .slice Ao16 t899.length co16], .agg #[.int .i64 t906, .int .i64 t907, .slice Ao23 t908.length co23]]) (F22.c k t3 t4 _ _ t899 t906 t907 _ _ t908 true _ (Z176 O2 B9) (Z8 O2) (Z177 O4 B9) (Z70 O4) A2.1) fun w6 hb => ?_; replace O0 := sqa (Kd.Q_below (Z125 O0 B9) hb); replace O1 := sqa (Kd.R_below (Z124 O1 B9) hb); replace O2 := sqa (Kd.R_below (Z124 O2 B9) hb); replace O3 := sqa (Kd.R_below (Z124 O3 B9) hb); replace O4 := sqa (Kd.Q_below (Z125 O4 B9) hb); replace O5 := sqa (Kd.R_below (Z124 O5 B9) hb); replace B0 := sqH N2 B0 hb; replace B2 := sqH N4 B2 hb; replace B9 := sqa (blk_below (g := g2) (o := .cells #[.int .i64 t906, .int .i64 t907, .slice Ao23 t908.length co23] 34 (0, 0)) (Z126 B9) hb); replace HB := sqS (sqB3 HB E0 E1 E2) hb; obtain ⟨Ao1, co1, eo4⟩ := Kd.R_slice O3.1; subst eo4; obtain ⟨Ao2, co2, eo5⟩ := Kd.R_slice O5.1; subst eo5) | (go_at_call 53; (with_reducible refine (F41.c k _ _ t5 _ _ t6 t8 _ ?side1 ?side2 ?side3 ?side4 A6.1).mono ?_); (case side1 => exact Z7 O3); (case side2 => exact Z8 O3); (case side3 => exact Z7 O5); (case side4 => exact Z8 O5); rintro e w' ⟨rfl, ⟨nd, rfl⟩⟩))
   go_meet
   case rel => exact ⟨_, (!t8), Z1, H', ⟨Z11⟩, ⟨Z127 O1⟩, ⟨Z127 O3⟩, ⟨Z128 O0⟩, ⟨Z129 O2⟩, ⟨Z128 O4⟩, ⟨sqK B0⟩, ⟨sqK B2⟩, ⟨sqK B9⟩, ⟨sqB3 HB E0 E1 E2⟩⟩
  rw [if_neg sqF] at H
  have H' := sqa H
  clear H
  have := sqn4 N1 N0 N4 N5
  have := sqY3 B2
  have := sqn2 N3 N2
  have := sqY3 B9
  go_wp2_with (first | ((with_reducible refine sqc 22 rfl ?_); refine sqv (some 43) func22 (args := #[.agg #[.int .i64 t3, .int .i64 t4, .slice Ao16 t899.length co16], .agg #[.int .i64 t906, .int .i64 t907, .slice Ao23 t908.length co23]]) (F22.c k t3 t4 _ _ t899 t906 t907 _ _ t908 false _ (Z176 O2 B9) (Z8 O2) (Z177 O4 B9) (Z70 O4) A2.1) fun w9 hb => ?_; replace O0 := sqa (Kd.Q_below (Z125 O0 B9) hb); replace O1 := sqa (Kd.R_below (Z124 O1 B9) hb); replace O2 := sqa (Kd.R_below (Z124 O2 B9) hb); replace O3 := sqa (Kd.R_below (Z124 O3 B9) hb); replace O4 := sqa (Kd.Q_below (Z125 O4 B9) hb); replace O5 := sqa (Kd.R_below (Z124 O5 B9) hb); replace B0 := sqH N2 B0 hb; replace B2 := sqH N4 B2 hb; replace B9 := sqa (blk_below (g := g2) (o := .cells #[.int .i64 t906, .int .i64 t907, .slice Ao23 t908.length co23] 34 (0, 0)) (Z126 B9) hb); replace HB := sqS (sqB3 HB E0 E1 E2) hb))
  go_meet
  case rel => exact ⟨_, (true), Z1, H', ⟨Z11⟩, ⟨Z127 O1⟩, ⟨Z127 O3⟩, ⟨Z128 O0⟩, ⟨Z129 O2⟩, ⟨Z128 O4⟩, ⟨sqK B0⟩, ⟨sqK B2⟩, ⟨sqK B9⟩, ⟨sqB3 HB E0 E1 E2⟩⟩
 case rest =>
  clear HC6
  obtain ⟨kq, x0, rfl, HA, HJ5, O6, O7, O8, O9, O10, B0, B2, B9, HB⟩ := hcut
  cases kq with
  | zero => exact absurd HA.out (by simp [laws_FnDeskSay.j0])
  | succ kj5 =>
   have H := HA.out
   clear HA
   simp only [laws_FnDeskSay.j0] at H
   obtain rfl | rfl := sqt x0
   ·rw [if_pos rfl] at H
    obtain rfl := sqo H
    go_wp2
    go_ret
    exact ⟨Z5, sqB3 HB E0 E1 E2⟩
   rw [if_neg sqF] at H
   have HC1 := sqa H
   clear H
   go_upto_region 8 with (fail)
   go_cut [58] (fun v7 wc => ∃ (kq : Nat) (x1 : Bool), v7 = .bool x1 ∧ Aside0 (laws_FnDeskSay.j1 kq t2 t5 x1 t0 t1 t890 t3 t4 t899 = some r) ∧ Aside0 (kq ≤ kj5) ∧ Aside0 (Kd.R Kd.string 9 wc w.heap.size (fun k_ => some k_ ≠ (v3 : Value).ownBlock) (.slice Ao0 t2.length co0) t2) ∧ Aside0 (Kd.R Kd.string 9 wc w.heap.size (fun k_ => some k_ ≠ ((.slice Ao0 t2.length co0) : Value).ownBlock) v3 t5) ∧ Aside0 (Kd.Q k31 31 wc w.heap.size (fun k_ => some k_ ≠ ((.slice Ao16 t899.length co16) : Value).ownBlock ∧ some k_ ≠ ((.slice Ao23 t908.length co23) : Value).ownBlock) (.slice Ao10 t890.length co10) t890) ∧ Aside0 (Kd.R k31 31 wc w.heap.size (fun k_ => some k_ ≠ ((.slice Ao10 t890.length co10) : Value).ownBlock ∧ some k_ ≠ ((.slice Ao23 t908.length co23) : Value).ownBlock) (.slice Ao16 t899.length co16) t899) ∧ Aside0 (Kd.Q k31 31 wc w.heap.size (fun k_ => some k_ ≠ ((.slice Ao10 t890.length co10) : Value).ownBlock ∧ some k_ ≠ ((.slice Ao16 t899.length co16) : Value).ownBlock) (.slice Ao23 t908.length co23) t908) ∧ Aside0 (wc.heap[g0]? = some (.cells #[.int .i64 t0, .int .i64 t1, (.slice Ao10 t890.length co10)] 34 (0, 0))) ∧ Aside0 (wc.heap[g1]? = some (.cells #[.int .i64 t3, .int .i64 t4, (.slice Ao16 t899.length co16)] 34 (0, 0))) ∧ Aside0 (wc.heap[g2]? = some (.cells #[.int .i64 t906, .int .i64 t907, (.slice Ao23 t908.length co23)] 34 (0, 0))) ∧ Aside0 (Below w.heap.size w wc))
   case first =>
    have H := HC1.1
    clear HC1
    obtain ⟨t9, A7, H⟩ := sqD H
    obtain rfl | rfl := sqt t9
    ·rw [if_pos rfl] at H
     have H' := sqa H
     clear H
     have := sqn4 N0 N1 N2 N3
     have := sqY3 B0
     go_wp2_with (first | ((with_reducible refine sqc 30 rfl ?_); refine sqv (some 52) func30 (args := #[.agg #[.int .i64 t0, .int .i64 t1, .slice Ao10 t890.length co10]]) (F15.c kj5 t0 t1 _ _ t890 true _ (Z69 O8) (Z70 O8) A7.1) fun w48 hb => ?_; replace O6 := sqU O6 hb; replace O7 := sqU O7 hb; replace O8 := sqa (Kd.Q_below (Z40 O8) hb); replace O9 := sqU O9 hb; replace O10 := sqa (Kd.Q_below (Z40 O10) hb); obtain ⟨B0, B2, B9⟩ := sqT3 hb B0 B2 B9; replace HB := sqS (sqB3 HB E0 E1 E2) hb))
     go_meet
     case rel => exact ⟨_, (decide ((t2.length : Int) > 40)), Z1, H', ⟨Z41⟩, ⟨sqR O6⟩, ⟨sqR O7⟩, ⟨Z40 O8⟩, ⟨sqR O9⟩, ⟨Z40 O10⟩, ⟨sqK B0⟩, ⟨sqK B2⟩, ⟨sqK B9⟩, ⟨sqB3 HB E0 E1 E2⟩⟩
    rw [if_neg sqF] at H
    have H' := sqa H
    clear H
    have := sqn4 N0 N1 N2 N3
    have := sqY3 B0
    go_wp2_with (first | ((with_reducible refine sqc 30 rfl ?_); refine sqv (some 52) func30 (args := #[.agg #[.int .i64 t0, .int .i64 t1, .slice Ao10 t890.length co10]]) (F15.c kj5 t0 t1 _ _ t890 false _ (Z69 O8) (Z70 O8) A7.1) fun w52 hb => ?_; replace O6 := sqU O6 hb; replace O7 := sqU O7 hb; replace O8 := sqa (Kd.Q_below (Z40 O8) hb); replace O9 := sqU O9 hb; replace O10 := sqa (Kd.Q_below (Z40 O10) hb); obtain ⟨B0, B2, B9⟩ := sqT3 hb B0 B2 B9; replace HB := sqS (sqB3 HB E0 E1 E2) hb))
    go_meet
    case rel => exact ⟨_, (true), Z1, H', ⟨Z41⟩, ⟨sqR O6⟩, ⟨sqR O7⟩, ⟨Z40 O8⟩, ⟨sqR O9⟩, ⟨Z40 O10⟩, ⟨sqK B0⟩, ⟨sqK B2⟩, ⟨sqK B9⟩, ⟨sqB3 HB E0 E1 E2⟩⟩
   case rest =>
    clear HC1
    obtain ⟨kq, x1, rfl, HA, HJ0, O6, O7, O8, O9, O10, B0, B2, B9, HB⟩ := hcut
    cases kq with
    | zero => exact absurd HA.out (by simp [laws_FnDeskSay.j1])
    | succ kj0 =>
     have H := HA.out
     clear HA
     simp only [laws_FnDeskSay.j1] at H
     obtain rfl | rfl := sqt x1
     ·rw [if_pos rfl] at H
      obtain ⟨c6, H⟩ | ⟨c6, H⟩ := sqi2 H
      ·have c7 := sqe1 c6
       have c8 := sqn0 c6
       clear c6
       obtain ⟨t10, A8, H⟩ := sqD H
       by_cases c9 : t10 = true
       ·subst c9
        rw [if_pos rfl] at H
        obtain ⟨t11, A9, H⟩ := sqD H
        obtain rfl := sqo H
        obtain ⟨Ao3, co3, eo6⟩ := Kd.R_slice O7.1
        subst eo6
        have := sqn4 N1 N0 N4 N5
        have := sqY3 B2
        go_wp2_with (first | (go_at_call 31; (with_reducible refine (F91.c kj0 t3 t4 _ _ t899 true _ ?side1 ?side2 A8.1).mono ?_); (case side1 => exact Z7 O9); (case side2 => exact Z8 O9); rintro e w62 ⟨rfl, hb⟩; replace O6 := sqU O6 hb; replace O7 := sqU O7 hb; replace O8 := sqa (Kd.Q_below (Z40 O8) hb); replace O9 := sqU O9 hb; replace O10 := sqa (Kd.Q_below (Z40 O10) hb); obtain ⟨B0, B2, B9⟩ := sqT3 hb B0 B2 B9; replace HB := sqS (sqB3 HB E0 E1 E2) hb) | (go_at_call 24; (with_reducible refine (F88.c kj0  t11 _ A9.1).mono ?_); rintro e w63 ⟨rfl, hb⟩; replace O6 := sqU O6 hb; replace O7 := sqU O7 hb; replace O8 := sqa (Kd.Q_below (Z40 O8) hb); replace O9 := sqU O9 hb; replace O10 := sqa (Kd.Q_below (Z40 O10) hb); obtain ⟨B0, B2, B9⟩ := sqT3 hb B0 B2 B9; replace HB := sqS (sqB3 HB E0 E1 E2) hb))
        go_ret
        exact ⟨Z5, sqB3 HB E0 E1 E2⟩
       rw [if_neg c9] at H
       exact absurd (sqo H) Z130
      exact absurd (sqo H) Z130
     rw [if_neg sqF] at H
     obtain ⟨ji0, hji70⟩ : ∃ j_ : Int, (wrap64 ((t2.length : Int) / 2)) = j_ := ⟨_, rfl⟩
     replace H : (if 0 ≤ (ji0) then (if (ji0) ≤ (t2.length : Int) then ((F8.f kj0 t0 t1 t890 (t2.take ((ji0) : Int).toNat)).bind fun bt0 => ((F8.f kj0 bt0.1 bt0.2.1 bt0.2.2.1 (t2.drop ((ji0) : Int).toNat)).bind fun bt1 => (laws_FnDeskSay.l0 kj0 t2 t5 bt0.2.2.2 bt1.2.2.2 0 t3 t4 t899 bt1.1 bt1.2.1 bt1.2.2.1))) else (none)) else (none)) = some r := by first | (rw [hji70] at H; exact H) | (simp only [hji70] at H ⊢; exact H)
     have hji0 : (IntKind.i64.wrap ((t2.length : Int) / 2)) = ji0 := (i64_w _).trans hji70
     obtain ⟨c11, c12, H⟩ := sqJ3 H
     obtain ⟨c14, c15, H⟩ := sqJ3 H
     obtain ⟨y0, hy0⟩ : ∃ y_ : List ByteArray, y_ = (t2.take ((ji0) : Int).toNat) := ⟨_, rfl⟩
     replace H : ((F8.f kj0 t0 t1 t890 y0).bind fun bt0 => ((F8.f kj0 bt0.1 bt0.2.1 bt0.2.2.1 (t2.drop ((ji0) : Int).toNat)).bind fun bt1 => (laws_FnDeskSay.l0 kj0 t2 t5 bt0.2.2.2 bt1.2.2.2 0 t3 t4 t899 bt1.1 bt1.2.1 bt1.2.2.1))) = some r := sqW hy0 H
     have Ny0 := sqa hy0
     clear hy0
     obtain ⟨⟨t12, t13, t14, t15⟩, A73, H⟩ := sqD H
     try dsimp only at H
     have c16 := eq_true (of_decide_eq_true Z16 : 0 ≤ (ji0))
     have c17 := eq_true (of_decide_eq_true Z16 : (ji0) ≤ (t2.length : Int))
     obtain ⟨y1, hy1⟩ : ∃ y_ : List ByteArray, y_ = (t2.drop ((ji0) : Int).toNat) := ⟨_, rfl⟩
     replace H : ((F8.f kj0 t12 t13 t14 y1).bind fun bt1 => (laws_FnDeskSay.l0 kj0 t2 t5 t15 bt1.2.2.2 0 t3 t4 t899 bt1.1 bt1.2.1 bt1.2.2.1)) = some r := sqW hy1 H
     have Ny1 := sqa hy1
     clear hy1
     obtain ⟨⟨t16, t17, t18, t19⟩, A76, H⟩ := sqD H
     try dsimp only at H
     have H' := sqa H
     clear H
     try go_wp2
     replace O6 := sqa (Kd.R_drew O6.1)
     replace O7 := sqa (Kd.R_drew O7.1)
     replace O8 := sqa (Kd.Q_drew O8.1)
     replace O9 := sqa (Kd.R_drew O9.1)
     replace O10 := sqa (Kd.Q_drew O10.1)
     replace B0 := sqa (blk_drew B0.1)
     replace B2 := sqa (blk_drew B2.1)
     replace B9 := sqa (blk_drew B9.1)
     replace HB := sqa (below_drew1 HB.1)
     have q0 : ((ji0) : Int) ≤ ((t2.length : Int) : Int) := of_decide_eq_true Z16
     obtain ⟨i078, hi0, _, hsz0, _⟩ := info_parts info9
     have hroom0 : t2.length ≤ co0 := (Kd.R_reads' O6.1).2.1
     have hC0 : Kd.C Kd.string _ Ao0 t2.length t2 := (Kd.R_reads' O6.1).2.2
     have hcut0 := cut_to (P := prog) 73 9 .i64 underlying73 hi0 Ao0 t2.length co0 (ji0) (of_decide_eq_true Z16) q0 hroom0
     have hr1 := Kd.C_take (m := ((ji0) : Int).toNat) hC0 (by omega)
     have hy2 : y0.length = ((ji0) : Int).toNat := (by rw [Ny0.out, List.length_take]; omega)
     rw [← Ny0.out] at hr1
     rw [← hy2] at hcut0
     have HR1 := sqa hr1
     have HC2 := sqa (show y0.length ≤ co0 from by omega)
     clear hr1 hC0 hroom0 hi0 hsz0
     have KY0 := sqa hy2
     clear hy2
     have KL0 := sqa (show ((ji0) : Int).toNat ≤ t2.length from by omega)
     replace q0 := eq_true q0
     refine start_ (n := 11) (S := fun w' => w'.cell? ⟨g0, 0, none⟩ = some (.int .i64 t0) ∧ w'.cell? ⟨g0, 1, none⟩ = some (.int .i64 t1) ∧ w'.cell? ⟨g0, 2, none⟩ = some (.slice Ao10 t890.length co10)) (ds := []) #[false, false, false, false, false, false, false, false, false, false, false] (by kernel_rfl) rfl rfl (sqk1 B0) (fun hHeld => ?_); refine with_tabW laws_FnDeskSay.tab11 laws_FnDeskSay.bits11 (fun HT_ HW_ => ?_)
     generalize wc.drew = w77 at O6 O7 O8 O9 O10 B0 B2 B9 HB HR1 hHeld ⊢
     refine sqP 1 (some 74) (h := ?_)
     refine sqP 2 (some 75) (h := ?_)
     refine sqP 3 (some 76) (h := ?_)
     refine sqQ 0 (some 73) hHeld (h := ?_)
     refine join_ (σ := Value × Value × Nat) 2 #[true, true, true, true, true, true, true, true, true, false, false] (fun s_ => [(77, .tuple #[.agg #[.int .i64 t12, .int .i64 t13, s_.1], s_.2.1]), (10, .pointer (some ⟨s_.2.2, 0, none⟩)), (72, .tuple #[.agg #[.int .i64 t12, .int .i64 t13, s_.1], s_.2.1]), (78, .agg #[.int .i64 t12, .int .i64 t13, s_.1]), (79, s_.2.1)]) (fun s_ w' => (w'.cell? ⟨g0, 0, none⟩ = some (.int .i64 t0) ∧ w'.cell? ⟨g0, 1, none⟩ = some (.int .i64 t1) ∧ w'.cell? ⟨g0, 2, none⟩ = some (.slice Ao10 t890.length co10)) ∧ (Kd.R k31 31 w' w.heap.size (fun k_ => some k_ ≠ (.slice Ao10 t890.length co10 : Value).ownBlock ∧ some k_ ≠ (.slice Ao16 t899.length co16 : Value).ownBlock ∧ some k_ ≠ (.slice Ao23 t908.length co23 : Value).ownBlock) s_.1 t14) ∧ (Kd.R Kd.string 9 w' w.heap.size (fun k_ => some k_ ≠ (.slice Ao0 t2.length co0 : Value).ownBlock ∧ some k_ ≠ (v3 : Value).ownBlock) s_.2.1 t15) ∧ (Kd.R Kd.string 9 w' w.heap.size (fun k_ => some k_ ≠ (s_.2.1 : Value).ownBlock ∧ some k_ ≠ (v3 : Value).ownBlock) (.slice Ao0 t2.length co0) t2) ∧ (Kd.R Kd.string 9 w' w.heap.size (fun k_ => some k_ ≠ (s_.2.1 : Value).ownBlock ∧ some k_ ≠ (.slice Ao0 t2.length co0 : Value).ownBlock) v3 t5) ∧ (Kd.Q k31 31 w' w.heap.size (fun k_ => some k_ ≠ (s_.1 : Value).ownBlock ∧ some k_ ≠ (.slice Ao16 t899.length co16 : Value).ownBlock ∧ some k_ ≠ (.slice Ao23 t908.length co23 : Value).ownBlock) (.slice Ao10 t890.length co10) t890) ∧ (Kd.R k31 31 w' w.heap.size (fun k_ => some k_ ≠ (s_.1 : Value).ownBlock ∧ some k_ ≠ (.slice Ao10 t890.length co10 : Value).ownBlock ∧ some k_ ≠ (.slice Ao23 t908.length co23 : Value).ownBlock) (.slice Ao16 t899.length co16) t899) ∧ (Kd.Q k31 31 w' w.heap.size (fun k_ => some k_ ≠ (s_.1 : Value).ownBlock ∧ some k_ ≠ (.slice Ao10 t890.length co10 : Value).ownBlock ∧ some k_ ≠ (.slice Ao16 t899.length co16 : Value).ownBlock) (.slice Ao23 t908.length co23) t908) ∧ (w'.heap[g0]? = some (.cells #[.int .i64 t0, .int .i64 t1, .slice Ao10 t890.length co10] 34 (0, 0))) ∧ (w'.heap[g1]? = some (.cells #[.int .i64 t3, .int .i64 t4, .slice Ao16 t899.length co16] 34 (0, 0))) ∧ (w'.heap[g2]? = some (.cells #[.int .i64 t906, .int .i64 t907, .slice Ao23 t908.length co23] 34 (0, 0))) ∧ (w'.heap[s_.2.2]? = some (.cells #[.int .i64 0, .int .i64 0, .slice none 0 0] 34 (0, 0))) ∧ (w.heap.size ≤ s_.2.2) ∧ (w.heap.size ≤ s_.2.2) ∧ (g0 ≠ s_.2.2) ∧ (s_.2.2 ≠ g0) ∧ (g1 ≠ s_.2.2) ∧ (s_.2.2 ≠ g1) ∧ (g2 ≠ s_.2.2) ∧ (s_.2.2 ≠ g2) ∧ (Below w.heap.size w w')) ?_ ?_
     rotate_left
     ·intro hCont
      refine two_ (i := 4) (j := 8) (Ni := some 77) (Nj := some 10) #[true, true, true, true, true, false, false, false, false, false, false] #[true, true, true, true, false, false, false, false, true, false, false] rfl rfl rfl rfl (two_of HT_.out (by kernel_rfl)) (by decide) (by decide) (fun K hK => ?_) (fun K hK => ?_)
      ·skip
       refine sqg func48 #[.agg #[.int .i64 t0, .int .i64 t1, .slice Ao10 t890.length co10], .slice Ao0 y0.length co0] ?_
       with_reducible refine (F8.c kj0 t0 t1 _ _ t890 _ _ y0 t12 t13 t14 t15 _ ?sideG ?side1 ?side2 ?side3 ?side4 A73.1).mono ?_
       (case sideG => exact Glob.below hG (sqB3 HB E0 E1 E2))
       (case side1 => exact Z69 O8)
       (case side2 => exact Z70 O8)
       (case side3 => exact Z175 HR1)
       (case side4 => exact HC2.1)
       rintro e w79 ⟨v8, v9, rfl, ho0, ho1, hb⟩
       refine ⟨_, rfl, ?_⟩
       have O11 := sqa (Kd.R_lower (Kd.R_new' (Kd.R_new' (Kd.R_new' ho0 (Kd.Q_lt (Z40 O8))) (Kd.R_lt (sqR O9))) (Kd.Q_lt (Z40 O10))) (below_size (sqB3 HB E0 E1 E2)))
       replace O8 := sqa (Kd.Q_elder' (Z40 O8) (Kd.R_base ho0) hb)
       replace O9 := sqa (Kd.R_elder' (sqR O9) (Kd.R_base ho0) hb)
       replace O10 := sqa (Kd.Q_elder' (Z40 O10) (Kd.R_base ho0) hb)
       have O12 := sqa (Kd.R_lower (Kd.R_new' (Kd.R_new' ho1 (Kd.R_lt (sqR O6))) (Kd.R_lt (sqR O7))) (below_size (sqB3 HB E0 E1 E2)))
       replace O6 := sqa (Kd.R_elder' (sqR O6) (Kd.R_base ho1) hb)
       replace O7 := sqa (Kd.R_elder' (sqR O7) (Kd.R_base ho1) hb)
       replace B0 := sqT B0 hb
       replace B2 := sqT B2 hb
       replace B9 := sqT B9 hb
       replace HR1 := sqa (Kd.C_below (Z110 HR1) hb)
       replace HB := sqS (sqB3 HB E0 E1 E2) hb
       (try clear ho1)
       refine hK.out _ _ (sqk1 B0) (fun hHeld => ?_)
       clear hK K
       refine sqN (some 77) ?_
       refine sqP 5 (some 72) (h := ?_)
       refine sqP 6 (some 78) (h := ?_)
       refine sqP 7 (some 79) (h := ?_)
       refine sq1 8 (some 10) (h := fun K hK => ?_)
       refine box_step ?hg (N := 10) ?hd (cs := #[.int .i64 0, .int .i64 0, .slice none 0 0]) (t := 34) ?hr ?_; (case hd => rfl); (case hg => rfl); (case hr => exact Z17)
       intro g3 hg w80 hbox hb
       replace O6 := sqU O6 hb
       replace O7 := sqU O7 hb
       replace O8 := sqa (Kd.Q_below (Z40 O8) hb)
       replace O9 := sqU O9 hb
       replace O10 := sqa (Kd.Q_below (Z40 O10) hb)
       replace O11 := sqU O11 hb
       replace O12 := sqU O12 hb
       replace HR1 := sqa (Kd.C_below (Z110 HR1) hb)
       have B10 := sqa (hbox)
       have GW0 := sqa ((sqG hg (sqB3 HB E0 E1 E2)))
       have E3 := sqa ((sqG hg (sqB3 HB E0 E1 E2)))
       replace HB := sqS (sqB3 HB E0 E1 E2) hb
       obtain ⟨N6, N7⟩ := sqM hg B0
       replace B0 := sqT B0 hb
       obtain ⟨N8, N9⟩ := sqM hg B2
       replace B2 := sqT B2 hb
       obtain ⟨N10, N11⟩ := sqM hg B9
       replace B9 := sqT B9 hb
       clear hb hbox hg
       refine hK.out _ _ (sqk1 B0) (fun hHeld => ?_)
       clear hK K
       refine sqN (some 10) ?_
       exact norm_ Z20 (hCont (v8, v9, g3) _ ⟨hHeld, (Z131 O11), (Z129 O12), (Z132 O6), (Z132 O7), (Z133 O8), (Z134 O9), (Z133 O10), (sqK B0), (sqK B2), (sqK B9), (sqK B10), GW0.1, E3.1, N6.1, N7.1, N8.1, N9.1, N10.1, N11.1, (sqB4 HB E0 E1 E2 E3)⟩)
      ·skip
       refine box_step ?hg (N := 10) ?hd (cs := #[.int .i64 0, .int .i64 0, .slice none 0 0]) (t := 34) ?hr ?_; (case hd => rfl); (case hg => rfl); (case hr => exact Z17)
       intro g3 hg w79 hbox hb
       replace O6 := sqU O6 hb
       replace O7 := sqU O7 hb
       replace O8 := sqa (Kd.Q_below (Z40 O8) hb)
       replace O9 := sqU O9 hb
       replace O10 := sqa (Kd.Q_below (Z40 O10) hb)
       replace HR1 := sqa (Kd.C_below (Z110 HR1) hb)
       have B10 := sqa (hbox)
       have GW0 := sqa ((sqG hg (sqB3 HB E0 E1 E2)))
       have E3 := sqa ((sqG hg (sqB3 HB E0 E1 E2)))
       replace HB := sqS (sqB3 HB E0 E1 E2) hb
       obtain ⟨N6, N7⟩ := sqM hg B0
       replace B0 := sqT B0 hb
       obtain ⟨N8, N9⟩ := sqM hg B2
       replace B2 := sqT B2 hb
       obtain ⟨N10, N11⟩ := sqM hg B9
       replace B9 := sqT B9 hb
       clear hb hbox hg
       refine hK.out _ _ (sqk1 B0) (fun hHeld => ?_)
       clear hK K
       refine sqN (some 10) ?_
       refine sq1 4 (some 77) (h := fun K hK => ?_)
       refine sqg func48 #[.agg #[.int .i64 t0, .int .i64 t1, .slice Ao10 t890.length co10], .slice Ao0 y0.length co0] ?_
       with_reducible refine (F8.c kj0 t0 t1 _ _ t890 _ _ y0 t12 t13 t14 t15 _ ?sideG ?side1 ?side2 ?side3 ?side4 A73.1).mono ?_
       (case sideG => exact Glob.below hG (sqB4 HB E0 E1 E2 E3))
       (case side1 => exact Z69 O8)
       (case side2 => exact Z70 O8)
       (case side3 => exact Z175 HR1)
       (case side4 => exact HC2.1)
       rintro e w80 ⟨v8, v9, rfl, ho0, ho1, hb⟩
       refine ⟨_, rfl, ?_⟩
       have O11 := sqa (Kd.R_lower (Kd.R_new' (Kd.R_new' (Kd.R_new' ho0 (Kd.Q_lt (Z40 O8))) (Kd.R_lt (sqR O9))) (Kd.Q_lt (Z40 O10))) (below_size (sqB4 HB E0 E1 E2 E3)))
       replace O8 := sqa (Kd.Q_elder' (Z40 O8) (Kd.R_base ho0) hb)
       replace O9 := sqa (Kd.R_elder' (sqR O9) (Kd.R_base ho0) hb)
       replace O10 := sqa (Kd.Q_elder' (Z40 O10) (Kd.R_base ho0) hb)
       have O12 := sqa (Kd.R_lower (Kd.R_new' (Kd.R_new' ho1 (Kd.R_lt (sqR O6))) (Kd.R_lt (sqR O7))) (below_size (sqB4 HB E0 E1 E2 E3)))
       replace O6 := sqa (Kd.R_elder' (sqR O6) (Kd.R_base ho1) hb)
       replace O7 := sqa (Kd.R_elder' (sqR O7) (Kd.R_base ho1) hb)
       replace B0 := sqT B0 hb
       replace B2 := sqT B2 hb
       replace B9 := sqT B9 hb
       replace HR1 := sqa (Kd.C_below (Z110 HR1) hb)
       replace B10 := sqT B10 hb
       replace HB := sqS (sqB4 HB E0 E1 E2 E3) hb
       (try clear ho1)
       refine hK.out _ _ (sqk1 B0) (fun hHeld => ?_)
       clear hK K
       refine sqN (some 77) ?_
       refine sqP 5 (some 72) (h := ?_)
       refine sqP 6 (some 78) (h := ?_)
       refine sqP 7 (some 79) (h := ?_)
       exact norm_ Z20 (hCont (v8, v9, g3) _ ⟨hHeld, (Z131 O11), (Z129 O12), (Z132 O6), (Z132 O7), (Z133 O8), (Z134 O9), (Z133 O10), (sqK B0), (sqK B2), (sqK B9), (sqK B10), GW0.1, E3.1, N6.1, N7.1, N8.1, N9.1, N10.1, N11.1, (sqB4 HB E0 E1 E2 E3)⟩)
     rintro ⟨v8, v9, g3⟩ w81 ⟨hS_, h0_, h1_, h2_, h3_, h4_, h5_, h6_, h7_, h8_, h9_, h0, h1, h2, h3, h4, h5, h6, h7, h8, h9⟩
     replace O11 : Aside0 (Kd.R k31 31 w81 w.heap.size (fun k_ => some k_ ≠ (.slice Ao10 t890.length co10 : Value).ownBlock ∧ some k_ ≠ (.slice Ao16 t899.length co16 : Value).ownBlock ∧ some k_ ≠ (.slice Ao23 t908.length co23 : Value).ownBlock) v8 t14) := ⟨h0_⟩
     replace O12 : Aside0 (Kd.R Kd.string 9 w81 w.heap.size (fun k_ => some k_ ≠ (.slice Ao0 t2.length co0 : Value).ownBlock ∧ some k_ ≠ (v3 : Value).ownBlock) v9 t15) := ⟨h1_⟩
     replace O6 : Aside0 (Kd.R Kd.string 9 w81 w.heap.size (fun k_ => some k_ ≠ (v9 : Value).ownBlock ∧ some k_ ≠ (v3 : Value).ownBlock) (.slice Ao0 t2.length co0) t2) := ⟨h2_⟩
     replace O7 : Aside0 (Kd.R Kd.string 9 w81 w.heap.size (fun k_ => some k_ ≠ (v9 : Value).ownBlock ∧ some k_ ≠ (.slice Ao0 t2.length co0 : Value).ownBlock) v3 t5) := ⟨h3_⟩
     replace O8 : Aside0 (Kd.Q k31 31 w81 w.heap.size (fun k_ => some k_ ≠ (v8 : Value).ownBlock ∧ some k_ ≠ (.slice Ao16 t899.length co16 : Value).ownBlock ∧ some k_ ≠ (.slice Ao23 t908.length co23 : Value).ownBlock) (.slice Ao10 t890.length co10) t890) := ⟨h4_⟩
     replace O9 : Aside0 (Kd.R k31 31 w81 w.heap.size (fun k_ => some k_ ≠ (v8 : Value).ownBlock ∧ some k_ ≠ (.slice Ao10 t890.length co10 : Value).ownBlock ∧ some k_ ≠ (.slice Ao23 t908.length co23 : Value).ownBlock) (.slice Ao16 t899.length co16) t899) := ⟨h5_⟩
     replace O10 : Aside0 (Kd.Q k31 31 w81 w.heap.size (fun k_ => some k_ ≠ (v8 : Value).ownBlock ∧ some k_ ≠ (.slice Ao10 t890.length co10 : Value).ownBlock ∧ some k_ ≠ (.slice Ao16 t899.length co16 : Value).ownBlock) (.slice Ao23 t908.length co23) t908) := ⟨h6_⟩
     replace B0 : Aside0 (w81.heap[g0]? = some (.cells #[.int .i64 t0, .int .i64 t1, .slice Ao10 t890.length co10] 34 (0, 0))) := ⟨h7_⟩
     replace B2 : Aside0 (w81.heap[g1]? = some (.cells #[.int .i64 t3, .int .i64 t4, .slice Ao16 t899.length co16] 34 (0, 0))) := ⟨h8_⟩
     replace B9 : Aside0 (w81.heap[g2]? = some (.cells #[.int .i64 t906, .int .i64 t907, .slice Ao23 t908.length co23] 34 (0, 0))) := ⟨h9_⟩
     replace B10 : Aside0 (w81.heap[g3]? = some (.cells #[.int .i64 0, .int .i64 0, .slice none 0 0] 34 (0, 0))) := ⟨h0⟩
     replace GW0 : Aside0 (w.heap.size ≤ g3) := ⟨h1⟩
     replace E3 : Aside0 (w.heap.size ≤ g3) := ⟨h2⟩
     replace N6 : Aside0 (g0 ≠ g3) := ⟨h3⟩
     replace N7 : Aside0 (g3 ≠ g0) := ⟨h4⟩
     replace N8 : Aside0 (g1 ≠ g3) := ⟨h5⟩
     replace N9 : Aside0 (g3 ≠ g1) := ⟨h6⟩
     replace N10 : Aside0 (g2 ≠ g3) := ⟨h7⟩
     replace N11 : Aside0 (g3 ≠ g2) := ⟨h8⟩
     replace HB : Aside0 (Below w.heap.size w w81) := ⟨h9⟩
     clear h0_ h1_ h2_ h3_ h4_ h5_ h6_ h7_ h8_ h9_ h0 h1 h2 h3 h4 h5 h6 h7 h8 h9
     have hHeld : w81.cell? ⟨g0, 0, none⟩ = some (.int .i64 t0) ∧ w81.cell? ⟨g0, 1, none⟩ = some (.int .i64 t1) ∧ w81.cell? ⟨g0, 2, none⟩ = some (.slice Ao10 t890.length co10) := hS_
     obtain ⟨Ao4, co4, eo7⟩ := Kd.R_slice O11.1
     (first | subst eo7 | (injection eo7 with f1_ f2_ f3_; have f4_ := f1_.symm; have f5_ := f3_.symm; clear f1_ f2_ f3_; subst f4_; subst f5_))
     refine norm_ (a' := ?_) ?_ ?_
     rotate_left
     ·simp only [putAll, Act.put, List.setIfInBounds_toArray, List.set_cons_zero, List.set_cons_succ]
      rfl
     refine sq1 9 none (h := fun K hK => ?_)
     have := sqY3 B10
     have := sqn6 N6 N8 N10 N7 N9 N11
     refine skip_ (w1 := ?_) (by rfl) rfl ?_ ?_
     rotate_left
     ·go_simp
      rfl
     refine hK.out _ _ (sql1 N6 hHeld) (fun hHeld => ?_)
     clear hK K
     refine sqP 10 (some 11) (h := ?_)
     refine done_ (done_of HT_.out (by kernel_rfl)) ?_
     try go_wp2
     obtain ⟨w86, hw_⟩ : ∃ w_, ((w81.setCell ⟨g3, 0, none⟩ (.int .i64 t12)).setCell ⟨g3, 1, none⟩ (.int .i64 t13)).setCell ⟨g3, 2, none⟩ (.slice Ao4 t14.length co4) = w_ := ⟨_, rfl⟩
     replace O6 : Aside0 (Kd.R Kd.string 9 w86 w.heap.size (fun k_ => some k_ ≠ (v3 : Value).ownBlock ∧ some k_ ≠ (v9 : Value).ownBlock) (.slice Ao0 t2.length co0) t2) := by rw [← hw_]; exact ⟨Z135 O6 B10⟩
     replace O7 : Aside0 (Kd.R Kd.string 9 w86 w.heap.size (fun k_ => some k_ ≠ (.slice Ao0 t2.length co0 : Value).ownBlock ∧ some k_ ≠ (v9 : Value).ownBlock) v3 t5) := by rw [← hw_]; exact ⟨Z135 O7 B10⟩
     replace O8 : Aside0 (Kd.Q k31 31 w86 w.heap.size (fun k_ => some k_ ≠ (.slice Ao16 t899.length co16 : Value).ownBlock ∧ some k_ ≠ (.slice Ao23 t908.length co23 : Value).ownBlock ∧ some k_ ≠ (.slice Ao4 t14.length co4 : Value).ownBlock) (.slice Ao10 t890.length co10) t890) := by rw [← hw_]; exact ⟨Z136 O8 B10⟩
     replace O9 : Aside0 (Kd.R k31 31 w86 w.heap.size (fun k_ => some k_ ≠ (.slice Ao10 t890.length co10 : Value).ownBlock ∧ some k_ ≠ (.slice Ao23 t908.length co23 : Value).ownBlock ∧ some k_ ≠ (.slice Ao4 t14.length co4 : Value).ownBlock) (.slice Ao16 t899.length co16) t899) := by rw [← hw_]; exact ⟨by (with_reducible repeat (first | apply Kd.R_alloc | apply Kd.R_drewN | apply Kd.R_drew)); exact Kd.R_mono (sqr3 O9.1 B10.1) (fun _ hk => ⟨hk.1.2.1, ⟨hk.1.2.2, hk.1.1⟩⟩)⟩
     replace O10 : Aside0 (Kd.Q k31 31 w86 w.heap.size (fun k_ => some k_ ≠ (.slice Ao10 t890.length co10 : Value).ownBlock ∧ some k_ ≠ (.slice Ao16 t899.length co16 : Value).ownBlock ∧ some k_ ≠ (.slice Ao4 t14.length co4 : Value).ownBlock) (.slice Ao23 t908.length co23) t908) := by rw [← hw_]; exact ⟨Z136 O10 B10⟩
     replace O11 : Aside0 (Kd.R k31 31 w86 w.heap.size (fun k_ => some k_ ≠ (.slice Ao10 t890.length co10 : Value).ownBlock ∧ some k_ ≠ (.slice Ao16 t899.length co16 : Value).ownBlock ∧ some k_ ≠ (.slice Ao23 t908.length co23 : Value).ownBlock) (.slice Ao4 t14.length co4) t14) := by rw [← hw_]; exact ⟨by (with_reducible repeat (first | apply Kd.R_alloc | apply Kd.R_drewN | apply Kd.R_drew)); exact Kd.R_mono (sqr3 O11.1 B10.1) (fun _ hk => ⟨hk.1.1, ⟨hk.1.2.1, hk.1.2.2⟩⟩)⟩
     replace O12 : Aside0 (Kd.R Kd.string 9 w86 w.heap.size (fun k_ => some k_ ≠ (.slice Ao0 t2.length co0 : Value).ownBlock ∧ some k_ ≠ (v3 : Value).ownBlock) v9 t15) := by rw [← hw_]; exact ⟨by (with_reducible repeat (first | apply Kd.R_alloc | apply Kd.R_drewN | apply Kd.R_drew)); exact Kd.R_mono (sqr3 O12.1 B10.1) (fun _ hk => ⟨hk.1.1, hk.1.2⟩)⟩
     replace B0 := sqJ hw_ N6 B0
     replace B2 := sqJ hw_ N8 B2
     replace B9 := sqJ hw_ N10 B9
     replace B10 : Aside0 (w86.heap[g3]? = some (.cells #[.int .i64 t12, .int .i64 t13, .slice Ao4 t14.length co4] 34 (0, 0))) := by rw [← hw_]; exact ⟨by refine sqPut (cs := #[.int .i64 t12, .int .i64 t13, .slice none 0 0]) ?_ 2; refine sqPut (cs := #[.int .i64 t12, .int .i64 0, .slice none 0 0]) ?_ 1; refine sqPut (cs := #[.int .i64 0, .int .i64 0, .slice none 0 0]) ?_ 0; exact sqK B10⟩
     replace HB : Aside0 (Below w.heap.size w w86) := by rw [← hw_]; exact ⟨sqB4 HB E0 E1 E2 E3⟩
     rw [hw_]; clear hw_
     replace O6 := sqa (Kd.R_drew O6.1)
     replace O7 := sqa (Kd.R_drew O7.1)
     replace O8 := sqa (Kd.Q_drew O8.1)
     replace O9 := sqa (Kd.R_drew O9.1)
     replace O10 := sqa (Kd.Q_drew O10.1)
     replace O11 := sqa (Kd.R_drew O11.1)
     replace O12 := sqa (Kd.R_drew O12.1)
     replace B0 := sqa (blk_drew B0.1)
     replace B2 := sqa (blk_drew B2.1)
     replace B9 := sqa (blk_drew B9.1)
     replace B10 := sqa (blk_drew B10.1)
     replace HB := sqa (below_drew1 HB.1)
     have q1 : ((ji0) : Int) ≤ ((t2.length : Int) : Int) := of_decide_eq_true Z16
     obtain ⟨i088, hi1, _, hsz1, _⟩ := info_parts info9
     have hroom1 : t2.length ≤ co0 := (Kd.R_reads' O6.1).2.1
     have hC1 : Kd.C Kd.string _ Ao0 t2.length t2 := (Kd.R_reads' O6.1).2.2
     have q2 : (0 : Int) ≤ ((ji0) : Int) := of_decide_eq_true Z16
     have hcut1 := cut_from (P := prog) 73 9 .i64 underlying73 hi1 1 hsz1 Ao0 t2.length co0 (ji0) q2 q1
     have hr2 := Kd.C_drop (m := ((ji0) : Int).toNat) (c := co0) hC1 (by omega) hroom1
     obtain ⟨A88, hA0⟩ : ∃ A1, A1 = (if co0 = ((ji0) : Int).toNat then Ao0 else (Ao0 : Option Addr).map (·.add (((ji0) : Int).toNat * 1))) := ⟨_, rfl⟩
     obtain ⟨c88, hc1⟩ : ∃ c1, c1 = co0 - ((ji0) : Int).toNat := ⟨_, rfl⟩
     have hy3 : y1.length = t2.length - ((ji0) : Int).toNat := (by rw [Ny1.out, List.length_drop] <;> omega)
     rw [show (t2).drop ((ji0) : Int).toNat = y1 from Ny1.out.symm] at hr2
     replace hr2 : Kd.C Kd.string _ A88 y1.length y1 := (by rw [hA0]; exact hr2)
     rw [← hy3, ← hA0, ← hc1] at hcut1
     have HR2 := sqa hr2
     have HC3 := sqa (show y1.length ≤ c88 from by rw [hy3, hc1]; exact Nat.sub_le_sub_right hroom1 _)
     clear hr2 hC1 hroom1 hi1 hsz1 hc1
     have KY1 := sqa hy3
     have KA0 := sqa hA0
     clear hy3 hA0
     have KL1 := sqa (show ((ji0) : Int).toNat ≤ t2.length from by omega)
     replace q1 := eq_true q1
     refine start_ (n := 11) (S := fun w' => w'.cell? ⟨g3, 0, none⟩ = some (.int .i64 t12) ∧ w'.cell? ⟨g3, 1, none⟩ = some (.int .i64 t13) ∧ w'.cell? ⟨g3, 2, none⟩ = some (.slice Ao4 t14.length co4)) (ds := []) #[false, false, false, false, false, false, false, false, false, false, false] (by kernel_rfl) rfl rfl (sqk1 B10) (fun hHeld => ?_); refine with_tabW laws_FnDeskSay.tab12 laws_FnDeskSay.bits12 (fun HT_ HW_ => ?_)
     generalize w86.drew = w87 at O6 O7 O8 O9 O10 O11 O12 B0 B2 B9 B10 HB HR2 hHeld ⊢
     refine sqP 1 (some 82) (h := ?_)
     refine sqP 2 (some 83) (h := ?_)
     refine sqP 3 (some 84) (h := ?_)
     refine sqQ 0 (some 81) hHeld (h := ?_)
     refine join_ (σ := Value × Value × Nat) 2 #[true, true, true, true, true, true, true, true, true, false, false] (fun s_ => [(85, .tuple #[.agg #[.int .i64 t16, .int .i64 t17, s_.1], s_.2.1]), (12, .pointer (some ⟨s_.2.2, 0, none⟩)), (80, .tuple #[.agg #[.int .i64 t16, .int .i64 t17, s_.1], s_.2.1]), (86, .agg #[.int .i64 t16, .int .i64 t17, s_.1]), (87, s_.2.1)]) (fun s_ w' => (w'.cell? ⟨g3, 0, none⟩ = some (.int .i64 t12) ∧ w'.cell? ⟨g3, 1, none⟩ = some (.int .i64 t13) ∧ w'.cell? ⟨g3, 2, none⟩ = some (.slice Ao4 t14.length co4)) ∧ (Kd.R k31 31 w' w.heap.size (fun k_ => some k_ ≠ (s_.1 : Value).ownBlock ∧ some k_ ≠ (.slice Ao10 t890.length co10 : Value).ownBlock ∧ some k_ ≠ (.slice Ao16 t899.length co16 : Value).ownBlock ∧ some k_ ≠ (.slice Ao23 t908.length co23 : Value).ownBlock) (.slice Ao4 t14.length co4) t14) ∧ (Kd.R Kd.string 9 w' w.heap.size (fun k_ => some k_ ≠ (s_.2.1 : Value).ownBlock ∧ some k_ ≠ (.slice Ao0 t2.length co0 : Value).ownBlock ∧ some k_ ≠ (v3 : Value).ownBlock) v9 t15) ∧ (Kd.R k31 31 w' w.heap.size (fun k_ => some k_ ≠ (.slice Ao4 t14.length co4 : Value).ownBlock ∧ some k_ ≠ (.slice Ao10 t890.length co10 : Value).ownBlock ∧ some k_ ≠ (.slice Ao16 t899.length co16 : Value).ownBlock ∧ some k_ ≠ (.slice Ao23 t908.length co23 : Value).ownBlock) s_.1 t18) ∧ (Kd.R Kd.string 9 w' w.heap.size (fun k_ => some k_ ≠ (v9 : Value).ownBlock ∧ some k_ ≠ (.slice Ao0 t2.length co0 : Value).ownBlock ∧ some k_ ≠ (v3 : Value).ownBlock) s_.2.1 t19) ∧ (Kd.R Kd.string 9 w' w.heap.size (fun k_ => some k_ ≠ (v9 : Value).ownBlock ∧ some k_ ≠ (s_.2.1 : Value).ownBlock ∧ some k_ ≠ (v3 : Value).ownBlock) (.slice Ao0 t2.length co0) t2) ∧ (Kd.R Kd.string 9 w' w.heap.size (fun k_ => some k_ ≠ (v9 : Value).ownBlock ∧ some k_ ≠ (s_.2.1 : Value).ownBlock ∧ some k_ ≠ (.slice Ao0 t2.length co0 : Value).ownBlock) v3 t5) ∧ (Kd.Q k31 31 w' w.heap.size (fun k_ => some k_ ≠ (.slice Ao4 t14.length co4 : Value).ownBlock ∧ some k_ ≠ (s_.1 : Value).ownBlock ∧ some k_ ≠ (.slice Ao16 t899.length co16 : Value).ownBlock ∧ some k_ ≠ (.slice Ao23 t908.length co23 : Value).ownBlock) (.slice Ao10 t890.length co10) t890) ∧ (Kd.R k31 31 w' w.heap.size (fun k_ => some k_ ≠ (.slice Ao4 t14.length co4 : Value).ownBlock ∧ some k_ ≠ (s_.1 : Value).ownBlock ∧ some k_ ≠ (.slice Ao10 t890.length co10 : Value).ownBlock ∧ some k_ ≠ (.slice Ao23 t908.length co23 : Value).ownBlock) (.slice Ao16 t899.length co16) t899) ∧ (Kd.Q k31 31 w' w.heap.size (fun k_ => some k_ ≠ (.slice Ao4 t14.length co4 : Value).ownBlock ∧ some k_ ≠ (s_.1 : Value).ownBlock ∧ some k_ ≠ (.slice Ao10 t890.length co10 : Value).ownBlock ∧ some k_ ≠ (.slice Ao16 t899.length co16 : Value).ownBlock) (.slice Ao23 t908.length co23) t908) ∧ (w'.heap[g0]? = some (.cells #[.int .i64 t0, .int .i64 t1, .slice Ao10 t890.length co10] 34 (0, 0))) ∧ (w'.heap[g1]? = some (.cells #[.int .i64 t3, .int .i64 t4, .slice Ao16 t899.length co16] 34 (0, 0))) ∧ (w'.heap[g2]? = some (.cells #[.int .i64 t906, .int .i64 t907, .slice Ao23 t908.length co23] 34 (0, 0))) ∧ (w'.heap[g3]? = some (.cells #[.int .i64 t12, .int .i64 t13, .slice Ao4 t14.length co4] 34 (0, 0))) ∧ (w'.heap[s_.2.2]? = some (.cells #[.int .i64 0, .int .i64 0, .slice none 0 0] 34 (0, 0))) ∧ (w.heap.size ≤ s_.2.2) ∧ (w.heap.size ≤ s_.2.2) ∧ (g0 ≠ s_.2.2) ∧ (s_.2.2 ≠ g0) ∧ (g1 ≠ s_.2.2) ∧ (s_.2.2 ≠ g1) ∧ (g2 ≠ s_.2.2) ∧ (s_.2.2 ≠ g2) ∧ (g3 ≠ s_.2.2) ∧ (s_.2.2 ≠ g3) ∧ (Below w.heap.size w w')) ?_ ?_
     rotate_left
     ·intro hCont
      refine two_ (i := 4) (j := 8) (Ni := some 85) (Nj := some 12) #[true, true, true, true, true, false, false, false, false, false, false] #[true, true, true, true, false, false, false, false, true, false, false] rfl rfl rfl rfl (two_of HT_.out (by kernel_rfl)) (by decide) (by decide) (fun K hK => ?_) (fun K hK => ?_)
      ·skip
       refine sqg func48 #[.agg #[.int .i64 t12, .int .i64 t13, .slice Ao4 t14.length co4], .slice A88 y1.length c88] ?_
       with_reducible refine (F8.c kj0 t12 t13 _ _ t14 _ _ y1 t16 t17 t18 t19 _ ?sideG ?side1 ?side2 ?side3 ?side4 A76.1).mono ?_
       (case sideG => exact Glob.below hG (sqB4 HB E0 E1 E2 E3))
       (case side1 => exact Z7 O11)
       (case side2 => exact Z8 O11)
       (case side3 => exact Z175 HR2)
       (case side4 => exact HC3.1)
       rintro e w89 ⟨v10, v11, rfl, ho0, ho1, hb⟩
       refine ⟨_, rfl, ?_⟩
       have O13 := sqa (Kd.R_lower (Kd.R_new' (Kd.R_new' (Kd.R_new' (Kd.R_new' ho0 (Kd.Q_lt (Z40 O8))) (Kd.R_lt (sqR O9))) (Kd.Q_lt (Z40 O10))) (Kd.R_lt (sqR O11))) (below_size (sqB4 HB E0 E1 E2 E3)))
       replace O8 := sqa (Kd.Q_elder' (Z40 O8) (Kd.R_base ho0) hb)
       replace O9 := sqa (Kd.R_elder' (sqR O9) (Kd.R_base ho0) hb)
       replace O10 := sqa (Kd.Q_elder' (Z40 O10) (Kd.R_base ho0) hb)
       replace O11 := sqa (Kd.R_elder' (sqR O11) (Kd.R_base ho0) hb)
       have O14 := sqa (Kd.R_lower (Kd.R_new' (Kd.R_new' (Kd.R_new' ho1 (Kd.R_lt (sqR O6))) (Kd.R_lt (sqR O7))) (Kd.R_lt (sqR O12))) (below_size (sqB4 HB E0 E1 E2 E3)))
       replace O6 := sqa (Kd.R_elder' (sqR O6) (Kd.R_base ho1) hb)
       replace O7 := sqa (Kd.R_elder' (sqR O7) (Kd.R_base ho1) hb)
       replace O12 := sqa (Kd.R_elder' (sqR O12) (Kd.R_base ho1) hb)
       replace B0 := sqT B0 hb
       replace B2 := sqT B2 hb
       replace B9 := sqT B9 hb
       replace B10 := sqT B10 hb
       replace HR2 := sqa (Kd.C_below (Z110 HR2) hb)
       replace HB := sqS (sqB4 HB E0 E1 E2 E3) hb
       (try clear ho1)
       refine hK.out _ _ (sqk1 B10) (fun hHeld => ?_)
       clear hK K
       refine sqN (some 85) ?_
       refine sqP 5 (some 80) (h := ?_)
       refine sqP 6 (some 86) (h := ?_)
       refine sqP 7 (some 87) (h := ?_)
       refine sq1 8 (some 12) (h := fun K hK => ?_)
       refine box_step ?hg (N := 12) ?hd (cs := #[.int .i64 0, .int .i64 0, .slice none 0 0]) (t := 34) ?hr ?_; (case hd => rfl); (case hg => rfl); (case hr => exact Z17)
       intro g4 hg w90 hbox hb
       replace O6 := sqU O6 hb
       replace O7 := sqU O7 hb
       replace O8 := sqa (Kd.Q_below (Z40 O8) hb)
       replace O9 := sqU O9 hb
       replace O10 := sqa (Kd.Q_below (Z40 O10) hb)
       replace O11 := sqU O11 hb
       replace O12 := sqU O12 hb
       replace O13 := sqU O13 hb
       replace O14 := sqU O14 hb
       replace HR2 := sqa (Kd.C_below (Z110 HR2) hb)
       have B13 := sqa (hbox)
       have GW1 := sqa ((sqG hg (sqB4 HB E0 E1 E2 E3)))
       have E4 := sqa ((sqG hg (sqB4 HB E0 E1 E2 E3)))
       replace HB := sqS (sqB4 HB E0 E1 E2 E3) hb
       obtain ⟨N12, N13⟩ := sqM hg B0
       replace B0 := sqT B0 hb
       obtain ⟨N14, N15⟩ := sqM hg B2
       replace B2 := sqT B2 hb
       obtain ⟨N16, N17⟩ := sqM hg B9
       replace B9 := sqT B9 hb
       obtain ⟨N18, N19⟩ := sqM hg B10
       replace B10 := sqT B10 hb
       clear hb hbox hg
       refine hK.out _ _ (sqk1 B10) (fun hHeld => ?_)
       clear hK K
       refine sqN (some 12) ?_
       exact norm_ Z20 (hCont (v10, v11, g4) _ ⟨hHeld, (Z137 O11), (Z134 O12), (Z138 O13), (Z139 O14), (Z140 O6), (Z140 O7), (Z141 O8), (Z142 O9), (Z141 O10), (sqK B0), (sqK B2), (sqK B9), (sqK B10), (sqK B13), GW1.1, E4.1, N12.1, N13.1, N14.1, N15.1, N16.1, N17.1, N18.1, N19.1, (Z44 E0 E1 E2 E3 E4)⟩)
      ·skip
       refine box_step ?hg (N := 12) ?hd (cs := #[.int .i64 0, .int .i64 0, .slice none 0 0]) (t := 34) ?hr ?_; (case hd => rfl); (case hg => rfl); (case hr => exact Z17)
       intro g4 hg w89 hbox hb
       replace O6 := sqU O6 hb
       replace O7 := sqU O7 hb
       replace O8 := sqa (Kd.Q_below (Z40 O8) hb)
       replace O9 := sqU O9 hb
       replace O10 := sqa (Kd.Q_below (Z40 O10) hb)
       replace O11 := sqU O11 hb
       replace O12 := sqU O12 hb
       replace HR2 := sqa (Kd.C_below (Z110 HR2) hb)
       have B13 := sqa (hbox)
       have GW1 := sqa ((sqG hg (sqB4 HB E0 E1 E2 E3)))
       have E4 := sqa ((sqG hg (sqB4 HB E0 E1 E2 E3)))
       replace HB := sqS (sqB4 HB E0 E1 E2 E3) hb
       obtain ⟨N12, N13⟩ := sqM hg B0
       replace B0 := sqT B0 hb
       obtain ⟨N14, N15⟩ := sqM hg B2
       replace B2 := sqT B2 hb
       obtain ⟨N16, N17⟩ := sqM hg B9
       replace B9 := sqT B9 hb
       obtain ⟨N18, N19⟩ := sqM hg B10
       replace B10 := sqT B10 hb
       clear hb hbox hg
       refine hK.out _ _ (sqk1 B10) (fun hHeld => ?_)
       clear hK K
       refine sqN (some 12) ?_
       refine sq1 4 (some 85) (h := fun K hK => ?_)
       refine sqg func48 #[.agg #[.int .i64 t12, .int .i64 t13, .slice Ao4 t14.length co4], .slice A88 y1.length c88] ?_
       with_reducible refine (F8.c kj0 t12 t13 _ _ t14 _ _ y1 t16 t17 t18 t19 _ ?sideG ?side1 ?side2 ?side3 ?side4 A76.1).mono ?_
       (case sideG => exact Glob.below hG (Z44 E0 E1 E2 E3 E4))
       (case side1 => exact Z7 O11)
       (case side2 => exact Z8 O11)
       (case side3 => exact Z175 HR2)
       (case side4 => exact HC3.1)
       rintro e w90 ⟨v10, v11, rfl, ho0, ho1, hb⟩
       refine ⟨_, rfl, ?_⟩
       have O13 := sqa (Kd.R_lower (Kd.R_new' (Kd.R_new' (Kd.R_new' (Kd.R_new' ho0 (Kd.Q_lt (Z40 O8))) (Kd.R_lt (sqR O9))) (Kd.Q_lt (Z40 O10))) (Kd.R_lt (sqR O11))) (below_size (Z44 E0 E1 E2 E3 E4)))
       replace O8 := sqa (Kd.Q_elder' (Z40 O8) (Kd.R_base ho0) hb)
       replace O9 := sqa (Kd.R_elder' (sqR O9) (Kd.R_base ho0) hb)
       replace O10 := sqa (Kd.Q_elder' (Z40 O10) (Kd.R_base ho0) hb)
       replace O11 := sqa (Kd.R_elder' (sqR O11) (Kd.R_base ho0) hb)
       have O14 := sqa (Kd.R_lower (Kd.R_new' (Kd.R_new' (Kd.R_new' ho1 (Kd.R_lt (sqR O6))) (Kd.R_lt (sqR O7))) (Kd.R_lt (sqR O12))) (below_size (Z44 E0 E1 E2 E3 E4)))
       replace O6 := sqa (Kd.R_elder' (sqR O6) (Kd.R_base ho1) hb)
       replace O7 := sqa (Kd.R_elder' (sqR O7) (Kd.R_base ho1) hb)
       replace O12 := sqa (Kd.R_elder' (sqR O12) (Kd.R_base ho1) hb)
       replace B0 := sqT B0 hb
       replace B2 := sqT B2 hb
       replace B9 := sqT B9 hb
       replace B10 := sqT B10 hb
       replace HR2 := sqa (Kd.C_below (Z110 HR2) hb)
       replace B13 := sqT B13 hb
       replace HB := sqa (below_step (Z44 E0 E1 E2 E3 E4) hb)
       (try clear ho1)
       refine hK.out _ _ (sqk1 B10) (fun hHeld => ?_)
       clear hK K
       refine sqN (some 85) ?_
       refine sqP 5 (some 80) (h := ?_)
       refine sqP 6 (some 86) (h := ?_)
       refine sqP 7 (some 87) (h := ?_)
       exact norm_ Z20 (hCont (v10, v11, g4) _ ⟨hHeld, (Z137 O11), (Z134 O12), (Z138 O13), (Z139 O14), (Z140 O6), (Z140 O7), (Z141 O8), (Z142 O9), (Z141 O10), (sqK B0), (sqK B2), (sqK B9), (sqK B10), (sqK B13), GW1.1, E4.1, N12.1, N13.1, N14.1, N15.1, N16.1, N17.1, N18.1, N19.1, (Z44 E0 E1 E2 E3 E4)⟩)
     rintro ⟨v10, v11, g4⟩ w91 ⟨hS_, h0_, h1_, h2_, h3_, h4_, h5_, h6_, h7_, h8_, h9_, h0, h1, h2, h3, h4, h5, h6, h7, h8, h9, h10, h11, h12, h13, h14⟩
     replace O11 : Aside0 (Kd.R k31 31 w91 w.heap.size (fun k_ => some k_ ≠ (v10 : Value).ownBlock ∧ some k_ ≠ (.slice Ao10 t890.length co10 : Value).ownBlock ∧ some k_ ≠ (.slice Ao16 t899.length co16 : Value).ownBlock ∧ some k_ ≠ (.slice Ao23 t908.length co23 : Value).ownBlock) (.slice Ao4 t14.length co4) t14) := ⟨h0_⟩
     replace O12 : Aside0 (Kd.R Kd.string 9 w91 w.heap.size (fun k_ => some k_ ≠ (v11 : Value).ownBlock ∧ some k_ ≠ (.slice Ao0 t2.length co0 : Value).ownBlock ∧ some k_ ≠ (v3 : Value).ownBlock) v9 t15) := ⟨h1_⟩
     replace O13 : Aside0 (Kd.R k31 31 w91 w.heap.size (fun k_ => some k_ ≠ (.slice Ao4 t14.length co4 : Value).ownBlock ∧ some k_ ≠ (.slice Ao10 t890.length co10 : Value).ownBlock ∧ some k_ ≠ (.slice Ao16 t899.length co16 : Value).ownBlock ∧ some k_ ≠ (.slice Ao23 t908.length co23 : Value).ownBlock) v10 t18) := ⟨h2_⟩
     replace O14 : Aside0 (Kd.R Kd.string 9 w91 w.heap.size (fun k_ => some k_ ≠ (v9 : Value).ownBlock ∧ some k_ ≠ (.slice Ao0 t2.length co0 : Value).ownBlock ∧ some k_ ≠ (v3 : Value).ownBlock) v11 t19) := ⟨h3_⟩
     replace O6 : Aside0 (Kd.R Kd.string 9 w91 w.heap.size (fun k_ => some k_ ≠ (v9 : Value).ownBlock ∧ some k_ ≠ (v11 : Value).ownBlock ∧ some k_ ≠ (v3 : Value).ownBlock) (.slice Ao0 t2.length co0) t2) := ⟨h4_⟩
     replace O7 : Aside0 (Kd.R Kd.string 9 w91 w.heap.size (fun k_ => some k_ ≠ (v9 : Value).ownBlock ∧ some k_ ≠ (v11 : Value).ownBlock ∧ some k_ ≠ (.slice Ao0 t2.length co0 : Value).ownBlock) v3 t5) := ⟨h5_⟩
     replace O8 : Aside0 (Kd.Q k31 31 w91 w.heap.size (fun k_ => some k_ ≠ (.slice Ao4 t14.length co4 : Value).ownBlock ∧ some k_ ≠ (v10 : Value).ownBlock ∧ some k_ ≠ (.slice Ao16 t899.length co16 : Value).ownBlock ∧ some k_ ≠ (.slice Ao23 t908.length co23 : Value).ownBlock) (.slice Ao10 t890.length co10) t890) := ⟨h6_⟩
     replace O9 : Aside0 (Kd.R k31 31 w91 w.heap.size (fun k_ => some k_ ≠ (.slice Ao4 t14.length co4 : Value).ownBlock ∧ some k_ ≠ (v10 : Value).ownBlock ∧ some k_ ≠ (.slice Ao10 t890.length co10 : Value).ownBlock ∧ some k_ ≠ (.slice Ao23 t908.length co23 : Value).ownBlock) (.slice Ao16 t899.length co16) t899) := ⟨h7_⟩
     replace O10 : Aside0 (Kd.Q k31 31 w91 w.heap.size (fun k_ => some k_ ≠ (.slice Ao4 t14.length co4 : Value).ownBlock ∧ some k_ ≠ (v10 : Value).ownBlock ∧ some k_ ≠ (.slice Ao10 t890.length co10 : Value).ownBlock ∧ some k_ ≠ (.slice Ao16 t899.length co16 : Value).ownBlock) (.slice Ao23 t908.length co23) t908) := ⟨h8_⟩
     replace B0 : Aside0 (w91.heap[g0]? = some (.cells #[.int .i64 t0, .int .i64 t1, .slice Ao10 t890.length co10] 34 (0, 0))) := ⟨h9_⟩
     replace B2 : Aside0 (w91.heap[g1]? = some (.cells #[.int .i64 t3, .int .i64 t4, .slice Ao16 t899.length co16] 34 (0, 0))) := ⟨h0⟩
     replace B9 : Aside0 (w91.heap[g2]? = some (.cells #[.int .i64 t906, .int .i64 t907, .slice Ao23 t908.length co23] 34 (0, 0))) := ⟨h1⟩
     replace B10 : Aside0 (w91.heap[g3]? = some (.cells #[.int .i64 t12, .int .i64 t13, .slice Ao4 t14.length co4] 34 (0, 0))) := ⟨h2⟩
     replace B13 : Aside0 (w91.heap[g4]? = some (.cells #[.int .i64 0, .int .i64 0, .slice none 0 0] 34 (0, 0))) := ⟨h3⟩
     replace GW1 : Aside0 (w.heap.size ≤ g4) := ⟨h4⟩
     replace E4 : Aside0 (w.heap.size ≤ g4) := ⟨h5⟩
     replace N12 : Aside0 (g0 ≠ g4) := ⟨h6⟩
     replace N13 : Aside0 (g4 ≠ g0) := ⟨h7⟩
     replace N14 : Aside0 (g1 ≠ g4) := ⟨h8⟩
     replace N15 : Aside0 (g4 ≠ g1) := ⟨h9⟩
     replace N16 : Aside0 (g2 ≠ g4) := ⟨h10⟩
     replace N17 : Aside0 (g4 ≠ g2) := ⟨h11⟩
     replace N18 : Aside0 (g3 ≠ g4) := ⟨h12⟩
     replace N19 : Aside0 (g4 ≠ g3) := ⟨h13⟩
     replace HB : Aside0 (Below w.heap.size w w91) := ⟨h14⟩
     clear h0_ h1_ h2_ h3_ h4_ h5_ h6_ h7_ h8_ h9_ h0 h1 h2 h3 h4 h5 h6 h7 h8 h9 h10 h11 h12 h13 h14
     have hHeld : w91.cell? ⟨g3, 0, none⟩ = some (.int .i64 t12) ∧ w91.cell? ⟨g3, 1, none⟩ = some (.int .i64 t13) ∧ w91.cell? ⟨g3, 2, none⟩ = some (.slice Ao4 t14.length co4) := hS_
     obtain ⟨Ao5, co5, eo8⟩ := Kd.R_slice O13.1
     (first | subst eo8 | (injection eo8 with f1_ f2_ f3_; have f4_ := f1_.symm; have f5_ := f3_.symm; clear f1_ f2_ f3_; subst f4_; subst f5_))
     refine norm_ (a' := ?_) ?_ ?_
     rotate_left
     ·simp only [putAll, Act.put, List.setIfInBounds_toArray, List.set_cons_zero, List.set_cons_succ]
      rfl
     refine sq1 9 none (h := fun K hK => ?_)
     have := sqY3 B13
     have := sqn6 N12 N14 N16 N18 N13 N15
     have := sqn2 N17 N19
     refine skip_ (w1 := ?_) (by rfl) rfl ?_ ?_
     rotate_left
     ·go_simp
      rfl
     refine hK.out _ _ (sql1 N18 hHeld) (fun hHeld => ?_)
     clear hK K
     refine sqP 10 (some 13) (h := ?_)
     refine done_ (done_of HT_.out (by kernel_rfl)) ?_
     try go_wp2
     go_loopg [14] kj0 (fun kq v14 w' => ∃ (x2 : Int), v14 = .int .i64 x2 ∧ Aside0 (laws_FnDeskSay.l0 kq t2 t5 t15 t19 x2 t3 t4 t899 t16 t17 t18 = some r) ∧ Aside0 (kq ≤ kj0) ∧ Aside0 (Kd.R Kd.string 9 w' w.heap.size (fun k_ => some k_ ≠ (v3 : Value).ownBlock ∧ some k_ ≠ (v9 : Value).ownBlock ∧ some k_ ≠ (v11 : Value).ownBlock) (.slice Ao0 t2.length co0) t2) ∧ Aside0 (Kd.R Kd.string 9 w' w.heap.size (fun k_ => some k_ ≠ ((.slice Ao0 t2.length co0) : Value).ownBlock ∧ some k_ ≠ (v9 : Value).ownBlock ∧ some k_ ≠ (v11 : Value).ownBlock) v3 t5) ∧ Aside0 (Kd.R Kd.string 9 w' w.heap.size (fun k_ => some k_ ≠ ((.slice Ao0 t2.length co0) : Value).ownBlock ∧ some k_ ≠ (v3 : Value).ownBlock ∧ some k_ ≠ (v11 : Value).ownBlock) v9 t15) ∧ Aside0 (Kd.R Kd.string 9 w' w.heap.size (fun k_ => some k_ ≠ ((.slice Ao0 t2.length co0) : Value).ownBlock ∧ some k_ ≠ (v3 : Value).ownBlock ∧ some k_ ≠ (v9 : Value).ownBlock) v11 t19) ∧ Aside0 (Kd.Q k31 31 w' w.heap.size (fun k_ => some k_ ≠ ((.slice Ao16 t899.length co16) : Value).ownBlock ∧ some k_ ≠ ((.slice Ao23 t908.length co23) : Value).ownBlock ∧ some k_ ≠ ((.slice Ao4 t14.length co4) : Value).ownBlock ∧ some k_ ≠ ((.slice Ao5 t18.length co5) : Value).ownBlock) (.slice Ao10 t890.length co10) t890) ∧ Aside0 (Kd.Q k31 31 w' w.heap.size (fun k_ => some k_ ≠ ((.slice Ao10 t890.length co10) : Value).ownBlock ∧ some k_ ≠ ((.slice Ao23 t908.length co23) : Value).ownBlock ∧ some k_ ≠ ((.slice Ao4 t14.length co4) : Value).ownBlock ∧ some k_ ≠ ((.slice Ao5 t18.length co5) : Value).ownBlock) (.slice Ao16 t899.length co16) t899) ∧ Aside0 (Kd.Q k31 31 w' w.heap.size (fun k_ => some k_ ≠ ((.slice Ao10 t890.length co10) : Value).ownBlock ∧ some k_ ≠ ((.slice Ao16 t899.length co16) : Value).ownBlock ∧ some k_ ≠ ((.slice Ao4 t14.length co4) : Value).ownBlock ∧ some k_ ≠ ((.slice Ao5 t18.length co5) : Value).ownBlock) (.slice Ao23 t908.length co23) t908) ∧ Aside0 (Kd.Q k31 31 w' w.heap.size (fun k_ => some k_ ≠ ((.slice Ao10 t890.length co10) : Value).ownBlock ∧ some k_ ≠ ((.slice Ao16 t899.length co16) : Value).ownBlock ∧ some k_ ≠ ((.slice Ao23 t908.length co23) : Value).ownBlock ∧ some k_ ≠ ((.slice Ao5 t18.length co5) : Value).ownBlock) (.slice Ao4 t14.length co4) t14) ∧ Aside0 (Kd.Q k31 31 w' w.heap.size (fun k_ => some k_ ≠ ((.slice Ao10 t890.length co10) : Value).ownBlock ∧ some k_ ≠ ((.slice Ao16 t899.length co16) : Value).ownBlock ∧ some k_ ≠ ((.slice Ao23 t908.length co23) : Value).ownBlock ∧ some k_ ≠ ((.slice Ao4 t14.length co4) : Value).ownBlock) (.slice Ao5 t18.length co5) t18) ∧ Aside0 (w'.heap[g0]? = some (.cells #[.int .i64 t0, .int .i64 t1, (.slice Ao10 t890.length co10)] 34 (0, 0))) ∧ Aside0 (w'.heap[g1]? = some (.cells #[.int .i64 t3, .int .i64 t4, (.slice Ao16 t899.length co16)] 34 (0, 0))) ∧ Aside0 (w'.heap[g2]? = some (.cells #[.int .i64 t906, .int .i64 t907, (.slice Ao23 t908.length co23)] 34 (0, 0))) ∧ Aside0 (w'.heap[g3]? = some (.cells #[.int .i64 t12, .int .i64 t13, (.slice Ao4 t14.length co4)] 34 (0, 0))) ∧ Aside0 (w'.heap[g4]? = some (.cells #[.int .i64 t16, .int .i64 t17, (.slice Ao5 t18.length co5)] 34 (0, 0))) ∧ Aside0 (Below w.heap.size w w'))
     case atStart => exact ⟨(0), Z1, H', ⟨Nat.le_refl _⟩, ⟨Z143 O6 B13⟩, ⟨Z143 O7 B13⟩, ⟨Z144 O12 B13⟩, ⟨Z144 O14 B13⟩, ⟨Z145 O8 B13⟩, ⟨Kd.Q_of_R (by (with_reducible repeat (first | apply Kd.R_alloc | apply Kd.R_drewN | apply Kd.R_drew)); exact Kd.R_mono (sqr3 O9.1 B13.1) (fun _ hk => ⟨hk.1.2.2.1, ⟨hk.1.2.2.2, ⟨hk.1.1, hk.1.2.1⟩⟩⟩))⟩, ⟨Z145 O10 B13⟩, ⟨Kd.Q_of_R (Z146 O11 B13)⟩, ⟨Kd.Q_of_R (Z146 O13 B13)⟩, ⟨Z38 N12 B0⟩, ⟨Z38 N14 B2⟩, ⟨Z38 N16 B9⟩, ⟨Z38 N18 B10⟩, ⟨by refine sqPut (cs := #[.int .i64 t16, .int .i64 t17, .slice none 0 0]) ?_ 2; refine sqPut (cs := #[.int .i64 t16, .int .i64 0, .slice none 0 0]) ?_ 1; refine sqPut (cs := #[.int .i64 0, .int .i64 0, .slice none 0 0]) ?_ 0; exact sqK B13⟩, ⟨Z44 E0 E1 E2 E3 E4⟩⟩
     case round =>
      clear H'
      obtain ⟨x2, rfl, HA, HK3, O6, O7, O15, O16, O8, O9, O10, O17, O18, B0, B2, B9, B10, B13, HB⟩ := hrel
      cases gk with
      | zero => exact absurd HA.out (by simp [laws_FnDeskSay.l0])
      | succ k3 =>
       have H := HA.out
       clear HA
       simp only [laws_FnDeskSay.l0] at H
       obtain ⟨c20, H⟩ | ⟨c20, H⟩ := sqi3 H
       ·obtain ⟨c22, H⟩ := sqJ2 H
        obtain ⟨c24, c26, H⟩ | ⟨c24, c26, c98, H⟩ := sqi4 H
        ·obtain rfl := sqo H
         obtain ⟨Ao6, co6, eo9⟩ := Kd.R_slice O7.1
         subst eo9
         have p0 : 0 ≤ (x2 : Int) := of_decide_eq_true Z16
         have q3 : x2 < (t5.length : Int) := of_decide_eq_true Z16
         obtain ⟨ad0, e0, hx0⟩ := Kd.at_string (Kd.R_reads' O7.1).2.2 x2 p0 q3
         cases e0
         replace p0 := eq_true p0
         replace q3 := eq_true q3
         go_wp2
         go_ret
         exact ⟨Z147, Z44 E0 E1 E2 E3 E4⟩
        have H' := sqa H
        clear H
        obtain ⟨Ao7, co7, eo12⟩ := Kd.R_slice O7.1
        subst eo12
        have p0 : 0 ≤ (x2 : Int) := of_decide_eq_true Z16
        have q3 : x2 < (t5.length : Int) := of_decide_eq_true Z16
        obtain ⟨ad0, e0, hx0⟩ := Kd.at_string (Kd.R_reads' O7.1).2.2 x2 p0 q3
        cases e0
        replace p0 := eq_true p0
        replace q3 := eq_true q3
        go_wp2
        go_roundg k3
        case measure => have := HJ5.out; have := HJ0.out; have := HK3.out; omega
        case rel => exact ⟨(wrap64 (x2 + 1)), Z1, H', ⟨by have := HJ5.out; have := HJ0.out; have := HK3.out; omega⟩, ⟨sqR O6⟩, ⟨sqR O7⟩, ⟨sqR O15⟩, ⟨sqR O16⟩, ⟨Z40 O8⟩, ⟨Z40 O9⟩, ⟨Z40 O10⟩, ⟨Z40 O17⟩, ⟨Z40 O18⟩, ⟨sqK B0⟩, ⟨sqK B2⟩, ⟨sqK B9⟩, ⟨sqK B10⟩, ⟨sqK B13⟩, ⟨Z44 E0 E1 E2 E3 E4⟩⟩
       obtain ⟨⟨t20, t21, t22, t23⟩, A13, H⟩ := sqD H
       try dsimp only at H
       obtain ⟨⟨t24, t25, t26, t27⟩, A14, H⟩ := sqD H
       try dsimp only at H
       obtain ⟨⟨t28, t29⟩, A15, H⟩ := sqD H
       try dsimp only at H
       obtain ⟨t30, A16, H⟩ := sqD H
       by_cases c27 : t30 = true
       ·subst c27
        rw [if_pos rfl] at H
        obtain ⟨y2, hy4⟩ : ∃ y_ : List ByteArray, y_ = (([] : List ByteArray)) := ⟨_, rfl⟩
        replace H : (if y2.length + t15.length < 8796093022208 then ((some (y2 ++ t15 : List ByteArray)).bind fun y3 => (if y3.length + t19.length < 8796093022208 then ((F41.f k3 (y3 ++ t19) t5).bind fun t31 => (if t31 = true then (if (t5.length : Int) = (t2.length : Int) then (if t29 = true then (if 1 + t28.size ≤ 9223372036854775807 then (some (t27.toList == ((⟨#[58]⟩ : ByteArray) ++ t28).toList)) else (none)) else (some false)) else (some false)) else (some false))) else (none))) else (none)) = some r := sqW hy4 H
        have Ny2 := sqa hy4
        clear hy4
        obtain ⟨c28, H⟩ := sqI H
        have LMc0 := sqa c28
        clear c28
        obtain ⟨y3, hy5⟩ : ∃ y_ : List ByteArray, y_ = (y2 ++ t15) := ⟨_, rfl⟩
        replace H : (if y3.length + t19.length < 8796093022208 then ((F41.f k3 (y3 ++ t19) t5).bind fun t31 => (if t31 = true then (if (t5.length : Int) = (t2.length : Int) then (if t29 = true then (if 1 + t28.size ≤ 9223372036854775807 then (some (t27.toList == ((⟨#[58]⟩ : ByteArray) ++ t28).toList)) else (none)) else (some false)) else (some false)) else (some false))) else (none)) = some r := sqW hy5 H
        have Ny3 := sqa hy5
        clear hy5
        obtain ⟨c29, H⟩ := sqI H
        have LMc1 := sqa c29
        clear c29
        obtain ⟨y4, hy6⟩ : ∃ y_ : List ByteArray, y_ = (y3 ++ t19) := ⟨_, rfl⟩
        replace H : ((F41.f k3 y4 t5).bind fun t31 => (if t31 = true then (if (t5.length : Int) = (t2.length : Int) then (if t29 = true then (if 1 + t28.size ≤ 9223372036854775807 then (some (t27.toList == ((⟨#[58]⟩ : ByteArray) ++ t28).toList)) else (none)) else (some false)) else (some false)) else (some false))) = some r := sqW hy6 H
        have Ny4 := sqa hy6
        clear hy6
        obtain ⟨t31, A17, H⟩ := sqD H
        by_cases c30 : t31 = true
        ·subst c30
         rw [if_pos rfl] at H
         obtain ⟨c31, H⟩ | ⟨c31, H⟩ := sqi2 H
         ·have c32 := sqe1 c31
          have c33 := sqn0 c31
          have c34 : (t5.length == t2.length) = true := by first | simpa using c31 | (simp at c31 ⊢; omega)
          clear c31
          by_cases c35 : t29 = true
          ·subst c35
           rw [if_pos rfl] at H
           obtain ⟨c36, c37, c38, H⟩ := sqJ5 H
           try have c39 : (9223372036854775807 < 1 + t28.size) = False := eq_false (Nat.not_lt.2 c36)
           obtain rfl := sqo H
           obtain ⟨Ao8, co8, eo13⟩ := Kd.R_slice O7.1
           subst eo13
           have := sqn6 N1 N0 N4 N5 N8 N9
           have := sqn2 N14 N15
           have := sqY3 B2
           go_wp2_with (first | ((with_reducible refine sqc 40 rfl ?_); refine sqvo (some 101) func40 (args := #[.agg #[.int .i64 t3, .int .i64 t4, .slice Ao16 t899.length co16], .string (⟨#[116, 97, 107, 101, 32, 53, 47, 51]⟩ : ByteArray)]) (F65.c k3 t3 t4 _ _ t899 (⟨#[116, 97, 107, 101, 32, 53, 47, 51]⟩ : ByteArray) t20 t21 t22 t23 _ (Glob.below hG (Z44 E0 E1 E2 E3 E4)) (Z69 O9) (Z70 O9) A13.1) fun v13 w27 ho0 hb => ?_; replace O6 := sqU O6 hb; replace O7 := sqU O7 hb; replace O15 := sqU O15 hb; replace O16 := sqU O16 hb; have O19 := sqa (Kd.R_lower (Kd.R_new' (Kd.R_new' (Kd.R_new' (Kd.R_new' (Kd.R_new' ho0 (Kd.Q_lt (Z40 O8))) (Kd.Q_lt (Z40 O9))) (Kd.Q_lt (Z40 O10))) (Kd.Q_lt (Z40 O17))) (Kd.Q_lt (Z40 O18))) (below_size (Z44 E0 E1 E2 E3 E4))); replace O8 := sqa (Kd.Q_elder' (Z40 O8) (Kd.R_base ho0) hb); replace O9 := sqa (Kd.Q_elder' (Z40 O9) (Kd.R_base ho0) hb); replace O10 := sqa (Kd.Q_elder' (Z40 O10) (Kd.R_base ho0) hb); replace O17 := sqa (Kd.Q_elder' (Z40 O17) (Kd.R_base ho0) hb); replace O18 := sqa (Kd.Q_elder' (Z40 O18) (Kd.R_base ho0) hb); obtain ⟨B0, B2, B9, B10, B13⟩ := sqT5 hb B0 B2 B9 B10 B13; replace HB := sqa (below_step (Z44 E0 E1 E2 E3 E4) hb); (try clear ho0)) | ((with_reducible refine sqd 15 rfl ?_); (try (refine gate_guard (by rfl) ?_; dsimp only)); refine sqBox (N := 15) (cs := #[.int .i64 0, .int .i64 0, .slice none 0 0]) (t := 34) ?_; intro g5 hg w28 B14 hb; replace O6 := sqU O6 hb; replace O7 := sqU O7 hb; replace O15 := sqU O15 hb; replace O16 := sqU O16 hb; replace O8 := sqa (Kd.Q_below (Z40 O8) hb); replace O9 := sqa (Kd.Q_below (Z40 O9) hb); replace O10 := sqa (Kd.Q_below (Z40 O10) hb); replace O17 := sqa (Kd.Q_below (Z40 O17) hb); replace O18 := sqa (Kd.Q_below (Z40 O18) hb); replace O19 := sqU O19 hb; have GW2 := sqa ((by rw [hg]; exact (below_size (Z44 E0 E1 E2 E3 E4)) : w.heap.size ≤ g5)); have E5 := GW2; replace HB := sqa (below_step (Z44 E0 E1 E2 E3 E4) hb); obtain ⟨N20, N21⟩ := sqM hg B0; replace B0 := sqT B0 hb; obtain ⟨N22, N23⟩ := sqM hg B2; replace B2 := sqT B2 hb; obtain ⟨N24, N25⟩ := sqM hg B9; replace B9 := sqT B9 hb; obtain ⟨N26, N27⟩ := sqM hg B10; replace B10 := sqT B10 hb; obtain ⟨N28, N29⟩ := sqM hg B13; replace B13 := sqT B13 hb; clear hb hg; have := sqn6 N21 N20 N23 N22 N25 N24; have := sqn4 N27 N26 N29 N28; have := sqY3 B14; obtain ⟨Ao9, co9, eo14⟩ := Kd.R_slice O19.1; subst eo14) | ((with_reducible refine sqc 40 rfl ?_); refine sqC (some 106) func40 #[.agg #[.int .i64 t20, .int .i64 t21, .slice Ao9 t22.length co9], .string (⟨#[109, 111, 118, 101, 115]⟩ : ByteArray)] ?_; (with_reducible refine (F65.c k3 t20 t21 _ _ t22 (⟨#[109, 111, 118, 101, 115]⟩ : ByteArray) t24 t25 t26 t27 _ ?sideG ?side1 ?side2 A14.1).mono ?_); (case sideG => exact Glob.below hG (Z65 E0 E1 E2 E3 E4 E5)); (case side1 => refine (Kd.R_reads' (e := 31) (base := w.heap.size) (ok := fun k_ => (((((True ∧ some k_ ≠ (.slice Ao10 t890.length co10 : Value).ownBlock) ∧ some k_ ≠ (.slice Ao16 t899.length co16 : Value).ownBlock) ∧ some k_ ≠ (.slice Ao23 t908.length co23 : Value).ownBlock) ∧ some k_ ≠ (.slice Ao4 t14.length co4 : Value).ownBlock) ∧ some k_ ≠ (.slice Ao5 t18.length co5 : Value).ownBlock)) (n := t22.length) (c := co9) ?_).2.2; exact (Z148 O19 B14)); (case side2 => exact Z8 O19); rintro e w29 ⟨v15, rfl, ho0, hb⟩; refine ⟨_, rfl, ?_⟩; replace O6 := sqa (Kd.R_below (Z148 O6 B14) hb); replace O7 := sqa (Kd.R_below (Z148 O7 B14) hb); replace O15 := sqa (Kd.R_below (Z148 O15 B14) hb); replace O16 := sqa (Kd.R_below (Z148 O16 B14) hb); have O20 := sqa (Kd.R_lower (Kd.R_new' (Kd.R_new' (Kd.R_new' (Kd.R_new' (Kd.R_new' (Kd.R_new' ho0 (Kd.Q_lt (Z149 O8 B14))) (Kd.Q_lt (Z149 O9 B14))) (Kd.Q_lt (Z149 O10 B14))) (Kd.Q_lt (Z149 O17 B14))) (Kd.Q_lt (Z149 O18 B14))) (Kd.R_lt (Z148 O19 B14))) (below_size (Z65 E0 E1 E2 E3 E4 E5))); replace O8 := sqa (Kd.Q_elder' (Z149 O8 B14) (Kd.R_base ho0) hb); replace O9 := sqa (Kd.Q_elder' (Z149 O9 B14) (Kd.R_base ho0) hb); replace O10 := sqa (Kd.Q_elder' (Z149 O10 B14) (Kd.R_base ho0) hb); replace O17 := sqa (Kd.Q_elder' (Z149 O17 B14) (Kd.R_base ho0) hb); replace O18 := sqa (Kd.Q_elder' (Z149 O18 B14) (Kd.R_base ho0) hb); replace O19 := sqa (Kd.R_elder' (Z148 O19 B14) (Kd.R_base ho0) hb); replace B0 := sqH N20 B0 hb; replace B2 := sqH N22 B2 hb; replace B9 := sqH N24 B9 hb; replace B10 := sqH N26 B10 hb; replace B13 := sqH N28 B13 hb; replace B14 := sqa (blk_below (g := g5) (o := .cells #[.int .i64 t20, .int .i64 t21, .slice Ao9 t22.length co9] 34 (0, 0)) (by refine sqPut (cs := #[.int .i64 t20, .int .i64 t21, .slice none 0 0]) ?_ 2; refine sqPut (cs := #[.int .i64 t20, .int .i64 0, .slice none 0 0]) ?_ 1; refine sqPut (cs := #[.int .i64 0, .int .i64 0, .slice none 0 0]) ?_ 0; exact sqK B14) hb); replace HB := sqa (below_step (Z65 E0 E1 E2 E3 E4 E5) hb); (try clear ho0)) | ((with_reducible refine sqd 17 rfl ?_); (try (refine gate_guard (by rfl) ?_; dsimp only)); refine sqBox (N := 17) (cs := #[.int .i64 0, .int .i64 0, .slice none 0 0]) (t := 34) ?_; intro g6 hg w30 B15 hb; replace O6 := sqU O6 hb; replace O7 := sqU O7 hb; replace O15 := sqU O15 hb; replace O16 := sqU O16 hb; replace O8 := sqa (Kd.Q_below (Z40 O8) hb); replace O9 := sqa (Kd.Q_below (Z40 O9) hb); replace O10 := sqa (Kd.Q_below (Z40 O10) hb); replace O17 := sqa (Kd.Q_below (Z40 O17) hb); replace O18 := sqa (Kd.Q_below (Z40 O18) hb); replace O19 := sqU O19 hb; replace O20 := sqU O20 hb; have GW3 := sqa ((by rw [hg]; exact (below_size (Z65 E0 E1 E2 E3 E4 E5)) : w.heap.size ≤ g6)); have E6 := GW3; replace HB := sqa (below_step (Z65 E0 E1 E2 E3 E4 E5) hb); obtain ⟨N30, N31⟩ := sqM hg B0; replace B0 := sqT B0 hb; obtain ⟨N32, N33⟩ := sqM hg B2; replace B2 := sqT B2 hb; obtain ⟨N34, N35⟩ := sqM hg B9; replace B9 := sqT B9 hb; obtain ⟨N36, N37⟩ := sqM hg B10; replace B10 := sqT B10 hb; obtain ⟨N38, N39⟩ := sqM hg B13; replace B13 := sqT B13 hb; obtain ⟨N40, N41⟩ := sqM hg B14; replace B14 := sqT B14 hb; clear hb hg; have := sqn6 N31 N30 N33 N32 N35 N34; have := sqn6 N37 N36 N39 N38 N41 N40; have := sqY3 B15; obtain ⟨Ao12, co12, eo15⟩ := Kd.R_slice O20.1; subst eo15) | ((with_reducible refine sqc 54 rfl ?_); refine sqv (some 111) func54 (F89.c k3 5 3 t28 true _ A15.1) fun w31 hb => ?_; replace O6 := sqa (Kd.R_below (Z150 O6 B15) hb); replace O7 := sqa (Kd.R_below (Z150 O7 B15) hb); replace O15 := sqa (Kd.R_below (Z150 O15 B15) hb); replace O16 := sqa (Kd.R_below (Z150 O16 B15) hb); replace O8 := sqa (Kd.Q_below (Z151 O8 B15) hb); replace O9 := sqa (Kd.Q_below (Z151 O9 B15) hb); replace O10 := sqa (Kd.Q_below (Z151 O10 B15) hb); replace O17 := sqa (Kd.Q_below (Z151 O17 B15) hb); replace O18 := sqa (Kd.Q_below (Z151 O18 B15) hb); replace O19 := sqa (Kd.R_below (Z150 O19 B15) hb); replace O20 := sqa (Kd.R_below (Z150 O20 B15) hb); replace B0 := sqH N30 B0 hb; replace B2 := sqH N32 B2 hb; replace B9 := sqH N34 B9 hb; replace B10 := sqH N36 B10 hb; replace B13 := sqH N38 B13 hb; replace B14 := sqH N40 B14 hb; replace B15 := sqa (blk_below (g := g6) (o := .cells #[.int .i64 t24, .int .i64 t25, .slice Ao12 t26.length co12] 34 (0, 0)) (by refine sqPut (cs := #[.int .i64 t24, .int .i64 t25, .slice none 0 0]) ?_ 2; refine sqPut (cs := #[.int .i64 t24, .int .i64 0, .slice none 0 0]) ?_ 1; refine sqPut (cs := #[.int .i64 0, .int .i64 0, .slice none 0 0]) ?_ 0; exact sqK B15) hb); replace HB := sqa (below_step (Z66 E0 E1 E2 E3 E4 E5 E6) hb); have := sqn6 N13 N12 N17 N16 N19 N18; have := sqY3 B13; have := sqY3 B2) | ((with_reducible refine sqc 22 rfl ?_); refine sqv (some 116) func22 (args := #[.agg #[.int .i64 t16, .int .i64 t17, .slice Ao5 t18.length co5], .agg #[.int .i64 t3, .int .i64 t4, .slice Ao16 t899.length co16]]) (F22.c k3 t16 t17 _ _ t18 t3 t4 _ _ t899 true _ (Z69 O18) (Z70 O18) (Z69 O9) (Z70 O9) A16.1) fun w33 hb => ?_; replace O6 := sqU O6 hb; replace O7 := sqU O7 hb; replace O15 := sqU O15 hb; replace O16 := sqU O16 hb; replace O8 := sqa (Kd.Q_below (Z40 O8) hb); replace O9 := sqa (Kd.Q_below (Z40 O9) hb); replace O10 := sqa (Kd.Q_below (Z40 O10) hb); replace O17 := sqa (Kd.Q_below (Z40 O17) hb); replace O18 := sqa (Kd.Q_below (Z40 O18) hb); replace O19 := sqU O19 hb; replace O20 := sqU O20 hb; obtain ⟨B0, B2, B9, B10, B13⟩ := sqT5 hb B0 B2 B9 B10 B13; obtain ⟨B14, B15⟩ := sqT2 hb B14 B15; replace HB := sqa (below_step (Z66 E0 E1 E2 E3 E4 E5 E6) hb)) | ((with_reducible refine sqd 118 rfl ?_); (try (refine gate_guard (by rfl) ?_; dsimp only)); refine Kd.R_lit Kd.string _ 9 ?hg (N := 118) ?hd (xs := ([] : List ByteArray)) (inner := []) (ok := fun _ => True) (okp := fun _ => True) ?hr ?hp (fun _ hk => hk) trivial (Below.refl _ _) (Nat.le_refl _) (by simp) ?_; (case hd => rfl); (case hg => rfl); (case hr => exact Z17); (case hp => exact Z24); intro v16 w34 ho2 hb hg_ hnew_; clear hg_ hnew_; (first | rw [← Ny2.out] at ho2 | (simp only [Int.reduceToNat] at ho2; rw [← Ny2.out] at ho2)); replace O8 := sqa (Kd.Q_below (Z40 O8) hb); replace O9 := sqa (Kd.Q_below (Z40 O9) hb); replace O10 := sqa (Kd.Q_below (Z40 O10) hb); replace O17 := sqa (Kd.Q_below (Z40 O17) hb); replace O18 := sqa (Kd.Q_below (Z40 O18) hb); replace O19 := sqU O19 hb; replace O20 := sqU O20 hb; have O21 := sqa (Kd.R_lower (Kd.R_new' (Kd.R_new' (Kd.R_new' (Kd.R_new' ho2 (Kd.R_lt (sqR O6))) (Kd.R_lt (sqR O7))) (Kd.R_lt (sqR O15))) (Kd.R_lt (sqR O16))) (below_size (Z66 E0 E1 E2 E3 E4 E5 E6))); replace O6 := sqa (Kd.R_elder' (sqR O6) (Kd.R_base ho2) hb); replace O7 := sqa (Kd.R_elder' (sqR O7) (Kd.R_base ho2) hb); replace O15 := sqa (Kd.R_elder' (sqR O15) (Kd.R_base ho2) hb); replace O16 := sqa (Kd.R_elder' (sqR O16) (Kd.R_base ho2) hb); obtain ⟨B0, B2, B9, B10, B13⟩ := sqT5 hb B0 B2 B9 B10 B13; obtain ⟨B14, B15⟩ := sqT2 hb B14 B15; replace HB := sqa (below_step (Z66 E0 E1 E2 E3 E4 E5 E6) hb); clear hb ho2; obtain ⟨Ao13, co13, eo17⟩ := Kd.R_slice O15.1; subst eo17) | ((with_reducible refine gate_builtin (b := .append) (xs := #[.tmp 118, .tmp 119]) rfl ?_); (try (refine gate_guard (by rfl) ?_; dsimp only)); at_builtin; refine Kd.R_append_rows Kd.string (w0 := w) w.heap.size rfl (.tmp 118) (.tmp 119) 73 9 (.string ⟨#[]⟩) 16 rfl underlying73 info9 rfl (by decide) (by omega) v16 y2 t15 _ _ _ (fun k_ => some k_ ≠ (.slice Ao0 t2.length co0 : Value).ownBlock ∧ some k_ ≠ (.slice Ao8 t5.length co8 : Value).ownBlock ∧ some k_ ≠ (.slice Ao13 t15.length co13 : Value).ownBlock ∧ some k_ ≠ (v11 : Value).ownBlock) (fun _ => False) rfl rfl ?aO ?aR (fun _ _ h => h) (fun _ h => h.elim) ?aF ?aB ?aS ?aL ?_; (case aR => exact Z7 O15); (case aB => exact (Z66 E0 E1 E2 E3 E4 E5 E6)); (case aF => exact (fun k_ hk => ⟨Kd.fresh' (Kd.R_lt (sqR O6)) k_ hk, Kd.fresh' (Kd.R_lt (sqR O7)) k_ hk, Kd.fresh' (Kd.R_lt (sqR O15)) k_ hk, Kd.fresh' (Kd.R_lt (sqR O16)) k_ hk⟩)); (case aO => exact (by (with_reducible repeat (first | apply Kd.R_alloc | apply Kd.R_drewN | apply Kd.R_drew)); exact Kd.R_mono O21.1 (fun _ hk => ⟨hk.1.1.1.2, ⟨hk.1.1.2, ⟨hk.1.2, hk.2⟩⟩⟩))); (case aS => exact (below_size (Z66 E0 E1 E2 E3 E4 E5 E6))); (case aL => exact Z2 LMc0); intro v17 w35 ho hb hg hat; rw [← Ny3.out] at ho; replace O6 := sqa (Kd.R_after (ok := (fun k_ => some k_ ≠ (.slice Ao8 t5.length co8 : Value).ownBlock ∧ some k_ ≠ (.slice Ao13 t15.length co13 : Value).ownBlock ∧ some k_ ≠ (v11 : Value).ownBlock)) (sqR O6) hg hat); replace O7 := sqa (Kd.R_after (ok := (fun k_ => some k_ ≠ (.slice Ao0 t2.length co0 : Value).ownBlock ∧ some k_ ≠ (.slice Ao13 t15.length co13 : Value).ownBlock ∧ some k_ ≠ (v11 : Value).ownBlock)) (sqR O7) hg hat); replace O15 := sqa (Kd.R_after (ok := (fun k_ => some k_ ≠ (.slice Ao0 t2.length co0 : Value).ownBlock ∧ some k_ ≠ (.slice Ao8 t5.length co8 : Value).ownBlock ∧ some k_ ≠ (v11 : Value).ownBlock)) (sqR O15) hg hat); replace O16 := sqa (Kd.R_after (ok := (fun k_ => some k_ ≠ (.slice Ao0 t2.length co0 : Value).ownBlock ∧ some k_ ≠ (.slice Ao8 t5.length co8 : Value).ownBlock ∧ some k_ ≠ (.slice Ao13 t15.length co13 : Value).ownBlock)) (sqR O16) hg hat); replace O8 := sqa (Kd.Q_over' (Z40 O8) (Kd.R_typed (sqR O21)) (by decide) hg); replace O9 := sqa (Kd.Q_over' (Z40 O9) (Kd.R_typed (sqR O21)) (by decide) hg); replace O10 := sqa (Kd.Q_over' (Z40 O10) (Kd.R_typed (sqR O21)) (by decide) hg); replace O17 := sqa (Kd.Q_over' (Z40 O17) (Kd.R_typed (sqR O21)) (by decide) hg); replace O18 := sqa (Kd.Q_over' (Z40 O18) (Kd.R_typed (sqR O21)) (by decide) hg); replace B0 := sqa (blk_grown (sqK B0) hg (Kd.R_ne O21.1 B0.1 (by decide))); replace B2 := sqa (blk_grown (sqK B2) hg (Kd.R_ne O21.1 B2.1 (by decide))); replace B9 := sqa (blk_grown (sqK B9) hg (Kd.R_ne O21.1 B9.1 (by decide))); replace B10 := sqa (blk_grown (sqK B10) hg (Kd.R_ne O21.1 B10.1 (by decide))); replace B13 := sqa (blk_grown (sqK B13) hg (Kd.R_ne O21.1 B13.1 (by decide))); replace O19 := sqa (Kd.R_over' (sqR O19) (Kd.R_typed (sqR O21)) (by decide) hg); replace B14 := sqa (blk_grown (sqK B14) hg (Kd.R_ne O21.1 B14.1 (by decide))); replace O20 := sqa (Kd.R_over' (sqR O20) (Kd.R_typed (sqR O21)) (by decide) hg); replace B15 := sqa (blk_grown (sqK B15) hg (Kd.R_ne O21.1 B15.1 (by decide))); replace HB := sqa (hb); have O22 := sqa (ho); clear O21; clear ho hb hg hat; obtain ⟨Ao14, co14, eo18⟩ := Kd.R_slice O16.1; subst eo18) | ((with_reducible refine gate_builtin (b := .append) (xs := #[.tmp 120, .tmp 121]) rfl ?_); (try (refine gate_guard (by rfl) ?_; dsimp only)); at_builtin; refine Kd.R_append_rows Kd.string (w0 := w) w.heap.size rfl (.tmp 120) (.tmp 121) 73 9 (.string ⟨#[]⟩) 16 rfl underlying73 info9 rfl (by decide) (by omega) v17 y3 t19 _ _ _ (fun k_ => some k_ ≠ (.slice Ao0 t2.length co0 : Value).ownBlock ∧ some k_ ≠ (.slice Ao8 t5.length co8 : Value).ownBlock ∧ some k_ ≠ (.slice Ao13 t15.length co13 : Value).ownBlock ∧ some k_ ≠ (.slice Ao14 t19.length co14 : Value).ownBlock) (fun _ => False) rfl rfl ?aO ?aR (fun _ _ h => h) (fun _ h => h.elim) ?aF ?aB ?aS ?aL ?_; (case aR => exact Z7 O16); (case aB => exact (Z66 E0 E1 E2 E3 E4 E5 E6)); (case aF => exact (fun k_ hk => ⟨Kd.fresh' (Kd.R_lt (sqR O6)) k_ hk, Kd.fresh' (Kd.R_lt (sqR O7)) k_ hk, Kd.fresh' (Kd.R_lt (sqR O15)) k_ hk, Kd.fresh' (Kd.R_lt (sqR O16)) k_ hk⟩)); (case aO => exact (sqR O22)); (case aS => exact (below_size (Z66 E0 E1 E2 E3 E4 E5 E6))); (case aL => exact Z2 LMc1); intro v18 w36 ho hb hg hat; rw [← Ny4.out] at ho; replace O6 := sqa (Kd.R_after (ok := (fun k_ => some k_ ≠ (.slice Ao8 t5.length co8 : Value).ownBlock ∧ some k_ ≠ (.slice Ao13 t15.length co13 : Value).ownBlock ∧ some k_ ≠ (.slice Ao14 t19.length co14 : Value).ownBlock)) (sqR O6) hg hat); replace O7 := sqa (Kd.R_after (ok := (fun k_ => some k_ ≠ (.slice Ao0 t2.length co0 : Value).ownBlock ∧ some k_ ≠ (.slice Ao13 t15.length co13 : Value).ownBlock ∧ some k_ ≠ (.slice Ao14 t19.length co14 : Value).ownBlock)) (sqR O7) hg hat); replace O15 := sqa (Kd.R_after (ok := (fun k_ => some k_ ≠ (.slice Ao0 t2.length co0 : Value).ownBlock ∧ some k_ ≠ (.slice Ao8 t5.length co8 : Value).ownBlock ∧ some k_ ≠ (.slice Ao14 t19.length co14 : Value).ownBlock)) (sqR O15) hg hat); replace O16 := sqa (Kd.R_after (ok := (fun k_ => some k_ ≠ (.slice Ao0 t2.length co0 : Value).ownBlock ∧ some k_ ≠ (.slice Ao8 t5.length co8 : Value).ownBlock ∧ some k_ ≠ (.slice Ao13 t15.length co13 : Value).ownBlock)) (sqR O16) hg hat); replace O8 := sqa (Kd.Q_over' (Z40 O8) (Kd.R_typed (sqR O22)) (by decide) hg); replace O9 := sqa (Kd.Q_over' (Z40 O9) (Kd.R_typed (sqR O22)) (by decide) hg); replace O10 := sqa (Kd.Q_over' (Z40 O10) (Kd.R_typed (sqR O22)) (by decide) hg); replace O17 := sqa (Kd.Q_over' (Z40 O17) (Kd.R_typed (sqR O22)) (by decide) hg); replace O18 := sqa (Kd.Q_over' (Z40 O18) (Kd.R_typed (sqR O22)) (by decide) hg); replace B0 := sqa (blk_grown (sqK B0) hg (Kd.R_ne O22.1 B0.1 (by decide))); replace B2 := sqa (blk_grown (sqK B2) hg (Kd.R_ne O22.1 B2.1 (by decide))); replace B9 := sqa (blk_grown (sqK B9) hg (Kd.R_ne O22.1 B9.1 (by decide))); replace B10 := sqa (blk_grown (sqK B10) hg (Kd.R_ne O22.1 B10.1 (by decide))); replace B13 := sqa (blk_grown (sqK B13) hg (Kd.R_ne O22.1 B13.1 (by decide))); replace O19 := sqa (Kd.R_over' (sqR O19) (Kd.R_typed (sqR O22)) (by decide) hg); replace B14 := sqa (blk_grown (sqK B14) hg (Kd.R_ne O22.1 B14.1 (by decide))); replace O20 := sqa (Kd.R_over' (sqR O20) (Kd.R_typed (sqR O22)) (by decide) hg); replace B15 := sqa (blk_grown (sqK B15) hg (Kd.R_ne O22.1 B15.1 (by decide))); replace HB := sqa (hb); have O23 := sqa (ho); clear O22; clear ho hb hg hat; obtain ⟨Ao15, co15, eo19⟩ := Kd.R_slice O23.1; subst eo19) | (go_at_call 53; (with_reducible refine (F41.c k3 _ _ y4 _ _ t5 true _ ?side1 ?side2 ?side3 ?side4 A17.1).mono ?_); (case side1 => exact Z7 O23); (case side2 => exact Z8 O23); (case side3 => exact Z7 O7); (case side4 => exact Z8 O7); rintro e w' ⟨rfl, ⟨nd, rfl⟩⟩))
           go_ret
           exact ⟨Z147, Z66 E0 E1 E2 E3 E4 E5 E6⟩
          rw [if_neg c35] at H
          exact absurd (sqo H) Z130
         exact absurd (sqo H) Z130
        rw [if_neg c30] at H
        exact absurd (sqo H) Z130
       rw [if_neg c27] at H
       exact absurd (sqo H) Z130

/-- THE ONE PURE STATEMENT of laws_FnDeskSay: yours. -/
def laws_FnDeskSay.Pure : Prop := ∀ (l0 : List Int), l0.length ≤ maxLen → l0.length * 1 ≤ 140737488351232 → (∀ x ∈ l0, (Lit.int .u8 x).wf = true) → ∃ k, laws_FnDeskSay.f k l0 = some true
theorem laws_FnDeskSay.walk (P : laws_FnDeskSay.Pure) (a0 : Option Addr) (len0 cap0 : Nat) (z0 : List Int) (w : World) (hG : Glob w) (w0 : (a0 = none ∧ len0 = 0 ∧ cap0 = 0 ∧ z0 = []) ∨ ∃ x, a0 = some x ∧ len0 ≤ cap0 ∧ cap0 ≤ maxLen ∧ z0.length = cap0 ∧ (∀ i, i < z0.length → w.cell? (x.add i) = some (.int .u8 (z0.getD i 0))) ∧ ∀ n ∈ z0, (Lit.int .u8 n).wf = true) (y0 : len0 * 1 ≤ 140737488351232) :
  Calls prog 11 #[.slice a0 len0 cap0] w fun e w' => e = .returned (.bool true) ∧ Below w.heap.size w w' := by
 obtain ⟨l0, rfl, hr0, hm0, hw0, hc0⟩ := ReadsInt.ofRowC w0
 obtain ⟨k, h⟩ := P l0 hm0 y0 hw0
 refine (laws_FnDeskSay.calls k _ _ l0 true w hG (Kd.C_of_reads (d := (0 : Int)) (h1 := fun _ => rfl) hr0) hc0 ⟨rfl⟩ h).mono ?_
 rintro e w' ⟨rfl, hd⟩
 exact ⟨rfl, hd⟩


end Go.Proofs.YtofmlbgfcohhoaaGreatDoor.PFnDeskSay
