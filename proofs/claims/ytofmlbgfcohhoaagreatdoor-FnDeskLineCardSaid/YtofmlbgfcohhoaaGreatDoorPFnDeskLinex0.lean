import Derived.Test.YtofmlbgfcohhoaaGreatDoorZFnDeskLine
import Derived.Test.YtofmlbgfcohhoaaGreatDoorLib
import Derived.Test.YtofmlbgfcohhoaaGreatDoorProg
import Derived.Below
import Derived.Deep.Draws
import Derived.Deep.AppendLies
import Derived.Maps.AppendAt
import Derived.OwnWalk
import Derived.Laws.BytesArg
import Derived.Laws.MakeOwn
import Derived.Laws.OwnMore
import Derived.Deep.OwnRows
import Derived.Tactics
import Derived.Lib.ConvBytes
import Derived.Laws.Slices
import Derived.WalkKit
import Derived.KernelRfl
import Derived.RowKit3
import Derived.Deep.LoopGhost
import Derived.Deep.QuietTactic
import Derived.BigQuiet
import Derived.WideLaws
import Derived.Deep.DeepCutAuto
import Derived.Deep.CutBlock
import Derived.Deep.RegionHeld3
import Derived.Laws.Rows
import Derived.Lib.AppendStr
import Derived.ArgAppend
import Derived.Laws.IdiomCopy
import Derived.OrdersHeld
import Derived.Laws.BitsLemmas
import Derived.RowKit
set_option maxHeartbeats 8000000
set_option maxRecDepth 100000
namespace Go.Proofs.YtofmlbgfcohhoaaGreatDoor.PFnDeskLine
open Go.RowKit Go.Proofs.YtofmlbgfcohhoaaGreatDoorW.PrintWords Go.Proofs.YtofmlbgfcohhoaaGreatDoorW.PrintLast Go.Proofs.YtofmlbgfcohhoaaGreatDoorW.PrintMore Go.Proofs.YtofmlbgfcohhoaaGreatDoor.Lib Go.Proofs.Tryz
attribute [local go_sem] max2_int min2_int max_two min_two max_three min_three max_four min_four
set_option linter.unusedVariables false
set_option linter.unusedSimpArgs false

theorem info3 : (prog.info? 3).map (fun i => (i.zero, i.size, i.bytes)) = some (some (.int .i64 0), 1, 8) := by kernel_rfl
theorem info5 : (prog.info? 5).map (fun i => (i.zero, i.size, i.bytes)) = some (some (.int .u8 0), 1, 1) := by kernel_rfl
theorem info9 : (prog.info? 9).map (fun i => (i.zero, i.size, i.bytes)) = some (some (.string ⟨#[]⟩), 1, 16) := by kernel_rfl
theorem info31 : (prog.info? 31).map (fun i => (i.zero, i.size, i.bytes)) = some (some (.agg #[(.int .i64 0), (.int .i64 0)]), 2, 16) := by kernel_rfl
theorem info38 : (prog.info? 38).map (fun i => (i.zero, i.size, i.bytes)) = some (some (.agg #[(.int .i64 0), (.string ⟨#[]⟩)]), 2, 24) := by kernel_rfl
-- the values' own types
/-! #### struct type 31 -/
structure S31 where
 f0 : Int
 f1 : Int
def z31 : S31 := ⟨(0 : Int), (0 : Int)⟩
def k31 : Kd S31 := Kd.iso (Kd.pair (Kd.int .i64) (Kd.int .i64)) (fun x : S31 => (x.f0, x.f1))
theorem k31_open {w : World} {x : S31} {cs : List Value} (h : k31.K w x cs) : cs = [.int .i64 x.f0, .int .i64 x.f1] := by
 obtain ⟨_, _, rfl, rfl, rfl⟩ := h
 exact rfl
theorem k31_openM {w : World} {base : Nat} {ok : Nat → Prop} {x : S31} {cs : List Value} (h : k31.M w base ok x cs) : cs = [.int .i64 x.f0, .int .i64 x.f1] := by
 obtain ⟨_, _, rfl, rfl, rfl⟩ := h
 exact rfl
theorem k31_mk (w : World) (x : S31)  : k31.K w x [.int .i64 x.f0, .int .i64 x.f1] := ⟨[.int .i64 x.f0], [.int .i64 x.f1], rfl, rfl, rfl⟩
theorem k31_mkM (w : World) (base : Nat) (ok : Nat → Prop) (x : S31)  : k31.M w base ok x [.int .i64 x.f0, .int .i64 x.f1] := ⟨[.int .i64 x.f0], [.int .i64 x.f1], rfl, rfl, rfl⟩
def rd_T31 (xs : List S31) (i : Int) : S31 := xs.getD i.toNat z31
theorem at_T31 {w : World} {A : Option Addr} {n : Nat} {xs : List S31} (h : Kd.C k31 w A n xs) (i : Int) (h0 : 0 ≤ i) (h1 : i < n) : ∃ ad , A = some ad ∧ w.cell? (ad.add (i.toNat * 2)) = some (.int .i64 (rd_T31 xs i).f0) ∧ w.cell? ⟨(ad.add (i.toNat * 2)).block, (ad.add (i.toNat * 2)).off + 1, none⟩ = some (.int .i64 (rd_T31 xs i).f1) := by
 obtain ⟨ad, c, e, _, hK, hc0⟩ := Kd.C_get h z31 i h0 h1
 have hc : ∀ j u, c[j]? = some u → w.cell? (ad.add (i.toNat * 2 + j)) = some u := hc0
 obtain rfl := k31_open hK
 exact ⟨ad, e, hc 0 _ rfl, by rw [← add_field _ _ 1 (by omega)]; exact hc 1 _ rfl⟩

/-! #### struct type 38 -/
structure S38 where
 f0 : Int
 f1 : ByteArray
def z38 : S38 := ⟨(0 : Int), (⟨#[]⟩ : ByteArray)⟩
def k38 : Kd S38 := Kd.iso (Kd.pair (Kd.int .i64) Kd.string) (fun x : S38 => (x.f0, x.f1))
theorem k38_open {w : World} {x : S38} {cs : List Value} (h : k38.K w x cs) : cs = [.int .i64 x.f0, .string x.f1] := by
 obtain ⟨_, _, rfl, rfl, rfl⟩ := h
 exact rfl
theorem k38_openM {w : World} {base : Nat} {ok : Nat → Prop} {x : S38} {cs : List Value} (h : k38.M w base ok x cs) : cs = [.int .i64 x.f0, .string x.f1] := by
 obtain ⟨_, _, rfl, rfl, rfl⟩ := h
 exact rfl
theorem k38_mk (w : World) (x : S38)  : k38.K w x [.int .i64 x.f0, .string x.f1] := ⟨[.int .i64 x.f0], [.string x.f1], rfl, rfl, rfl⟩
theorem k38_mkM (w : World) (base : Nat) (ok : Nat → Prop) (x : S38)  : k38.M w base ok x [.int .i64 x.f0, .string x.f1] := ⟨[.int .i64 x.f0], [.string x.f1], rfl, rfl, rfl⟩
def rd_T38 (xs : List S38) (i : Int) : S38 := xs.getD i.toNat z38
theorem at_T38 {w : World} {A : Option Addr} {n : Nat} {xs : List S38} (h : Kd.C k38 w A n xs) (i : Int) (h0 : 0 ≤ i) (h1 : i < n) : ∃ ad , A = some ad ∧ w.cell? (ad.add (i.toNat * 2)) = some (.int .i64 (rd_T38 xs i).f0) ∧ w.cell? ⟨(ad.add (i.toNat * 2)).block, (ad.add (i.toNat * 2)).off + 1, none⟩ = some (.string (rd_T38 xs i).f1) := by
 obtain ⟨ad, c, e, _, hK, hc0⟩ := Kd.C_get h z38 i h0 h1
 have hc : ∀ j u, c[j]? = some u → w.cell? (ad.add (i.toNat * 2 + j)) = some u := hc0
 obtain rfl := k38_open hK
 exact ⟨ad, e, hc 0 _ rfl, by rw [← add_field _ _ 1 (by omega)]; exact hc 1 _ rfl⟩
theorem eqA31 (d : Nat) (w : World) (x0 y0 : Int) (x1 y1 : Int) :
  (Op.equalIn (d + 2) 31 (.agg #[.int .i64 x0, .int .i64 x1]) (.agg #[.int .i64 y0, .int .i64 y1])).run prog w = .ok (x0 == y0 && (x1 == y1)) w := by
 refine eqA_of underlying31 (by kernel_rfl) ?_
 refine eqf_cons (by rfl) (by go_simp; rfl) (by go_simp; rfl) (by go_simp) ?_
 exact eqf_last (by rfl) (by go_simp; rfl) (by go_simp; rfl) (by go_simp)
theorem eqA38 (d : Nat) (w : World) (x0 y0 : Int) (x1 y1 : ByteArray) :
  (Op.equalIn (d + 2) 38 (.agg #[.int .i64 x0, .string x1]) (.agg #[.int .i64 y0, .string y1])).run prog w = .ok (x0 == y0 && (x1.toList == y1.toList)) w := by
 refine eqA_of underlying38 (by kernel_rfl) ?_
 refine eqf_cons (by rfl) (by go_simp; rfl) (by go_simp; rfl) (by go_simp) ?_
 exact eqf_last (by rfl) (by go_simp; rfl) (by go_simp; rfl) (by go_simp)
section
attribute [local go_sem high] eqA31
/-! ### laws_sameDesk: function 22 -/
mutual
def laws_sameDesk.j0 : Nat → Bool → Int → Int → List (S31) → Int → Int → List (S31) → Option (Bool)
 | 0, _, _, _, _, _, _, _ => none
 | k + 1, x0, x1, x2, x3, x4, x5, x6 => if x0 = true then (some false) else (laws_sameDesk.l0 k 0 x1 x2 x3 x4 x5 x6)
def laws_sameDesk.l0 : Nat → Int → Int → Int → List (S31) → Int → Int → List (S31) → Option (Bool)
 | 0, _, _, _, _, _, _, _ => none
 | k + 1, x5, x0, x1, x2, x3, x4, x6 => if x5 < (x2.length : Int) then (if 0 ≤ x5 then (if x5 < (x6.length : Int) then (if (!(((rd_T31 x2 x5).f0) == ((rd_T31 x6 x5).f0)) || (!(((rd_T31 x2 x5).f1) == ((rd_T31 x6 x5).f1)))) = true then (some false) else (laws_sameDesk.l0 k (wrap64 (x5 + 1)) x0 x1 x2 x3 x4 x6)) else (none)) else (none)) else (some true)
end
def laws_sameDesk.f (k : Nat) (a0_0 : Int) (a0_1 : Int) (l0_2 : List (S31)) (a1_0 : Int) (a1_1 : Int) (l1_2 : List (S31)) : Option (Bool) := if (!(a0_0 == a1_0) || (!(a0_1 == a1_1))) = true then (laws_sameDesk.j0 k true a0_0 a0_1 l0_2 a1_0 a1_1 l1_2) else (laws_sameDesk.j0 k ((l0_2.length : Int) != (l1_2.length : Int)) a0_0 a0_1 l0_2 a1_0 a1_1 l1_2)
abbrev laws_sameDesk.M (k : Nat) : Prop := (∀ y0 y1 y2 y3 y4 y5 y6, LeO (laws_sameDesk.j0 k y0 y1 y2 y3 y4 y5 y6) (laws_sameDesk.j0 (k + 1) y0 y1 y2 y3 y4 y5 y6)) ∧ (∀ y0 y1 y2 y3 y4 y5 y6, LeO (laws_sameDesk.l0 k y0 y1 y2 y3 y4 y5 y6) (laws_sameDesk.l0 (k + 1) y0 y1 y2 y3 y4 y5 y6))
theorem laws_sameDesk.mono_t : ∀ k, laws_sameDesk.M k → laws_sameDesk.M (k + 1) ∧ ∀ a0 a1 a2 a3 a4 a5, LeO (laws_sameDesk.f k a0 a1 a2 a3 a4 a5) (laws_sameDesk.f (k + 1) a0 a1 a2 a3 a4 a5) := by
  rintro k ⟨ih0, ih1⟩
  refine ⟨⟨?_, ?_⟩, ?_⟩ <;> intros <;> (first | unfold laws_sameDesk.j0 | unfold laws_sameDesk.l0 | unfold laws_sameDesk.f) <;> repeat' (with_reducible first | exact ih0 _ _ _ _ _ _ _ | exact ih1 _ _ _ _ _ _ _ | exact LeO.refl _ | exact LeO.none _ | refine LeO.ite ?_ ?_ | refine LeO.bind ?_ fun _ => ?_)
theorem laws_sameDesk.mono_l : ∀ k, laws_sameDesk.M k
 | 0 => ⟨fun _ _ _ _ _ _ _ r h => by simp [laws_sameDesk.j0] at h, fun _ _ _ _ _ _ _ r h => by simp [laws_sameDesk.l0] at h⟩
 | k + 1 => (laws_sameDesk.mono_t k (laws_sameDesk.mono_l k)).1
theorem laws_sameDesk.mono a0 a1 a2 a3 a4 a5 k : LeO (laws_sameDesk.f k a0 a1 a2 a3 a4 a5) (laws_sameDesk.f (k + 1) a0 a1 a2 a3 a4 a5) := (laws_sameDesk.mono_t k (laws_sameDesk.mono_l k)).2 a0 a1 a2 a3 a4 a5
theorem laws_sameDesk.calls (k : Nat) (a0_0 : Int) (a0_1 : Int) (A0_2 : Option Addr) (c0_2 : Nat) (l0_2 : List (S31)) (a1_0 : Int) (a1_1 : Int) (A1_2 : Option Addr) (c1_2 : Nat) (l1_2 : List (S31)) (r : Bool) (w : World) (hr0_2 : Kd.C k31 w A0_2 l0_2.length l0_2) (hc0_2 : l0_2.length ≤ c0_2) (hr1_2 : Kd.C k31 w A1_2 l1_2.length l1_2) (hc1_2 : l1_2.length ≤ c1_2) (H : laws_sameDesk.f k a0_0 a0_1 l0_2 a1_0 a1_1 l1_2 = some r) :
  Calls prog 22 #[.agg #[.int .i64 a0_0, .int .i64 a0_1, .slice A0_2 l0_2.length c0_2], .agg #[.int .i64 a1_0, .int .i64 a1_1, .slice A1_2 l1_2.length c1_2]] w fun e w' => e = .returned (.bool r) ∧ Below w.heap.size w w' := by
 have hu34 := underlying34
 have hu31 := underlying31
 have HR0_2 := sqa hr0_2
 have HC0_2 := sqa hc0_2
 clear hr0_2 hc0_2
 have HR1_2 := sqa hr1_2
 have HC1_2 := sqa hc1_2
 clear hr1_2 hc1_2
 have HB := sqh w
 unfold laws_sameDesk.f at H
 have HC3 := sqa H
 clear H
 go_enter func22, ntmps22
 go_upto_region 1 with (first | ((with_reducible refine sqd 2 rfl ?_); (try (refine gate_guard (by rfl) ?_; dsimp only)); refine sqBx w (sqB HB) (cs := #[.int .i64 a0_0, .int .i64 a0_1, .slice A0_2 l0_2.length c0_2]) (t := 34) ?_; intro g0 hg w4 B0 E0 HB hb; clear hb hg) | ((with_reducible refine sqd 3 rfl ?_); (try (refine gate_guard (by rfl) ?_; dsimp only)); refine sqBx w (sqB1 HB E0) (cs := #[.int .i64 a1_0, .int .i64 a1_1, .slice A1_2 l1_2.length c1_2]) (t := 34) ?_; intro g1 hg w5 B2 E1 HB hb; obtain ⟨N0, N1⟩ := sqM hg B0; replace B0 := sqT B0 hb; clear hb hg))
 repeat (go_quiet (first | ((with_reducible refine sqd 2 rfl ?_); (try (refine gate_guard (by rfl) ?_; dsimp only)); refine sqBx w (sqB HB) (cs := #[.int .i64 a0_0, .int .i64 a0_1, .slice A0_2 l0_2.length c0_2]) (t := 34) ?_; intro g0 hg w4 B0 E0 HB hb; clear hb hg) | ((with_reducible refine sqd 3 rfl ?_); (try (refine gate_guard (by rfl) ?_; dsimp only)); refine sqBx w (sqB1 HB E0) (cs := #[.int .i64 a1_0, .int .i64 a1_1, .slice A1_2 l1_2.length c1_2]) (t := 34) ?_; intro g1 hg w5 B2 E1 HB hb; obtain ⟨N0, N1⟩ := sqM hg B0; replace B0 := sqT B0 hb; clear hb hg)); go_upto_region 1 with (first | ((with_reducible refine sqd 2 rfl ?_); (try (refine gate_guard (by rfl) ?_; dsimp only)); refine sqBx w (sqB HB) (cs := #[.int .i64 a0_0, .int .i64 a0_1, .slice A0_2 l0_2.length c0_2]) (t := 34) ?_; intro g0 hg w4 B0 E0 HB hb; clear hb hg) | ((with_reducible refine sqd 3 rfl ?_); (try (refine gate_guard (by rfl) ?_; dsimp only)); refine sqBx w (sqB1 HB E0) (cs := #[.int .i64 a1_0, .int .i64 a1_1, .slice A1_2 l1_2.length c1_2]) (t := 34) ?_; intro g1 hg w5 B2 E1 HB hb; obtain ⟨N0, N1⟩ := sqM hg B0; replace B0 := sqT B0 hb; clear hb hg)))
 (try simp only [Act.put, List.setIfInBounds_toArray, List.set_cons_zero, List.set_cons_succ])
 go_cut [19] (fun v0 wc => ∃ (kq : Nat) (x0 : Bool), v0 = .bool x0 ∧ Aside0 (laws_sameDesk.j0 kq x0 a0_0 a0_1 l0_2 a1_0 a1_1 l1_2 = some r) ∧ Aside0 (kq ≤ k) ∧ Aside0 (wc.heap[g0]? = some (.cells #[.int .i64 a0_0, .int .i64 a0_1, (.slice A0_2 l0_2.length c0_2)] 34 (0, 0))) ∧ Aside0 (wc.heap[g1]? = some (.cells #[.int .i64 a1_0, .int .i64 a1_1, (.slice A1_2 l1_2.length c1_2)] 34 (0, 0))) ∧ Aside0 (Below w.heap.size w wc))
 case first =>
  have H := HC3.1
  clear HC3
  by_cases c6 : (!(a0_0 == a1_0) || (!(a0_1 == a1_1))) = true
  ·rw [if_pos c6] at H
   have c6b0 : (!(a0_0 == a1_0) || (!(a0_1 == a1_1))) = true := c6
   clear c6
   (first | rw [c6b0] | (simp only [i64_w, i32_w]; rw [c6b0]) | skip)
   have H' := sqa H
   clear H
   have := N0.1
   have := N1.1
   obtain ⟨_, _, _, _, _, _⟩ := sqY3 B0
   obtain ⟨_, _, _, _, _, _⟩ := sqY3 B2
   go_wp2
   repeat (go_quiet (fail); try go_wp2)
   go_meet
   case rel => exact ⟨_, (true), Z1, H', ⟨Z11⟩, ⟨sqK B0⟩, ⟨sqK B2⟩, ⟨sqB2 HB E0 E1⟩⟩
  rw [if_neg c6] at H
  have c6b0 : (!(a0_0 == a1_0) || (!(a0_1 == a1_1))) = false := by simpa using c6
  clear c6
  (first | rw [c6b0] | (simp only [i64_w, i32_w]; rw [c6b0]) | skip)
  have H' := sqa H
  clear H
  have := N0.1
  have := N1.1
  obtain ⟨_, _, _, _, _, _⟩ := sqY3 B0
  obtain ⟨_, _, _, _, _, _⟩ := sqY3 B2
  go_wp2
  repeat (go_quiet (fail); try go_wp2)
  go_meet
  case rel => exact ⟨_, (((l0_2.length : Int) != (l1_2.length : Int))), Z1, H', ⟨Z11⟩, ⟨sqK B0⟩, ⟨sqK B2⟩, ⟨sqB2 HB E0 E1⟩⟩
 case rest =>
  clear HC3
  obtain ⟨kq, x0, rfl, HA, HJ2, B0, B2, HB⟩ := hcut
  cases kq with
  | zero => exact absurd HA.out (by simp [laws_sameDesk.j0])
  | succ kj2 =>
   have H := HA.out
   clear HA
   simp only [laws_sameDesk.j0] at H
   by_cases c0 : x0 = true
   ·subst c0
    rw [if_pos rfl] at H
    obtain rfl := sqo H
    go_wp2
    repeat (go_quiet (fail); try go_wp2)
    go_ret
    exact ⟨Z5, sqB2 HB E0 E1⟩
   obtain rfl := sqb c0
   rw [if_neg sqF] at H
   have H' := sqa H
   clear H
   go_wp2
   repeat (go_quiet (fail); try go_wp2)
   go_loopg [5] kj2 (fun kq v5 w' => ∃ (x5_2 : Int), v5 = .int .i64 x5_2 ∧ Aside0 (laws_sameDesk.l0 kq x5_2 a0_0 a0_1 l0_2 a1_0 a1_1 l1_2 = some r) ∧ Aside0 (kq ≤ kj2) ∧ Aside0 (w'.heap[g0]? = some (.cells #[.int .i64 a0_0, .int .i64 a0_1, (.slice A0_2 l0_2.length c0_2)] 34 (0, 0))) ∧ Aside0 (w'.heap[g1]? = some (.cells #[.int .i64 a1_0, .int .i64 a1_1, (.slice A1_2 l1_2.length c1_2)] 34 (0, 0))) ∧ Aside0 (Below w.heap.size w w'))
   case atStart => exact ⟨(0), Z1, H', ⟨Nat.le_refl _⟩, ⟨sqK B0⟩, ⟨sqK B2⟩, ⟨sqB2 HB E0 E1⟩⟩
   case round =>
    clear H'
    obtain ⟨x5_2, rfl, HA, HK2, B0, B2, HB⟩ := hrel
    cases gk with
    | zero => exact absurd HA.out (by simp [laws_sameDesk.l0])
    | succ k2 =>
     have H := HA.out
     clear HA
     simp only [laws_sameDesk.l0] at H
     by_cases c1 : x5_2 < (l0_2.length : Int)
     ·rw [if_pos c1] at H
      have c2 : decide (x5_2 < (l0_2.length : Int)) = true := decide_eq_true c1
      clear c1
      obtain ⟨c3, H⟩ := sqI H
      have c4 : decide (0 ≤ x5_2) = true := decide_eq_true c3
      clear c3
      obtain ⟨c5, H⟩ := sqI H
      have c7 : decide (x5_2 < (l1_2.length : Int)) = true := decide_eq_true c5
      clear c5
      by_cases c8 : (!(((rd_T31 l0_2 x5_2).f0) == ((rd_T31 l1_2 x5_2).f0)) || (!(((rd_T31 l0_2 x5_2).f1) == ((rd_T31 l1_2 x5_2).f1)))) = true
      ·rw [if_pos c8] at H
       have c9 : (!(((rd_T31 l0_2 x5_2).f0) == ((rd_T31 l1_2 x5_2).f0)) || (!(((rd_T31 l0_2 x5_2).f1) == ((rd_T31 l1_2 x5_2).f1)))) = true := c8
       clear c8
       obtain rfl := sqo H
       have := N0.1
       have := N1.1
       obtain ⟨_, _, _, _, _, _⟩ := sqY3 B0
       have p0 : 0 ≤ (x5_2 : Int) := of_decide_eq_true Z16
       have q0 : x5_2 < (l0_2.length : Int) := of_decide_eq_true Z16
       obtain ⟨ad0, e0, hx0, hx1⟩ := at_T31 HR0_2.1 x5_2 p0 q0
       cases e0
       replace hx0 := (HB.1.cell (World.block_lt_of_cell? w _ hx0)).trans hx0
       replace hx1 := (HB.1.cell (World.block_lt_of_cell? w _ hx1)).trans hx1
       replace p0 := eq_true p0
       replace q0 := eq_true q0
       obtain ⟨_, _, _, _, _, _⟩ := sqY3 B2
       have p1 : 0 ≤ (x5_2 : Int) := of_decide_eq_true Z16
       have q1 : x5_2 < (l1_2.length : Int) := of_decide_eq_true Z16
       obtain ⟨ad1, e1, hx2, hx3⟩ := at_T31 HR1_2.1 x5_2 p1 q1
       cases e1
       replace hx2 := (HB.1.cell (World.block_lt_of_cell? w _ hx2)).trans hx2
       replace hx3 := (HB.1.cell (World.block_lt_of_cell? w _ hx3)).trans hx3
       replace p1 := eq_true p1
       replace q1 := eq_true q1
       go_wp2
       repeat (go_quiet (fail); try go_wp2)
       go_ret
       exact ⟨Z5, sqB2 HB E0 E1⟩
      rw [if_neg c8] at H
      have c9 : (!(((rd_T31 l0_2 x5_2).f0) == ((rd_T31 l1_2 x5_2).f0)) || (!(((rd_T31 l0_2 x5_2).f1) == ((rd_T31 l1_2 x5_2).f1)))) = false := by simpa using c8
      clear c8
      have H' := sqa H
      clear H
      have := N0.1
      have := N1.1
      obtain ⟨_, _, _, _, _, _⟩ := sqY3 B0
      have p0 : 0 ≤ (x5_2 : Int) := of_decide_eq_true Z16
      have q0 : x5_2 < (l0_2.length : Int) := of_decide_eq_true Z16
      obtain ⟨ad0, e0, hx0, hx1⟩ := at_T31 HR0_2.1 x5_2 p0 q0
      cases e0
      replace hx0 := (HB.1.cell (World.block_lt_of_cell? w _ hx0)).trans hx0
      replace hx1 := (HB.1.cell (World.block_lt_of_cell? w _ hx1)).trans hx1
      replace p0 := eq_true p0
      replace q0 := eq_true q0
      obtain ⟨_, _, _, _, _, _⟩ := sqY3 B2
      have p1 : 0 ≤ (x5_2 : Int) := of_decide_eq_true Z16
      have q1 : x5_2 < (l1_2.length : Int) := of_decide_eq_true Z16
      obtain ⟨ad1, e1, hx2, hx3⟩ := at_T31 HR1_2.1 x5_2 p1 q1
      cases e1
      replace hx2 := (HB.1.cell (World.block_lt_of_cell? w _ hx2)).trans hx2
      replace hx3 := (HB.1.cell (World.block_lt_of_cell? w _ hx3)).trans hx3
      replace p1 := eq_true p1
      replace q1 := eq_true q1
      go_wp2
      repeat (go_quiet (fail); try go_wp2)
      go_roundg k2
      case measure => have := HJ2.out; have := HK2.out; omega
      case rel => exact ⟨(wrap64 (x5_2 + 1)), Z1, H', ⟨by have := HJ2.out; have := HK2.out; omega⟩, ⟨sqK B0⟩, ⟨sqK B2⟩, ⟨sqB2 HB E0 E1⟩⟩
     rw [if_neg c1] at H
     have c2 : decide (x5_2 < (l0_2.length : Int)) = false := decide_eq_false c1
     clear c1
     obtain rfl := sqo H
     have := N0.1
     have := N1.1
     obtain ⟨_, _, _, _, _, _⟩ := sqY3 B0
     go_wp2
     repeat (go_quiet (fail); try go_wp2)
     go_ret
     exact ⟨Z5, sqB2 HB E0 E1⟩

/-! ### impl_isPart: function 116 -/
def impl_isPart.f (a0 : Int) : Option (Bool) := if a0 ≥ (-1000000) then (some (decide (a0 ≤ 1000000))) else (some false)
theorem impl_isPart.calls (a0 : Int) (r : Bool) (w : World) (H : impl_isPart.f a0 = some r) :
  Calls prog 116 #[.int .i64 a0] w fun e w' => e = .returned (.bool r) ∧ Drawn0 w w' := by
 unfold impl_isPart.f at H
 by_cases c2 : a0 ≥ (-1000000)
 ·rw [if_pos c2] at H
  have c2b0 : decide ((-1000000) ≤ a0) = true := decide_eq_true c2
  clear c2
  obtain rfl := sqo H
  go_enter func116, ntmps116
  go_wp2
  go_ret
  exact ⟨Z1, Z15⟩
 rw [if_neg c2] at H
 have c2b0 : decide ((-1000000) ≤ a0) = false := decide_eq_false c2
 clear c2
 obtain rfl := sqo H
 go_enter func116, ntmps116
 go_wp2
 go_ret
 exact ⟨Z1, Z15⟩

/-! ### impl_gcd: function 117 -/
def impl_gcd.l0 : Nat → Int → Int → Option (Int)
 | 0, _, _ => none
 | k + 1, x0, x1 => if x1 = 0 then (some (mx x0 (wrap64 (-x0)))) else (impl_gcd.l0 k x1 (Int.tmod x0 x1))
def impl_gcd.f (k : Nat) (a0 : Int) (a1 : Int) : Option (Int) := impl_gcd.l0 k a0 a1
abbrev impl_gcd.M (k : Nat) : Prop := (∀ y0 y1, LeO (impl_gcd.l0 k y0 y1) (impl_gcd.l0 (k + 1) y0 y1))
theorem impl_gcd.mono_t : ∀ k, impl_gcd.M k → impl_gcd.M (k + 1) ∧ ∀ a0 a1, LeO (impl_gcd.f k a0 a1) (impl_gcd.f (k + 1) a0 a1) := by
  rintro k ih0
  refine ⟨?_, ?_⟩ <;> (try unfold impl_gcd.M) <;> intros <;> (first | unfold impl_gcd.l0 | unfold impl_gcd.f) <;> repeat' (with_reducible first | exact ih0 _ _ | exact LeO.refl _ | exact LeO.none _ | refine LeO.ite ?_ ?_ | refine LeO.bind ?_ fun _ => ?_)
theorem impl_gcd.mono_l : ∀ k, impl_gcd.M k
 | 0 => fun _ _ r h => by simp [impl_gcd.l0] at h
 | k + 1 => (impl_gcd.mono_t k (impl_gcd.mono_l k)).1
theorem impl_gcd.mono a0 a1 k : LeO (impl_gcd.f k a0 a1) (impl_gcd.f (k + 1) a0 a1) := (impl_gcd.mono_t k (impl_gcd.mono_l k)).2 a0 a1
theorem impl_gcd.calls (k : Nat) (a0 : Int) (a1 : Int) (r : Int) (w : World) (H : impl_gcd.f k a0 a1 = some r) :
  Calls prog 117 #[.int .i64 a0, .int .i64 a1] w fun e w' => e = .returned (.int .i64 r) ∧ Below w.heap.size w w' := by
 have HB := sqh w
 unfold impl_gcd.f at H
 have H' := sqa H
 clear H
 go_enter func117, ntmps117
 go_wp2
 repeat (go_quiet (fail); try go_wp2)
 go_loopg [0, 1] k (fun kq v0 v1 w' => ∃ (x0_1 : Int) (x1_1 : Int), v0 = .int .i64 x0_1 ∧ v1 = .int .i64 x1_1 ∧ Aside0 (impl_gcd.l0 kq x0_1 x1_1 = some r) ∧ Aside0 (kq ≤ k) ∧ Aside0 (Below w.heap.size w w'))
 case atStart => exact ⟨(a0), (a1), Z1, Z1, H', ⟨Nat.le_refl _⟩, ⟨sqB HB⟩⟩
 case round =>
  clear H'
  obtain ⟨x0_1, x1_1, rfl, rfl, HA, HK1, HB⟩ := hrel
  cases gk with
  | zero => exact absurd HA.out (by simp [impl_gcd.l0])
  | succ k1 =>
   have H := HA.out
   clear HA
   simp only [impl_gcd.l0] at H
   by_cases c3 : x1_1 = 0
   ·rw [if_pos c3] at H
    have c3b0 : (x1_1 == 0) = true := sqe1 c3
    have c3b1 : (x1_1 != 0) = false := sqn0 c3
    clear c3
    obtain ⟨ji4, hji4⟩ : ∃ j_ : Int, (mx x0_1 (wrap64 (-x0_1))) = j_ := ⟨_, rfl⟩
    replace H : (some ji4) = some r := by first | (rw [hji4] at H; exact H) | (simp only [hji4] at H ⊢; exact H)
    have hji4_ : (if x0_1 < (wrap64 (-x0_1)) then (wrap64 (-x0_1)) else x0_1) = ji4 := hji4
    obtain rfl := sqo H
    go_wp2
    repeat (go_quiet (fail); try go_wp2)
    go_ret
    exact ⟨by first | rfl | (simp [errP_none, errP_some] <;> rfl) | (simp only [← hji4]; first | rfl | (simp [errP_none, errP_some] <;> rfl)) | (simp [*, errP_none, errP_some] <;> rfl), sqB HB⟩
   rw [if_neg c3] at H
   have c3b0 : (x1_1 == 0) = false := sqe0 c3
   have c3b1 : (x1_1 != 0) = true := sqn1 c3
   have H' := sqa H
   clear H
   go_wp2
   repeat (go_quiet (fail); try go_wp2)
   go_roundg k1
   case measure => have := HK1.out; omega
   case rel => exact ⟨(x1_1), (Int.tmod x0_1 x1_1), Z1, Z1, H', ⟨Z2 HK1⟩, ⟨sqB HB⟩⟩

/-! ### impl_isFraction: function 70 -/
def impl_isFraction.f (k : Nat) (a0_0 : Int) (a0_1 : Int) : Option (Bool) := (impl_isPart.f a0_0).bind fun t0 => (if t0 = true then (if a0_1 < 0 then (some false) else (if a0_1 > 1000000 then (some false) else (if a0_1 = 0 then (if a0_0 = 1 then ((impl_gcd.f k a0_0 a0_1).bind fun t1 => (some (t1 == 1))) else (some false)) else ((impl_gcd.f k a0_0 a0_1).bind fun t2 => (some (t2 == 1)))))) else (some false))
theorem impl_isFraction.mono : ∀ a0 a1 k, LeO (impl_isFraction.f k a0 a1) (impl_isFraction.f (k + 1) a0 a1) := by
 intro a0 a1 k
 unfold impl_isFraction.f
 repeat' (with_reducible first | exact impl_gcd.mono _ _ _ | exact LeO.refl _ | exact LeO.none _ | refine LeO.ite ?_ ?_ | refine LeO.bind ?_ fun _ => ?_)
theorem impl_isFraction.calls (k : Nat) (a0_0 : Int) (a0_1 : Int) (r : Bool) (w : World) (H : impl_isFraction.f k a0_0 a0_1 = some r) :
  Calls prog 70 #[.agg #[.int .i64 a0_0, .int .i64 a0_1]] w fun e w' => e = .returned (.bool r) ∧ Below w.heap.size w w' := by
 have hu31 := underlying31
 have HB := sqh w
 unfold impl_isFraction.f at H
 obtain ⟨t0, A2, H⟩ := sqD H
 by_cases c3 : t0 = true
 ·subst c3
  rw [if_pos rfl] at H
  by_cases c4 : a0_1 < 0
  ·rw [if_pos c4] at H
   have c4b0 : decide (a0_1 < 0) = true := decide_eq_true c4
   clear c4
   obtain rfl := sqo H
   go_enter func70, ntmps70
   go_wp2_with (first | ((with_reducible refine sqd 1 rfl ?_); refine sqBx w (sqB HB) (cs := #[.int .i64 a0_0, .int .i64 a0_1]) (t := 31) ?_; intro g0 hg w5 B0 E0 HB hb; clear hb hg; obtain ⟨_, _, _, _⟩ := sqY2 B0) | ((with_reducible refine sqc 116 rfl ?_); refine sqC (some 5) func116 #[.int .i64 a0_0] ?_; (with_reducible refine (impl_isPart.calls a0_0 true _ A2.1).mono ?_); rintro e w' ⟨rfl, ⟨nd, rfl⟩⟩; refine ⟨_, rfl, ?_⟩))
   go_ret
   exact ⟨Z5, sqB1 HB E0⟩
  rw [if_neg c4] at H
  have c4b0 : decide (a0_1 < 0) = false := decide_eq_false c4
  clear c4
  by_cases c7 : a0_1 > 1000000
  ·rw [if_pos c7] at H
   have c7b0 : decide (1000000 < a0_1) = true := decide_eq_true c7
   clear c7
   obtain rfl := sqo H
   go_enter func70, ntmps70
   go_wp2_with (first | ((with_reducible refine sqd 1 rfl ?_); refine sqBx w (sqB HB) (cs := #[.int .i64 a0_0, .int .i64 a0_1]) (t := 31) ?_; intro g0 hg w8 B0 E0 HB hb; clear hb hg; obtain ⟨_, _, _, _⟩ := sqY2 B0) | ((with_reducible refine sqc 116 rfl ?_); refine sqC (some 5) func116 #[.int .i64 a0_0] ?_; (with_reducible refine (impl_isPart.calls a0_0 true _ A2.1).mono ?_); rintro e w' ⟨rfl, ⟨nd, rfl⟩⟩; refine ⟨_, rfl, ?_⟩))
   go_ret
   exact ⟨Z5, sqB1 HB E0⟩
  rw [if_neg c7] at H
  have c7b0 : decide (1000000 < a0_1) = false := decide_eq_false c7
  clear c7
  by_cases c10 : a0_1 = 0
  ·rw [if_pos c10] at H
   have c0 := sqe1 c10
   have c1 := sqn0 c10
   clear c10
   by_cases c2 : a0_0 = 1
   ·rw [if_pos c2] at H
    have c5 := sqe1 c2
    have c6 := sqn0 c2
    clear c2
    obtain ⟨t1, A0, H⟩ := sqD H
    obtain rfl := sqo H
    go_enter func70, ntmps70
    go_wp2_with (first | ((with_reducible refine sqd 1 rfl ?_); refine sqBx w (sqB HB) (cs := #[.int .i64 a0_0, .int .i64 a0_1]) (t := 31) ?_; intro g0 hg w0 B0 E0 HB hb; clear hb hg; obtain ⟨_, _, _, _⟩ := sqY2 B0) | ((with_reducible refine sqc 116 rfl ?_); refine sqC (some 5) func116 #[.int .i64 a0_0] ?_; (with_reducible refine (impl_isPart.calls a0_0 true _ A2.1).mono ?_); rintro e w' ⟨rfl, ⟨nd, rfl⟩⟩; refine ⟨_, rfl, ?_⟩) | ((with_reducible refine sqc 117 rfl ?_); refine sqC (some 31) func117 #[.int .i64 a0_0, .int .i64 a0_1] ?_; (with_reducible refine (impl_gcd.calls k a0_0 a0_1 t1 _ A0.1).mono ?_); refine sqV fun w1 hb => ?_; replace B0 := sqT B0 hb; replace HB := sqS (sqB1 HB E0) hb))
    go_ret
    exact ⟨Z5, sqB1 HB E0⟩
   rw [if_neg c2] at H
   have c5 := sqe0 c2
   have c6 := sqn1 c2
   obtain rfl := sqo H
   go_enter func70, ntmps70
   go_wp2_with (first | ((with_reducible refine sqd 1 rfl ?_); refine sqBx w (sqB HB) (cs := #[.int .i64 a0_0, .int .i64 a0_1]) (t := 31) ?_; intro g0 hg w2 B0 E0 HB hb; clear hb hg; obtain ⟨_, _, _, _⟩ := sqY2 B0) | ((with_reducible refine sqc 116 rfl ?_); refine sqC (some 5) func116 #[.int .i64 a0_0] ?_; (with_reducible refine (impl_isPart.calls a0_0 true _ A2.1).mono ?_); rintro e w' ⟨rfl, ⟨nd, rfl⟩⟩; refine ⟨_, rfl, ?_⟩))
   go_ret
   exact ⟨Z5, sqB1 HB E0⟩
  rw [if_neg c10] at H
  have c0 := sqe0 c10
  have c1 := sqn1 c10
  obtain ⟨t2, A1, H⟩ := sqD H
  obtain rfl := sqo H
  go_enter func70, ntmps70
  go_wp2_with (first | ((with_reducible refine sqd 1 rfl ?_); refine sqBx w (sqB HB) (cs := #[.int .i64 a0_0, .int .i64 a0_1]) (t := 31) ?_; intro g0 hg w3 B0 E0 HB hb; clear hb hg; obtain ⟨_, _, _, _⟩ := sqY2 B0) | ((with_reducible refine sqc 116 rfl ?_); refine sqC (some 5) func116 #[.int .i64 a0_0] ?_; (with_reducible refine (impl_isPart.calls a0_0 true _ A2.1).mono ?_); rintro e w' ⟨rfl, ⟨nd, rfl⟩⟩; refine ⟨_, rfl, ?_⟩) | ((with_reducible refine sqc 117 rfl ?_); refine sqC (some 31) func117 #[.int .i64 a0_0, .int .i64 a0_1] ?_; (with_reducible refine (impl_gcd.calls k a0_0 a0_1 t2 _ A1.1).mono ?_); refine sqV fun w4 hb => ?_; replace B0 := sqT B0 hb; replace HB := sqS (sqB1 HB E0) hb))
  go_ret
  exact ⟨Z5, sqB1 HB E0⟩
 obtain rfl := sqb c3
 rw [if_neg sqF] at H
 obtain rfl := sqo H
 go_enter func70, ntmps70
 go_wp2_with (first | ((with_reducible refine sqd 1 rfl ?_); refine sqBx w (sqB HB) (cs := #[.int .i64 a0_0, .int .i64 a0_1]) (t := 31) ?_; intro g0 hg w6 B0 E0 HB hb; clear hb hg; obtain ⟨_, _, _, _⟩ := sqY2 B0) | ((with_reducible refine sqc 116 rfl ?_); refine sqC (some 5) func116 #[.int .i64 a0_0] ?_; (with_reducible refine (impl_isPart.calls a0_0 false _ A2.1).mono ?_); rintro e w' ⟨rfl, ⟨nd, rfl⟩⟩; refine ⟨_, rfl, ?_⟩))
 go_ret
 exact ⟨Z5, sqB1 HB E0⟩

/-! ### impl_isDesk_1: function 110 -/
def impl_isDesk_1.f (k : Nat) (a0_0 : Int) (a0_1 : Int) : Option (Bool) := (impl_isFraction.f k a0_0 a0_1).bind fun t0 => (some (!t0))
theorem impl_isDesk_1.mono : ∀ a0 a1 k, LeO (impl_isDesk_1.f k a0 a1) (impl_isDesk_1.f (k + 1) a0 a1) := by
 intro a0 a1 k
 unfold impl_isDesk_1.f
 repeat' (with_reducible first | exact impl_isFraction.mono _ _ _ | exact LeO.refl _ | exact LeO.none _ | refine LeO.ite ?_ ?_ | refine LeO.bind ?_ fun _ => ?_)
theorem impl_isDesk_1.calls (k : Nat) (a0_0 : Int) (a0_1 : Int) (r : Bool) (w : World) (H : impl_isDesk_1.f k a0_0 a0_1 = some r) :
  Calls prog 110 #[.agg #[.int .i64 a0_0, .int .i64 a0_1]] w fun e w' => e = .returned (.bool r) ∧ Below w.heap.size w w' := by
 have hu31 := underlying31
 have HB := sqh w
 unfold impl_isDesk_1.f at H
 obtain ⟨t0, A2, H⟩ := sqD H
 obtain rfl := sqo H
 go_enter func110, ntmps110
 go_wp2_with (first | ((with_reducible refine sqd 1 rfl ?_); refine sqBx w (sqB HB) (cs := #[.int .i64 a0_0, .int .i64 a0_1]) (t := 31) ?_; intro g0 hg w3 B0 E0 HB hb; clear hb hg; obtain ⟨_, _, _, _⟩ := sqY2 B0) | ((with_reducible refine sqc 70 rfl ?_); refine sqC (some 4) func70 #[.agg #[.int .i64 a0_0, .int .i64 a0_1]] ?_; (with_reducible refine (impl_isFraction.calls k a0_0 a0_1 t0 _ A2.1).mono ?_); refine sqV fun w5 hb => ?_; replace B0 := sqT B0 hb; replace HB := sqS (sqB1 HB E0) hb))
 go_ret
 exact ⟨Z5, sqB1 HB E0⟩

/-! ### impl_Fraction_137: function 137 -/
section
theorem gate_dyn {P : Program} {ops : Array Oper} {rest : List Oper} {o : Oper} {a : Act} {Q : Exit → Act → World → Prop} {W : World} {t : Tmp} {zs : Array Operand} {ts : Array TypeId} (_ho : o.op = .call { callee := .value (.tmp t), args := zs, argTypes := ts }) (h : wpList P ops Q (o :: rest) a W) : wpList P ops Q (o :: rest) a W := h
/-- A call of a function value that stands in a temporary: after the words' goesL_. -/
theorem goesV_ {P : Program} {ops : Array Oper} {Q : Exit → Act → World → Prop} {rest : List Oper} {oi : Oper} {a : Act} {w : World} (N : Option Tmp) (hd : oi.dst = N) (hg : oi.guard = none) {f : FuncId} {fn : Func} {t : Tmp} {zs : Array Operand} {ts : Array TypeId} (hf : P.funcs[f]? = some fn) (hname : (fn.name == "runtime.NumGoroutine") = false) (hb : fn.body.isSome = true) (args : Array Value)
  (hop : oi.op = .call { callee := .value (.tmp t), args := zs, argTypes := ts }) (hev : a.eval (.tmp t) = .func (.func f) #[] #[]) (hargs : zs.map a.eval = args)
  (h : Calls P f args w fun e w' => ∃ v, e = .returned v ∧ wpList P ops Q rest (a.put N v) w') : wpList P ops Q (oi :: rest) a w := by
 refine wpList_plain hg fun K hK => ?_
 have he := enters_ hf hname hb args w
 have hrun : (execOp a.eval oi).run P w = .ok (.enter f args) w := by
  unfold execOp
  simp [hop, resolve, Deferred.ofValue, invoke, hev, hargs, he]
 unfold Oper.wp
 rw [hrun, Oper.upon_enter]
 refine h.mono fun e w'' hh => ?_
 obtain ⟨v, rfl, hk⟩ := hh
 subst hd
 exact hK _ _ hk
end
def impl_Fraction_137.l0 : Nat → List (S31) → Int → Int → Option (Int)
 | 0, _, _, _ => none
 | k + 1, x0, x7, x8 => if x8 < x7 then (if 0 ≤ x8 then (if x8 < (x0.length : Int) then ((impl_isDesk_1.f k ((rd_T31 x0 x8).f0) ((rd_T31 x0 x8).f1)).bind fun t0 => (if t0 = true then (some x8) else (impl_Fraction_137.l0 k x0 x7 (wrap64 (x8 + 1))))) else (none)) else (none)) else (some (-1))
def impl_Fraction_137.f (k : Nat) (l0 : List (S31)) (a1 : Int) : Option (Int) := impl_Fraction_137.l0 k l0 (l0.length : Int) 0
abbrev impl_Fraction_137.M (k : Nat) : Prop := (∀ y0 y1 y2, LeO (impl_Fraction_137.l0 k y0 y1 y2) (impl_Fraction_137.l0 (k + 1) y0 y1 y2))
theorem impl_Fraction_137.mono_t : ∀ k, impl_Fraction_137.M k → impl_Fraction_137.M (k + 1) ∧ ∀ a0 a1, LeO (impl_Fraction_137.f k a0 a1) (impl_Fraction_137.f (k + 1) a0 a1) := by
  rintro k ih0
  refine ⟨?_, ?_⟩ <;> (try unfold impl_Fraction_137.M) <;> intros <;> (first | unfold impl_Fraction_137.l0 | unfold impl_Fraction_137.f) <;> repeat' (with_reducible first | exact ih0 _ _ _ | exact impl_isDesk_1.mono _ _ _ | exact LeO.refl _ | exact LeO.none _ | refine LeO.ite ?_ ?_ | refine LeO.bind ?_ fun _ => ?_)
theorem impl_Fraction_137.mono_l : ∀ k, impl_Fraction_137.M k
 | 0 => fun _ _ _ r h => by simp [impl_Fraction_137.l0] at h
 | k + 1 => (impl_Fraction_137.mono_t k (impl_Fraction_137.mono_l k)).1
theorem impl_Fraction_137.mono a0 a1 k : LeO (impl_Fraction_137.f k a0 a1) (impl_Fraction_137.f (k + 1) a0 a1) := (impl_Fraction_137.mono_t k (impl_Fraction_137.mono_l k)).2 a0 a1
theorem impl_Fraction_137.calls (k : Nat) (A0 : Option Addr) (c0 : Nat) (l0 : List (S31)) (a1 : Int) (r : Int) (w : World) (hr0 : Kd.C k31 w A0 l0.length l0) (hc0 : l0.length ≤ c0) (H : impl_Fraction_137.f k l0 a1 = some r) :
  Calls prog 137 #[.slice A0 l0.length c0, .func (.func 110) #[] #[]] w fun e w' => e = .returned (.int .i64 r) ∧ Below w.heap.size w w' := by
 have hu31 := underlying31
 have HR0 := sqa hr0
 have HC0 := sqa hc0
 clear hr0 hc0
 have HB := sqh w
 unfold impl_Fraction_137.f at H
 have H' := sqa H
 clear H
 go_enter func137, ntmps137
 go_wp2
 go_loopg [8] k (fun kq v8 w' => ∃ (x8_1 : Int), v8 = .int .i64 x8_1 ∧ Aside0 (impl_Fraction_137.l0 kq l0 (l0.length : Int) x8_1 = some r) ∧ Aside0 (kq ≤ k) ∧ Aside0 (Below w.heap.size w w'))
 case atStart => exact ⟨(0), Z1, H', ⟨Nat.le_refl _⟩, ⟨sqB HB⟩⟩
 case round =>
  clear H'
  obtain ⟨x8_1, rfl, HA, HK1, HB⟩ := hrel
  cases gk with
  | zero => exact absurd HA.out (by simp [impl_Fraction_137.l0])
  | succ k1 =>
   have H := HA.out
   clear HA
   simp only [impl_Fraction_137.l0] at H
   by_cases c3 : x8_1 < (l0.length : Int)
   ·rw [if_pos c3] at H
    have c3b0 : decide (x8_1 < (l0.length : Int)) = true := decide_eq_true c3
    clear c3
    obtain ⟨c4, H⟩ := sqI H
    have c4b0 : decide (0 ≤ x8_1) = true := decide_eq_true c4
    clear c4
    obtain ⟨c5, H⟩ := sqI H
    have c5b0 : decide (x8_1 < (l0.length : Int)) = true := decide_eq_true c5
    clear c5
    obtain ⟨t0, A6, H⟩ := sqD H
    by_cases c7 : t0 = true
    ·subst c7
     rw [if_pos rfl] at H
     obtain rfl := sqo H
     have p0 : 0 ≤ (x8_1 : Int) := of_decide_eq_true Z16
     have q0 : x8_1 < (l0.length : Int) := of_decide_eq_true Z16
     obtain ⟨ad0, e0, hx0, hx1⟩ := at_T31 HR0.1 x8_1 p0 q0
     cases e0
     replace hx0 := (HB.1.cell (World.block_lt_of_cell? w _ hx0)).trans hx0
     replace hx1 := (HB.1.cell (World.block_lt_of_cell? w _ hx1)).trans hx1
     replace p0 := eq_true p0
     replace q0 := eq_true q0
     go_wp2_with (first | ((with_reducible refine gate_dyn rfl ?_); refine goesV_ (some 16) rfl rfl func110 (by kernel_rfl) rfl #[.agg #[.int .i64 ((rd_T31 l0 x8_1).f0), .int .i64 ((rd_T31 l0 x8_1).f1)]] rfl (by rfl) sqA ?_; (with_reducible refine (impl_isDesk_1.calls k1 ((rd_T31 l0 x8_1).f0) ((rd_T31 l0 x8_1).f1) true _ A6.1).mono ?_); refine sqV fun w8 hb => ?_; replace HB := sqS (sqB HB) hb))
     go_ret
     exact ⟨Z5, sqB HB⟩
    obtain rfl := sqb c7
    rw [if_neg sqF] at H
    have H' := sqa H
    clear H
    have p0 : 0 ≤ (x8_1 : Int) := of_decide_eq_true Z16
    have q0 : x8_1 < (l0.length : Int) := of_decide_eq_true Z16
    obtain ⟨ad0, e0, hx0, hx1⟩ := at_T31 HR0.1 x8_1 p0 q0
    cases e0
    replace hx0 := (HB.1.cell (World.block_lt_of_cell? w _ hx0)).trans hx0
    replace hx1 := (HB.1.cell (World.block_lt_of_cell? w _ hx1)).trans hx1
    replace p0 := eq_true p0
    replace q0 := eq_true q0
    go_wp2_with (first | ((with_reducible refine gate_dyn rfl ?_); refine goesV_ (some 16) rfl rfl func110 (by kernel_rfl) rfl #[.agg #[.int .i64 ((rd_T31 l0 x8_1).f0), .int .i64 ((rd_T31 l0 x8_1).f1)]] rfl (by rfl) sqA ?_; (with_reducible refine (impl_isDesk_1.calls k1 ((rd_T31 l0 x8_1).f0) ((rd_T31 l0 x8_1).f1) false _ A6.1).mono ?_); refine sqV fun w9 hb => ?_; replace HB := sqS (sqB HB) hb))
    go_roundg k1
    case measure => have := HK1.out; omega
    case rel => exact ⟨(wrap64 (x8_1 + 1)), Z1, H', ⟨Z2 HK1⟩, ⟨sqB HB⟩⟩
   rw [if_neg c3] at H
   have c3b0 : decide (x8_1 < (l0.length : Int)) = false := decide_eq_false c3
   clear c3
   obtain rfl := sqo H
   go_wp2
   go_ret
   exact ⟨Z5, sqB HB⟩

/-! ### impl_Fraction_109: function 109 -/
def impl_Fraction_109.f (k : Nat) (l0 : List (S31)) (a1 : Int) : Option (Bool) := (impl_Fraction_137.f k l0 a1).bind fun t0 => (some (decide (t0 ≥ 0)))
theorem impl_Fraction_109.mono : ∀ a0 a1 k, LeO (impl_Fraction_109.f k a0 a1) (impl_Fraction_109.f (k + 1) a0 a1) := by
 intro a0 a1 k
 unfold impl_Fraction_109.f
 repeat' (with_reducible first | exact impl_Fraction_137.mono _ _ _ | exact LeO.refl _ | exact LeO.none _ | refine LeO.ite ?_ ?_ | refine LeO.bind ?_ fun _ => ?_)
theorem impl_Fraction_109.calls (k : Nat) (A0 : Option Addr) (c0 : Nat) (l0 : List (S31)) (a1 : Int) (r : Bool) (w : World) (hr0 : Kd.C k31 w A0 l0.length l0) (hc0 : l0.length ≤ c0) (H : impl_Fraction_109.f k l0 a1 = some r) :
  Calls prog 109 #[.slice A0 l0.length c0, .func (.func 110) #[] #[]] w fun e w' => e = .returned (.bool r) ∧ Below w.heap.size w w' := by
 have HR0 := sqa hr0
 have HC0 := sqa hc0
 clear hr0 hc0
 have HB := sqh w
 unfold impl_Fraction_109.f at H
 obtain ⟨t0, A3, H⟩ := sqD H
 obtain rfl := sqo H
 go_enter func109, ntmps109
 go_wp2_with (first | ((with_reducible refine sqc 137 rfl ?_); refine sqC (some 7) func137 #[.slice A0 l0.length c0, .func (.func 110) #[] #[]] ?_; (with_reducible refine (impl_Fraction_137.calls k _ _ l0 a1 t0 _ ?side1 ?side2 A3.1).mono ?_); (case side1 => exact Z88 HR0); (case side2 => exact HC0.1); refine sqV fun w4 hb => ?_; replace HB := sqS (sqB HB) hb))
 go_ret
 exact ⟨Z5, sqB HB⟩

/-! ### impl_isDesk: function 60 -/
def impl_isDesk.f (k : Nat) (a0_0 : Int) (a0_1 : Int) (l0_2 : List (S31)) : Option (Bool) := (impl_isFraction.f k a0_0 a0_1).bind fun t0 => (if t0 = true then (if (l0_2.length : Int) ≤ 8 then ((impl_Fraction_109.f k l0_2 777777).bind fun t116 => (some (!t116))) else (some false)) else (some false))
theorem impl_isDesk.mono : ∀ a0 a1 a2 k, LeO (impl_isDesk.f k a0 a1 a2) (impl_isDesk.f (k + 1) a0 a1 a2) := by
 intro a0 a1 a2 k
 unfold impl_isDesk.f
 repeat' (with_reducible first | exact impl_Fraction_109.mono _ _ _ | exact impl_isFraction.mono _ _ _ | exact LeO.refl _ | exact LeO.none _ | refine LeO.ite ?_ ?_ | refine LeO.bind ?_ fun _ => ?_)
theorem impl_isDesk.calls (k : Nat) (a0_0 : Int) (a0_1 : Int) (A0_2 : Option Addr) (c0_2 : Nat) (l0_2 : List (S31)) (r : Bool) (w : World) (hr0_2 : Kd.C k31 w A0_2 l0_2.length l0_2) (hc0_2 : l0_2.length ≤ c0_2) (H : impl_isDesk.f k a0_0 a0_1 l0_2 = some r) :
  Calls prog 60 #[.agg #[.int .i64 a0_0, .int .i64 a0_1, .slice A0_2 l0_2.length c0_2]] w fun e w' => e = .returned (.bool r) ∧ Below w.heap.size w w' := by
 have hu34 := underlying34
 have hu31 := underlying31
 have HR0_2 := sqa hr0_2
 have HC0_2 := sqa hc0_2
 clear hr0_2 hc0_2
 have HB := sqh w
 unfold impl_isDesk.f at H
 obtain ⟨t0, A2, H⟩ := sqD H
 by_cases c3 : t0 = true
 ·subst c3
  rw [if_pos rfl] at H
  by_cases c4 : (l0_2.length : Int) ≤ 8
  ·rw [if_pos c4] at H
   have c4b0 : decide ((l0_2.length : Int) ≤ 8) = true := decide_eq_true c4
   have c4b1 : decide (l0_2.length ≤ 8) = true := decide_eq_true (by omega)
   clear c4
   obtain ⟨t116, A5, H⟩ := sqD H
   obtain rfl := sqo H
   go_enter func60, ntmps60
   go_wp2_with (first | ((with_reducible refine sqd 1 rfl ?_); (try (refine gate_guard (by rfl) ?_; dsimp only)); refine sqBx w (sqB HB) (cs := #[.int .i64 a0_0, .int .i64 a0_1, .slice A0_2 l0_2.length c0_2]) (t := 34) ?_; intro g0 hg w6 B0 E0 HB hb; clear hb hg; obtain ⟨_, _, _, _, _, _⟩ := sqY3 B0) | ((with_reducible refine sqc 70 rfl ?_); refine sqC (some 5) func70 #[.agg #[.int .i64 a0_0, .int .i64 a0_1]] ?_; (with_reducible refine (impl_isFraction.calls k a0_0 a0_1 true _ A2.1).mono ?_); refine sqV fun w8 hb => ?_; replace B0 := sqT B0 hb; replace HB := sqS (sqB1 HB E0) hb; obtain ⟨_, _, _, _, _, _⟩ := sqY3 B0) | (go_at_call 109; (with_reducible refine (impl_Fraction_109.calls k _ _ l0_2 777777 t116 _ ?side1 ?side2 A5.1).mono ?_); (case side1 => exact Z34); (case side2 => exact Z35); rintro e w0 ⟨rfl, hb⟩; replace B0 := sqT B0 hb; replace HB := sqS (sqB1 HB E0) hb))
   go_ret
   exact ⟨Z5, sqB1 HB E0⟩
  rw [if_neg c4] at H
  have c4b0 : decide ((l0_2.length : Int) ≤ 8) = false := decide_eq_false c4
  have c4b1 : decide (l0_2.length ≤ 8) = false := decide_eq_false (by omega)
  clear c4
  obtain rfl := sqo H
  go_enter func60, ntmps60
  go_wp2_with (first | ((with_reducible refine sqd 1 rfl ?_); (try (refine gate_guard (by rfl) ?_; dsimp only)); refine sqBx w (sqB HB) (cs := #[.int .i64 a0_0, .int .i64 a0_1, .slice A0_2 l0_2.length c0_2]) (t := 34) ?_; intro g0 hg w1 B0 E0 HB hb; clear hb hg; obtain ⟨_, _, _, _, _, _⟩ := sqY3 B0) | ((with_reducible refine sqc 70 rfl ?_); refine sqC (some 5) func70 #[.agg #[.int .i64 a0_0, .int .i64 a0_1]] ?_; (with_reducible refine (impl_isFraction.calls k a0_0 a0_1 true _ A2.1).mono ?_); refine sqV fun w2 hb => ?_; replace B0 := sqT B0 hb; replace HB := sqS (sqB1 HB E0) hb; obtain ⟨_, _, _, _, _, _⟩ := sqY3 B0))
  go_ret
  exact ⟨Z5, sqB1 HB E0⟩
 obtain rfl := sqb c3
 rw [if_neg sqF] at H
 obtain rfl := sqo H
 go_enter func60, ntmps60
 go_wp2_with (first | ((with_reducible refine sqd 1 rfl ?_); (try (refine gate_guard (by rfl) ?_; dsimp only)); refine sqBx w (sqB HB) (cs := #[.int .i64 a0_0, .int .i64 a0_1, .slice A0_2 l0_2.length c0_2]) (t := 34) ?_; intro g0 hg w3 B0 E0 HB hb; clear hb hg; obtain ⟨_, _, _, _, _, _⟩ := sqY3 B0) | ((with_reducible refine sqc 70 rfl ?_); refine sqC (some 5) func70 #[.agg #[.int .i64 a0_0, .int .i64 a0_1]] ?_; (with_reducible refine (impl_isFraction.calls k a0_0 a0_1 false _ A2.1).mono ?_); refine sqV fun w4 hb => ?_; replace B0 := sqT B0 hb; replace HB := sqS (sqB1 HB E0) hb))
 go_ret
 exact ⟨Z5, sqB1 HB E0⟩

/-! ### impl_DeskOk: function 23 -/
def impl_DeskOk.f (k : Nat) (a0_0 : Int) (a0_1 : Int) (l0_2 : List (S31)) : Option (Bool) := (impl_isDesk.f k a0_0 a0_1 l0_2).bind fun t0 => (some t0)
theorem impl_DeskOk.mono : ∀ a0 a1 a2 k, LeO (impl_DeskOk.f k a0 a1 a2) (impl_DeskOk.f (k + 1) a0 a1 a2) := by
 intro a0 a1 a2 k
 unfold impl_DeskOk.f
 repeat' (with_reducible first | exact impl_isDesk.mono _ _ _ _ | exact LeO.refl _ | exact LeO.none _ | refine LeO.ite ?_ ?_ | refine LeO.bind ?_ fun _ => ?_)
theorem impl_DeskOk.calls (k : Nat) (a0_0 : Int) (a0_1 : Int) (A0_2 : Option Addr) (c0_2 : Nat) (l0_2 : List (S31)) (r : Bool) (w : World) (hr0_2 : Kd.C k31 w A0_2 l0_2.length l0_2) (hc0_2 : l0_2.length ≤ c0_2) (H : impl_DeskOk.f k a0_0 a0_1 l0_2 = some r) :
  Calls prog 23 #[.agg #[.int .i64 a0_0, .int .i64 a0_1, .slice A0_2 l0_2.length c0_2]] w fun e w' => e = .returned (.bool r) ∧ Below w.heap.size w w' := by
 have hu34 := underlying34
 have HR0_2 := sqa hr0_2
 have HC0_2 := sqa hc0_2
 clear hr0_2 hc0_2
 have HB := sqh w
 unfold impl_DeskOk.f at H
 obtain ⟨t0, A2, H⟩ := sqD H
 obtain rfl := sqo H
 go_enter func23, ntmps23
 go_wp2_with (first | ((with_reducible refine sqd 1 rfl ?_); refine sqBx w (sqB HB) (cs := #[.int .i64 a0_0, .int .i64 a0_1, .slice A0_2 l0_2.length c0_2]) (t := 34) ?_; intro g0 hg w3 B0 E0 HB hb; clear hb hg; obtain ⟨_, _, _, _, _, _⟩ := sqY3 B0) | ((with_reducible refine sqc 60 rfl ?_); refine sqC (some 4) func60 #[.agg #[.int .i64 a0_0, .int .i64 a0_1, .slice A0_2 l0_2.length c0_2]] ?_; (with_reducible refine (impl_isDesk.calls k a0_0 a0_1 _ _ l0_2 t0 _ ?side1 ?side2 A2.1).mono ?_); (case side1 => exact Z34); (case side2 => exact Z35); refine sqV fun w5 hb => ?_; replace B0 := sqT B0 hb; replace HB := sqS (sqB1 HB E0) hb))
 go_ret
 exact ⟨Z5, sqB1 HB E0⟩
end
end Go.Proofs.YtofmlbgfcohhoaaGreatDoor.PFnDeskLine
