import Derived.Test.YtofmlbgfcohhoaaGreatDoorZFnReadJournal
import Derived.Test.YtofmlbgfcohhoaaGreatDoorLib
import Derived.Test.YtofmlbgfcohhoaaGreatDoorProg
import Derived.Below
import Derived.Deep.Draws
import Derived.Deep.AppendLies
import Derived.Maps.AppendAt
import Derived.OwnWalk
import Derived.Laws.BytesArg
import Derived.Laws.MakeOwn
import Derived.Laws.OwnMore
import Derived.Deep.OwnRows
import Derived.Tactics
import Derived.Lib.ConvBytes
import Derived.Laws.Slices
import Derived.WalkKit
import Derived.KernelRfl
import Derived.RowKit3
import Derived.Deep.LoopGhost
import Derived.Deep.QuietTactic
import Derived.BigQuiet
import Derived.WideLaws
import Derived.Deep.DeepCutAuto
import Derived.Deep.CutBlock
import Derived.Deep.RegionHeld3
import Derived.Laws.Rows
import Derived.Lib.AppendStr
import Derived.ArgAppend
import Derived.Laws.IdiomCopy
import Derived.OrdersHeld
import Derived.Laws.BitsLemmas
import Derived.RowKit
set_option maxHeartbeats 8000000
set_option maxRecDepth 100000
namespace Go.Proofs.YtofmlbgfcohhoaaGreatDoor.PFnReadJournal
open Go.RowKit Go.Proofs.YtofmlbgfcohhoaaGreatDoorW.PrintWords Go.Proofs.YtofmlbgfcohhoaaGreatDoorW.PrintLast Go.Proofs.YtofmlbgfcohhoaaGreatDoorW.PrintMore Go.Proofs.YtofmlbgfcohhoaaGreatDoor.Lib Go.Proofs.Tryz
attribute [local go_sem] max2_int min2_int max_two min_two max_three min_three max_four min_four
set_option linter.unusedVariables false
set_option linter.unusedSimpArgs false

theorem info3 : (prog.info? 3).map (fun i => (i.zero, i.size, i.bytes)) = some (some (.int .i64 0), 1, 8) := by kernel_rfl
theorem info5 : (prog.info? 5).map (fun i => (i.zero, i.size, i.bytes)) = some (some (.int .u8 0), 1, 1) := by kernel_rfl
theorem info9 : (prog.info? 9).map (fun i => (i.zero, i.size, i.bytes)) = some (some (.string ⟨#[]⟩), 1, 16) := by kernel_rfl
theorem info31 : (prog.info? 31).map (fun i => (i.zero, i.size, i.bytes)) = some (some (.agg #[(.int .i64 0), (.int .i64 0)]), 2, 16) := by kernel_rfl
theorem info38 : (prog.info? 38).map (fun i => (i.zero, i.size, i.bytes)) = some (some (.agg #[(.int .i64 0), (.string ⟨#[]⟩)]), 2, 24) := by kernel_rfl
-- the values' own types
structure S31 where
 f0 : Int
 f1 : Int
def z31 : S31 := ⟨(0 : Int), (0 : Int)⟩
def k31 : Kd S31 := Kd.iso (Kd.pair (Kd.int .i64) (Kd.int .i64)) (fun x : S31 => (x.f0, x.f1))
theorem k31_open {w : World} {x : S31} {cs : List Value} (h : k31.K w x cs) : cs = [.int .i64 x.f0, .int .i64 x.f1] := by
 obtain ⟨_, _, rfl, rfl, rfl⟩ := h
 exact rfl
theorem k31_openM {w : World} {base : Nat} {ok : Nat → Prop} {x : S31} {cs : List Value} (h : k31.M w base ok x cs) : cs = [.int .i64 x.f0, .int .i64 x.f1] := by
 obtain ⟨_, _, rfl, rfl, rfl⟩ := h
 exact rfl
theorem k31_mk (w : World) (x : S31)  : k31.K w x [.int .i64 x.f0, .int .i64 x.f1] := ⟨[.int .i64 x.f0], [.int .i64 x.f1], rfl, rfl, rfl⟩
theorem k31_mkM (w : World) (base : Nat) (ok : Nat → Prop) (x : S31)  : k31.M w base ok x [.int .i64 x.f0, .int .i64 x.f1] := ⟨[.int .i64 x.f0], [.int .i64 x.f1], rfl, rfl, rfl⟩
def rd_T31 (xs : List S31) (i : Int) : S31 := xs.getD i.toNat z31
theorem at_T31 {w : World} {A : Option Addr} {n : Nat} {xs : List S31} (h : Kd.C k31 w A n xs) (i : Int) (h0 : 0 ≤ i) (h1 : i < n) : ∃ ad , A = some ad ∧ w.cell? (ad.add (i.toNat * 2)) = some (.int .i64 (rd_T31 xs i).f0) ∧ w.cell? ⟨(ad.add (i.toNat * 2)).block, (ad.add (i.toNat * 2)).off + 1, none⟩ = some (.int .i64 (rd_T31 xs i).f1) := by
 obtain ⟨ad, c, e, _, hK, hc0⟩ := Kd.C_get h z31 i h0 h1
 have hc : ∀ j u, c[j]? = some u → w.cell? (ad.add (i.toNat * 2 + j)) = some u := hc0
 obtain rfl := k31_open hK
 exact ⟨ad, e, hc 0 _ rfl, by rw [← add_field _ _ 1 (by omega)]; exact hc 1 _ rfl⟩

structure S38 where
 f0 : Int
 f1 : ByteArray
def z38 : S38 := ⟨(0 : Int), (⟨#[]⟩ : ByteArray)⟩
def k38 : Kd S38 := Kd.iso (Kd.pair (Kd.int .i64) Kd.string) (fun x : S38 => (x.f0, x.f1))
theorem k38_open {w : World} {x : S38} {cs : List Value} (h : k38.K w x cs) : cs = [.int .i64 x.f0, .string x.f1] := by
 obtain ⟨_, _, rfl, rfl, rfl⟩ := h
 exact rfl
theorem k38_openM {w : World} {base : Nat} {ok : Nat → Prop} {x : S38} {cs : List Value} (h : k38.M w base ok x cs) : cs = [.int .i64 x.f0, .string x.f1] := by
 obtain ⟨_, _, rfl, rfl, rfl⟩ := h
 exact rfl
theorem k38_mk (w : World) (x : S38)  : k38.K w x [.int .i64 x.f0, .string x.f1] := ⟨[.int .i64 x.f0], [.string x.f1], rfl, rfl, rfl⟩
theorem k38_mkM (w : World) (base : Nat) (ok : Nat → Prop) (x : S38)  : k38.M w base ok x [.int .i64 x.f0, .string x.f1] := ⟨[.int .i64 x.f0], [.string x.f1], rfl, rfl, rfl⟩
def rd_T38 (xs : List S38) (i : Int) : S38 := xs.getD i.toNat z38
theorem at_T38 {w : World} {A : Option Addr} {n : Nat} {xs : List S38} (h : Kd.C k38 w A n xs) (i : Int) (h0 : 0 ≤ i) (h1 : i < n) : ∃ ad , A = some ad ∧ w.cell? (ad.add (i.toNat * 2)) = some (.int .i64 (rd_T38 xs i).f0) ∧ w.cell? ⟨(ad.add (i.toNat * 2)).block, (ad.add (i.toNat * 2)).off + 1, none⟩ = some (.string (rd_T38 xs i).f1) := by
 obtain ⟨ad, c, e, _, hK, hc0⟩ := Kd.C_get h z38 i h0 h1
 have hc : ∀ j u, c[j]? = some u → w.cell? (ad.add (i.toNat * 2 + j)) = some u := hc0
 obtain rfl := k38_open hK
 exact ⟨ad, e, hc 0 _ rfl, by rw [← add_field _ _ 1 (by omega)]; exact hc 1 _ rfl⟩
theorem eqA31 (d : Nat) (w : World) (x0 y0 : Int) (x1 y1 : Int) :
  (Op.equalIn (d + 2) 31 (.agg #[.int .i64 x0, .int .i64 x1]) (.agg #[.int .i64 y0, .int .i64 y1])).run prog w = .ok (x0 == y0 && (x1 == y1)) w := by
 refine eqA_of underlying31 (by kernel_rfl) ?_
 refine eqf_cons (by rfl) (by go_simp; rfl) (by go_simp; rfl) (by go_simp) ?_
 exact eqf_last (by rfl) (by go_simp; rfl) (by go_simp; rfl) (by go_simp)
theorem eqA38 (d : Nat) (w : World) (x0 y0 : Int) (x1 y1 : ByteArray) :
  (Op.equalIn (d + 2) 38 (.agg #[.int .i64 x0, .string x1]) (.agg #[.int .i64 y0, .string y1])).run prog w = .ok (x0 == y0 && (x1.toList == y1.toList)) w := by
 refine eqA_of underlying38 (by kernel_rfl) ?_
 refine eqf_cons (by rfl) (by go_simp; rfl) (by go_simp; rfl) (by go_simp) ?_
 exact eqf_last (by rfl) (by go_simp; rfl) (by go_simp; rfl) (by go_simp)
section
attribute [local go_sem high] eqA31
mutual
def F23.j0 : Nat → Bool → Int → Int → List (S31) → Int → Int → List (S31) → Option (Bool)
 | 0, _, _, _, _, _, _, _ => none
 | k + 1, x0, x1, x2, x3, x4, x5, x6 => if x0 = true then (some false) else (F23.l0 k 0 x1 x2 x3 x4 x5 x6)
def F23.l0 : Nat → Int → Int → Int → List (S31) → Int → Int → List (S31) → Option (Bool)
 | 0, _, _, _, _, _, _, _ => none
 | k + 1, x5, x0, x1, x2, x3, x4, x6 => if x5 < (x2.length : Int) then (if 0 ≤ x5 then (if x5 < (x6.length : Int) then (if (!(((rd_T31 x2 x5).f0) == ((rd_T31 x6 x5).f0)) || (!(((rd_T31 x2 x5).f1) == ((rd_T31 x6 x5).f1)))) = true then (some false) else (F23.l0 k (wrap64 (x5 + 1)) x0 x1 x2 x3 x4 x6)) else (none)) else (none)) else (some true)
end
def F23.f (k : Nat) (a0_0 : Int) (a0_1 : Int) (l0_2 : List (S31)) (a1_0 : Int) (a1_1 : Int) (l1_2 : List (S31)) : Option (Bool) := if (!(a0_0 == a1_0) || (!(a0_1 == a1_1))) = true then (F23.j0 k true a0_0 a0_1 l0_2 a1_0 a1_1 l1_2) else (F23.j0 k ((l0_2.length : Int) != (l1_2.length : Int)) a0_0 a0_1 l0_2 a1_0 a1_1 l1_2)
abbrev F23.M (k : Nat) : Prop := (∀ y0 y1 y2 y3 y4 y5 y6, LeO (F23.j0 k y0 y1 y2 y3 y4 y5 y6) (F23.j0 (k + 1) y0 y1 y2 y3 y4 y5 y6)) ∧ (∀ y0 y1 y2 y3 y4 y5 y6, LeO (F23.l0 k y0 y1 y2 y3 y4 y5 y6) (F23.l0 (k + 1) y0 y1 y2 y3 y4 y5 y6))
theorem F23.mt : ∀ k, F23.M k → F23.M (k + 1) ∧ ∀ a0 a1 a2 a3 a4 a5, LeO (F23.f k a0 a1 a2 a3 a4 a5) (F23.f (k + 1) a0 a1 a2 a3 a4 a5) := by
  rintro k ⟨ih0, ih1⟩
  refine ⟨⟨?_, ?_⟩, ?_⟩ <;> intros <;> (first | unfold F23.j0 | unfold F23.l0 | unfold F23.f) <;> repeat' (with_reducible first | exact ih0 _ _ _ _ _ _ _ | exact ih1 _ _ _ _ _ _ _ | exact LeO.refl _ | exact LeO.none _ | refine LeO.ite ?_ ?_ | refine LeO.bind ?_ fun _ => ?_)
theorem F23.ml : ∀ k, F23.M k
 | 0 => ⟨fun _ _ _ _ _ _ _ r h => by simp [F23.j0] at h, fun _ _ _ _ _ _ _ r h => by simp [F23.l0] at h⟩
 | k + 1 => (F23.mt k (F23.ml k)).1
theorem F23.m a0 a1 a2 a3 a4 a5 k : LeO (F23.f k a0 a1 a2 a3 a4 a5) (F23.f (k + 1) a0 a1 a2 a3 a4 a5) := (F23.mt k (F23.ml k)).2 a0 a1 a2 a3 a4 a5
theorem F23.c (k : Nat) (a0_0 : Int) (a0_1 : Int) (A0_2 : Option Addr) (c0_2 : Nat) (l0_2 : List (S31)) (a1_0 : Int) (a1_1 : Int) (A1_2 : Option Addr) (c1_2 : Nat) (l1_2 : List (S31)) (r : Bool) (w : World) (hr0_2 : Kd.C k31 w A0_2 l0_2.length l0_2) (hc0_2 : l0_2.length ≤ c0_2) (hr1_2 : Kd.C k31 w A1_2 l1_2.length l1_2) (hc1_2 : l1_2.length ≤ c1_2) (H : F23.f k a0_0 a0_1 l0_2 a1_0 a1_1 l1_2 = some r) :
  Calls prog 22 #[.agg #[.int .i64 a0_0, .int .i64 a0_1, .slice A0_2 l0_2.length c0_2], .agg #[.int .i64 a1_0, .int .i64 a1_1, .slice A1_2 l1_2.length c1_2]] w fun e w' => e = .returned (.bool r) ∧ Below w.heap.size w w' := by
 have hu34 := underlying34
 have hu31 := underlying31
 have HR0_2 := sqa hr0_2
 have HC0_2 := sqa hc0_2
 clear hr0_2 hc0_2
 have HR1_2 := sqa hr1_2
 have HC1_2 := sqa hc1_2
 clear hr1_2 hc1_2
 have HB := sqh w
 unfold F23.f at H
 have HC3 := sqa H
 clear H
 go_enter func22, ntmps22
 go_upto_region 1 with (first | ((with_reducible refine sqd 2 rfl ?_); (try (refine gate_guard (by rfl) ?_; dsimp only)); refine sqBx w (sqB HB) (cs := #[.int .i64 a0_0, .int .i64 a0_1, .slice A0_2 l0_2.length c0_2]) (t := 34) ?_; intro g0 hg w4 B0 E0 HB hb; clear hb hg) | ((with_reducible refine sqd 3 rfl ?_); (try (refine gate_guard (by rfl) ?_; dsimp only)); refine sqBx w (sqB1 HB E0) (cs := #[.int .i64 a1_0, .int .i64 a1_1, .slice A1_2 l1_2.length c1_2]) (t := 34) ?_; intro g1 hg w5 B2 E1 HB hb; obtain ⟨N0, N1⟩ := sqM hg B0; replace B0 := sqT B0 hb; clear hb hg))
 repeat (go_quiet (first | ((with_reducible refine sqd 2 rfl ?_); (try (refine gate_guard (by rfl) ?_; dsimp only)); refine sqBx w (sqB HB) (cs := #[.int .i64 a0_0, .int .i64 a0_1, .slice A0_2 l0_2.length c0_2]) (t := 34) ?_; intro g0 hg w4 B0 E0 HB hb; clear hb hg) | ((with_reducible refine sqd 3 rfl ?_); (try (refine gate_guard (by rfl) ?_; dsimp only)); refine sqBx w (sqB1 HB E0) (cs := #[.int .i64 a1_0, .int .i64 a1_1, .slice A1_2 l1_2.length c1_2]) (t := 34) ?_; intro g1 hg w5 B2 E1 HB hb; obtain ⟨N0, N1⟩ := sqM hg B0; replace B0 := sqT B0 hb; clear hb hg)); go_upto_region 1 with (first | ((with_reducible refine sqd 2 rfl ?_); (try (refine gate_guard (by rfl) ?_; dsimp only)); refine sqBx w (sqB HB) (cs := #[.int .i64 a0_0, .int .i64 a0_1, .slice A0_2 l0_2.length c0_2]) (t := 34) ?_; intro g0 hg w4 B0 E0 HB hb; clear hb hg) | ((with_reducible refine sqd 3 rfl ?_); (try (refine gate_guard (by rfl) ?_; dsimp only)); refine sqBx w (sqB1 HB E0) (cs := #[.int .i64 a1_0, .int .i64 a1_1, .slice A1_2 l1_2.length c1_2]) (t := 34) ?_; intro g1 hg w5 B2 E1 HB hb; obtain ⟨N0, N1⟩ := sqM hg B0; replace B0 := sqT B0 hb; clear hb hg)))
 (try simp only [Act.put, List.setIfInBounds_toArray, List.set_cons_zero, List.set_cons_succ])
 go_cut [19] (fun v0 wc => ∃ (kq : Nat) (x0 : Bool), v0 = .bool x0 ∧ Aside0 (F23.j0 kq x0 a0_0 a0_1 l0_2 a1_0 a1_1 l1_2 = some r) ∧ Aside0 (kq ≤ k) ∧ Aside0 (wc.heap[g0]? = some (.cells #[.int .i64 a0_0, .int .i64 a0_1, (.slice A0_2 l0_2.length c0_2)] 34 (0, 0))) ∧ Aside0 (wc.heap[g1]? = some (.cells #[.int .i64 a1_0, .int .i64 a1_1, (.slice A1_2 l1_2.length c1_2)] 34 (0, 0))) ∧ Aside0 (Below w.heap.size w wc))
 case first =>
  have H := HC3.1
  clear HC3
  by_cases c6 : (!(a0_0 == a1_0) || (!(a0_1 == a1_1))) = true
  ·rw [if_pos c6] at H
   have c6b0 : (!(a0_0 == a1_0) || (!(a0_1 == a1_1))) = true := c6
   clear c6
   (first | rw [c6b0] | (simp only [i64_w, i32_w]; rw [c6b0]) | skip)
   have H' := sqa H
   clear H
   have := sqn2 N0 N1
   have := sqY3 B0
   have := sqY3 B2
   go_wp2
   repeat (go_quiet (fail); try go_wp2)
   go_meet
   case rel => exact ⟨_, (true), Z2, H', ⟨Z3⟩, ⟨sqK B0⟩, ⟨sqK B2⟩, ⟨sqB2 HB E0 E1⟩⟩
  rw [if_neg c6] at H
  have c6b0 : (!(a0_0 == a1_0) || (!(a0_1 == a1_1))) = false := by simpa using c6
  clear c6
  (first | rw [c6b0] | (simp only [i64_w, i32_w]; rw [c6b0]) | skip)
  have H' := sqa H
  clear H
  have := sqn2 N0 N1
  have := sqY3 B0
  have := sqY3 B2
  go_wp2
  repeat (go_quiet (fail); try go_wp2)
  go_meet
  case rel => exact ⟨_, (((l0_2.length : Int) != (l1_2.length : Int))), Z2, H', ⟨Z3⟩, ⟨sqK B0⟩, ⟨sqK B2⟩, ⟨sqB2 HB E0 E1⟩⟩
 case rest =>
  clear HC3
  obtain ⟨kq, x0, rfl, HA, HJ2, B0, B2, HB⟩ := hcut
  cases kq with
  | zero => exact absurd HA.out (by simp [F23.j0])
  | succ kj2 =>
   have H := HA.out
   clear HA
   simp only [F23.j0] at H
   by_cases c0 : x0 = true
   ·subst c0
    rw [if_pos rfl] at H
    obtain rfl := sqo H
    go_wp2
    repeat (go_quiet (fail); try go_wp2)
    go_ret
    exact ⟨Z14, sqB2 HB E0 E1⟩
   obtain rfl := sqb c0
   rw [if_neg sqF] at H
   have H' := sqa H
   clear H
   go_wp2
   repeat (go_quiet (fail); try go_wp2)
   go_loopg [5] kj2 (fun kq v5 w' => ∃ (x5_2 : Int), v5 = .int .i64 x5_2 ∧ Aside0 (F23.l0 kq x5_2 a0_0 a0_1 l0_2 a1_0 a1_1 l1_2 = some r) ∧ Aside0 (kq ≤ kj2) ∧ Aside0 (w'.heap[g0]? = some (.cells #[.int .i64 a0_0, .int .i64 a0_1, (.slice A0_2 l0_2.length c0_2)] 34 (0, 0))) ∧ Aside0 (w'.heap[g1]? = some (.cells #[.int .i64 a1_0, .int .i64 a1_1, (.slice A1_2 l1_2.length c1_2)] 34 (0, 0))) ∧ Aside0 (Below w.heap.size w w'))
   case atStart => exact ⟨(0), Z2, H', ⟨Nat.le_refl _⟩, ⟨sqK B0⟩, ⟨sqK B2⟩, ⟨sqB2 HB E0 E1⟩⟩
   case round =>
    clear H'
    obtain ⟨x5_2, rfl, HA, HK2, B0, B2, HB⟩ := hrel
    cases gk with
    | zero => exact absurd HA.out (by simp [F23.l0])
    | succ k2 =>
     have H := HA.out
     clear HA
     simp only [F23.l0] at H
     by_cases c1 : x5_2 < (l0_2.length : Int)
     ·rw [if_pos c1] at H
      have c2 : decide (x5_2 < (l0_2.length : Int)) = true := decide_eq_true c1
      clear c1
      obtain ⟨c3, H⟩ := sqI H
      have c4 : decide (0 ≤ x5_2) = true := decide_eq_true c3
      clear c3
      obtain ⟨c5, H⟩ := sqI H
      have c7 : decide (x5_2 < (l1_2.length : Int)) = true := decide_eq_true c5
      clear c5
      by_cases c8 : (!(((rd_T31 l0_2 x5_2).f0) == ((rd_T31 l1_2 x5_2).f0)) || (!(((rd_T31 l0_2 x5_2).f1) == ((rd_T31 l1_2 x5_2).f1)))) = true
      ·rw [if_pos c8] at H
       have c9 : (!(((rd_T31 l0_2 x5_2).f0) == ((rd_T31 l1_2 x5_2).f0)) || (!(((rd_T31 l0_2 x5_2).f1) == ((rd_T31 l1_2 x5_2).f1)))) = true := c8
       clear c8
       obtain rfl := sqo H
       have := sqn2 N0 N1
       have := sqY3 B0
       have p0 : 0 ≤ (x5_2 : Int) := of_decide_eq_true Z7
       have q0 : x5_2 < (l0_2.length : Int) := of_decide_eq_true Z7
       obtain ⟨ad0, e0, hx0, hx1⟩ := at_T31 HR0_2.1 x5_2 p0 q0
       cases e0
       replace hx0 := (HB.1.cell (World.block_lt_of_cell? w _ hx0)).trans hx0
       replace hx1 := (HB.1.cell (World.block_lt_of_cell? w _ hx1)).trans hx1
       replace p0 := eq_true p0
       replace q0 := eq_true q0
       have := sqY3 B2
       have p1 : 0 ≤ (x5_2 : Int) := of_decide_eq_true Z7
       have q1 : x5_2 < (l1_2.length : Int) := of_decide_eq_true Z7
       obtain ⟨ad1, e1, hx2, hx3⟩ := at_T31 HR1_2.1 x5_2 p1 q1
       cases e1
       replace hx2 := (HB.1.cell (World.block_lt_of_cell? w _ hx2)).trans hx2
       replace hx3 := (HB.1.cell (World.block_lt_of_cell? w _ hx3)).trans hx3
       replace p1 := eq_true p1
       replace q1 := eq_true q1
       go_wp2
       repeat (go_quiet (fail); try go_wp2)
       go_ret
       exact ⟨Z14, sqB2 HB E0 E1⟩
      rw [if_neg c8] at H
      have c9 : (!(((rd_T31 l0_2 x5_2).f0) == ((rd_T31 l1_2 x5_2).f0)) || (!(((rd_T31 l0_2 x5_2).f1) == ((rd_T31 l1_2 x5_2).f1)))) = false := by simpa using c8
      clear c8
      have H' := sqa H
      clear H
      have := sqn2 N0 N1
      have := sqY3 B0
      have p0 : 0 ≤ (x5_2 : Int) := of_decide_eq_true Z7
      have q0 : x5_2 < (l0_2.length : Int) := of_decide_eq_true Z7
      obtain ⟨ad0, e0, hx0, hx1⟩ := at_T31 HR0_2.1 x5_2 p0 q0
      cases e0
      replace hx0 := (HB.1.cell (World.block_lt_of_cell? w _ hx0)).trans hx0
      replace hx1 := (HB.1.cell (World.block_lt_of_cell? w _ hx1)).trans hx1
      replace p0 := eq_true p0
      replace q0 := eq_true q0
      have := sqY3 B2
      have p1 : 0 ≤ (x5_2 : Int) := of_decide_eq_true Z7
      have q1 : x5_2 < (l1_2.length : Int) := of_decide_eq_true Z7
      obtain ⟨ad1, e1, hx2, hx3⟩ := at_T31 HR1_2.1 x5_2 p1 q1
      cases e1
      replace hx2 := (HB.1.cell (World.block_lt_of_cell? w _ hx2)).trans hx2
      replace hx3 := (HB.1.cell (World.block_lt_of_cell? w _ hx3)).trans hx3
      replace p1 := eq_true p1
      replace q1 := eq_true q1
      go_wp2
      repeat (go_quiet (fail); try go_wp2)
      go_roundg k2
      case measure => have := HJ2.out; have := HK2.out; omega
      case rel => exact ⟨(wrap64 (x5_2 + 1)), Z2, H', ⟨Z52 HK2⟩, ⟨sqK B0⟩, ⟨sqK B2⟩, ⟨sqB2 HB E0 E1⟩⟩
     rw [if_neg c1] at H
     have c2 : decide (x5_2 < (l0_2.length : Int)) = false := decide_eq_false c1
     clear c1
     obtain rfl := sqo H
     have := sqn2 N0 N1
     have := sqY3 B0
     go_wp2
     repeat (go_quiet (fail); try go_wp2)
     go_ret
     exact ⟨Z14, sqB2 HB E0 E1⟩

def F68.f (a0 : Int) : Option (Bool) := if a0 ≥ (-1000000) then (some (decide (a0 ≤ 1000000))) else (some false)
theorem F68.c (a0 : Int) (r : Bool) (w : World) (H : F68.f a0 = some r) :
  Calls prog 116 #[.int .i64 a0] w fun e w' => e = .returned (.bool r) ∧ Drawn0 w w' := by
 unfold F68.f at H
 by_cases c2 : a0 ≥ (-1000000)
 ·rw [if_pos c2] at H
  have c2b0 : decide ((-1000000) ≤ a0) = true := decide_eq_true c2
  clear c2
  obtain rfl := sqo H
  go_enter func116, ntmps116
  go_wp2
  go_ret
  exact ⟨Z2, Z87⟩
 rw [if_neg c2] at H
 have c2b0 : decide ((-1000000) ≤ a0) = false := decide_eq_false c2
 clear c2
 obtain rfl := sqo H
 go_enter func116, ntmps116
 go_wp2
 go_ret
 exact ⟨Z2, Z87⟩

def F14.l0 : Nat → Int → Int → Option (Int)
 | 0, _, _ => none
 | k + 1, x0, x1 => if x1 = 0 then (some (mx x0 (wrap64 (-x0)))) else (F14.l0 k x1 (Int.tmod x0 x1))
def F14.f (k : Nat) (a0 : Int) (a1 : Int) : Option (Int) := F14.l0 k a0 a1
abbrev F14.M (k : Nat) : Prop := (∀ y0 y1, LeO (F14.l0 k y0 y1) (F14.l0 (k + 1) y0 y1))
theorem F14.mt : ∀ k, F14.M k → F14.M (k + 1) ∧ ∀ a0 a1, LeO (F14.f k a0 a1) (F14.f (k + 1) a0 a1) := by
  rintro k ih0
  refine ⟨?_, ?_⟩ <;> (try unfold F14.M) <;> intros <;> (first | unfold F14.l0 | unfold F14.f) <;> repeat' (with_reducible first | exact ih0 _ _ | exact LeO.refl _ | exact LeO.none _ | refine LeO.ite ?_ ?_ | refine LeO.bind ?_ fun _ => ?_)
theorem F14.ml : ∀ k, F14.M k
 | 0 => fun _ _ r h => by simp [F14.l0] at h
 | k + 1 => (F14.mt k (F14.ml k)).1
theorem F14.m a0 a1 k : LeO (F14.f k a0 a1) (F14.f (k + 1) a0 a1) := (F14.mt k (F14.ml k)).2 a0 a1
theorem F14.c (k : Nat) (a0 : Int) (a1 : Int) (r : Int) (w : World) (H : F14.f k a0 a1 = some r) :
  Calls prog 117 #[.int .i64 a0, .int .i64 a1] w fun e w' => e = .returned (.int .i64 r) ∧ Below w.heap.size w w' := by
 have HB := sqh w
 unfold F14.f at H
 have H' := sqa H
 clear H
 go_enter func117, ntmps117
 go_wp2
 repeat (go_quiet (fail); try go_wp2)
 go_loopg [0, 1] k (fun kq v0 v1 w' => ∃ (x0_1 : Int) (x1_1 : Int), v0 = .int .i64 x0_1 ∧ v1 = .int .i64 x1_1 ∧ Aside0 (F14.l0 kq x0_1 x1_1 = some r) ∧ Aside0 (kq ≤ k) ∧ Aside0 (Below w.heap.size w w'))
 case atStart => exact ⟨(a0), (a1), Z2, Z2, H', ⟨Nat.le_refl _⟩, ⟨sqB HB⟩⟩
 case round =>
  clear H'
  obtain ⟨x0_1, x1_1, rfl, rfl, HA, HK1, HB⟩ := hrel
  cases gk with
  | zero => exact absurd HA.out (by simp [F14.l0])
  | succ k1 =>
   have H := HA.out
   clear HA
   simp only [F14.l0] at H
   by_cases c3 : x1_1 = 0
   ·rw [if_pos c3] at H
    have c3b0 : (x1_1 == 0) = true := sqe1 c3
    have c3b1 : (x1_1 != 0) = false := sqn0 c3
    clear c3
    obtain ⟨ji4, hji4⟩ : ∃ j_ : Int, (mx x0_1 (wrap64 (-x0_1))) = j_ := ⟨_, rfl⟩
    replace H : (some ji4) = some r := by first | (rw [hji4] at H; exact H) | (simp only [hji4] at H ⊢; exact H)
    have hji4_ : (if x0_1 < (wrap64 (-x0_1)) then (wrap64 (-x0_1)) else x0_1) = ji4 := hji4
    obtain rfl := sqo H
    go_wp2
    repeat (go_quiet (fail); try go_wp2)
    go_ret
    exact ⟨by first | rfl | (simp [errP_none, errP_some] <;> rfl) | (simp only [← hji4]; first | rfl | (simp [errP_none, errP_some] <;> rfl)) | (simp [*, errP_none, errP_some] <;> rfl), sqB HB⟩
   rw [if_neg c3] at H
   have c3b0 : (x1_1 == 0) = false := sqe0 c3
   have c3b1 : (x1_1 != 0) = true := sqn1 c3
   have H' := sqa H
   clear H
   go_wp2
   repeat (go_quiet (fail); try go_wp2)
   go_roundg k1
   case measure => have := HK1.out; omega
   case rel => exact ⟨(x1_1), (Int.tmod x0_1 x1_1), Z2, Z2, H', ⟨Z15 HK1⟩, ⟨sqB HB⟩⟩

def F2.f (k : Nat) (a0_0 : Int) (a0_1 : Int) : Option (Bool) := (F68.f a0_0).bind fun t0 => (if t0 = true then (if a0_1 < 0 then (some false) else (if a0_1 > 1000000 then (some false) else (if a0_1 = 0 then (if a0_0 = 1 then ((F14.f k a0_0 a0_1).bind fun t1 => (some (t1 == 1))) else (some false)) else ((F14.f k a0_0 a0_1).bind fun t2 => (some (t2 == 1)))))) else (some false))
theorem F2.m : ∀ a0 a1 k, LeO (F2.f k a0 a1) (F2.f (k + 1) a0 a1) := by
 intro a0 a1 k
 unfold F2.f
 repeat' (with_reducible first | exact F14.m _ _ _ | exact LeO.refl _ | exact LeO.none _ | refine LeO.ite ?_ ?_ | refine LeO.bind ?_ fun _ => ?_)
theorem F2.c (k : Nat) (a0_0 : Int) (a0_1 : Int) (r : Bool) (w : World) (H : F2.f k a0_0 a0_1 = some r) :
  Calls prog 70 #[.agg #[.int .i64 a0_0, .int .i64 a0_1]] w fun e w' => e = .returned (.bool r) ∧ Below w.heap.size w w' := by
 have hu31 := underlying31
 have HB := sqh w
 unfold F2.f at H
 obtain ⟨t0, A2, H⟩ := sqD H
 by_cases c3 : t0 = true
 ·subst c3
  rw [if_pos rfl] at H
  by_cases c4 : a0_1 < 0
  ·rw [if_pos c4] at H
   have c4b0 : decide (a0_1 < 0) = true := decide_eq_true c4
   clear c4
   obtain rfl := sqo H
   go_enter func70, ntmps70
   go_wp2_with (first | ((with_reducible refine sqd 1 rfl ?_); refine sqBx w (sqB HB) (cs := #[.int .i64 a0_0, .int .i64 a0_1]) (t := 31) ?_; intro g0 hg w5 B0 E0 HB hb; clear hb hg; have := sqY2 B0) | ((with_reducible refine sqc 116 rfl ?_); refine sqC (some 5) func116 #[.int .i64 a0_0] ?_; (with_reducible refine (F68.c a0_0 true _ A2.1).mono ?_); rintro e w' ⟨rfl, ⟨nd, rfl⟩⟩; refine ⟨_, rfl, ?_⟩))
   go_ret
   exact ⟨Z14, sqB1 HB E0⟩
  rw [if_neg c4] at H
  have c4b0 : decide (a0_1 < 0) = false := decide_eq_false c4
  clear c4
  by_cases c7 : a0_1 > 1000000
  ·rw [if_pos c7] at H
   have c7b0 : decide (1000000 < a0_1) = true := decide_eq_true c7
   clear c7
   obtain rfl := sqo H
   go_enter func70, ntmps70
   go_wp2_with (first | ((with_reducible refine sqd 1 rfl ?_); refine sqBx w (sqB HB) (cs := #[.int .i64 a0_0, .int .i64 a0_1]) (t := 31) ?_; intro g0 hg w8 B0 E0 HB hb; clear hb hg; have := sqY2 B0) | ((with_reducible refine sqc 116 rfl ?_); refine sqC (some 5) func116 #[.int .i64 a0_0] ?_; (with_reducible refine (F68.c a0_0 true _ A2.1).mono ?_); rintro e w' ⟨rfl, ⟨nd, rfl⟩⟩; refine ⟨_, rfl, ?_⟩))
   go_ret
   exact ⟨Z14, sqB1 HB E0⟩
  rw [if_neg c7] at H
  have c7b0 : decide (1000000 < a0_1) = false := decide_eq_false c7
  clear c7
  by_cases c10 : a0_1 = 0
  ·rw [if_pos c10] at H
   have c0 := sqe1 c10
   have c1 := sqn0 c10
   clear c10
   by_cases c2 : a0_0 = 1
   ·rw [if_pos c2] at H
    have c5 := sqe1 c2
    have c6 := sqn0 c2
    clear c2
    obtain ⟨t1, A0, H⟩ := sqD H
    obtain rfl := sqo H
    go_enter func70, ntmps70
    go_wp2_with (first | ((with_reducible refine sqd 1 rfl ?_); refine sqBx w (sqB HB) (cs := #[.int .i64 a0_0, .int .i64 a0_1]) (t := 31) ?_; intro g0 hg w0 B0 E0 HB hb; clear hb hg; have := sqY2 B0) | ((with_reducible refine sqc 116 rfl ?_); refine sqC (some 5) func116 #[.int .i64 a0_0] ?_; (with_reducible refine (F68.c a0_0 true _ A2.1).mono ?_); rintro e w' ⟨rfl, ⟨nd, rfl⟩⟩; refine ⟨_, rfl, ?_⟩) | ((with_reducible refine sqc 117 rfl ?_); refine sqC (some 31) func117 #[.int .i64 a0_0, .int .i64 a0_1] ?_; (with_reducible refine (F14.c k a0_0 a0_1 t1 _ A0.1).mono ?_); refine sqV fun w1 hb => ?_; replace B0 := sqT B0 hb; replace HB := sqS (sqB1 HB E0) hb))
    go_ret
    exact ⟨Z14, sqB1 HB E0⟩
   rw [if_neg c2] at H
   have c5 := sqe0 c2
   have c6 := sqn1 c2
   obtain rfl := sqo H
   go_enter func70, ntmps70
   go_wp2_with (first | ((with_reducible refine sqd 1 rfl ?_); refine sqBx w (sqB HB) (cs := #[.int .i64 a0_0, .int .i64 a0_1]) (t := 31) ?_; intro g0 hg w2 B0 E0 HB hb; clear hb hg; have := sqY2 B0) | ((with_reducible refine sqc 116 rfl ?_); refine sqC (some 5) func116 #[.int .i64 a0_0] ?_; (with_reducible refine (F68.c a0_0 true _ A2.1).mono ?_); rintro e w' ⟨rfl, ⟨nd, rfl⟩⟩; refine ⟨_, rfl, ?_⟩))
   go_ret
   exact ⟨Z14, sqB1 HB E0⟩
  rw [if_neg c10] at H
  have c0 := sqe0 c10
  have c1 := sqn1 c10
  obtain ⟨t2, A1, H⟩ := sqD H
  obtain rfl := sqo H
  go_enter func70, ntmps70
  go_wp2_with (first | ((with_reducible refine sqd 1 rfl ?_); refine sqBx w (sqB HB) (cs := #[.int .i64 a0_0, .int .i64 a0_1]) (t := 31) ?_; intro g0 hg w3 B0 E0 HB hb; clear hb hg; have := sqY2 B0) | ((with_reducible refine sqc 116 rfl ?_); refine sqC (some 5) func116 #[.int .i64 a0_0] ?_; (with_reducible refine (F68.c a0_0 true _ A2.1).mono ?_); rintro e w' ⟨rfl, ⟨nd, rfl⟩⟩; refine ⟨_, rfl, ?_⟩) | ((with_reducible refine sqc 117 rfl ?_); refine sqC (some 31) func117 #[.int .i64 a0_0, .int .i64 a0_1] ?_; (with_reducible refine (F14.c k a0_0 a0_1 t2 _ A1.1).mono ?_); refine sqV fun w4 hb => ?_; replace B0 := sqT B0 hb; replace HB := sqS (sqB1 HB E0) hb))
  go_ret
  exact ⟨Z14, sqB1 HB E0⟩
 obtain rfl := sqb c3
 rw [if_neg sqF] at H
 obtain rfl := sqo H
 go_enter func70, ntmps70
 go_wp2_with (first | ((with_reducible refine sqd 1 rfl ?_); refine sqBx w (sqB HB) (cs := #[.int .i64 a0_0, .int .i64 a0_1]) (t := 31) ?_; intro g0 hg w6 B0 E0 HB hb; clear hb hg; have := sqY2 B0) | ((with_reducible refine sqc 116 rfl ?_); refine sqC (some 5) func116 #[.int .i64 a0_0] ?_; (with_reducible refine (F68.c a0_0 false _ A2.1).mono ?_); rintro e w' ⟨rfl, ⟨nd, rfl⟩⟩; refine ⟨_, rfl, ?_⟩))
 go_ret
 exact ⟨Z14, sqB1 HB E0⟩

def F67.f (k : Nat) (a0_0 : Int) (a0_1 : Int) : Option (Bool) := (F2.f k a0_0 a0_1).bind fun t0 => (some t0)
theorem F67.m : ∀ a0 a1 k, LeO (F67.f k a0 a1) (F67.f (k + 1) a0 a1) := by
 intro a0 a1 k
 unfold F67.f
 repeat' (with_reducible first | exact F2.m _ _ _ | exact LeO.refl _ | exact LeO.none _ | refine LeO.ite ?_ ?_ | refine LeO.bind ?_ fun _ => ?_)
theorem F67.c (k : Nat) (a0_0 : Int) (a0_1 : Int) (r : Bool) (w : World) (H : F67.f k a0_0 a0_1 = some r) :
  Calls prog 69 #[.agg #[.int .i64 a0_0, .int .i64 a0_1]] w fun e w' => e = .returned (.bool r) ∧ Below w.heap.size w w' := by
 have hu31 := underlying31
 have HB := sqh w
 unfold F67.f at H
 obtain ⟨t0, A2, H⟩ := sqD H
 obtain rfl := sqo H
 go_enter func69, ntmps69
 go_wp2_with (first | ((with_reducible refine sqd 1 rfl ?_); refine sqBx w (sqB HB) (cs := #[.int .i64 a0_0, .int .i64 a0_1]) (t := 31) ?_; intro g0 hg w3 B0 E0 HB hb; clear hb hg; have := sqY2 B0) | ((with_reducible refine sqc 70 rfl ?_); refine sqC (some 4) func70 #[.agg #[.int .i64 a0_0, .int .i64 a0_1]] ?_; (with_reducible refine (F2.c k a0_0 a0_1 t0 _ A2.1).mono ?_); refine sqV fun w5 hb => ?_; replace B0 := sqT B0 hb; replace HB := sqS (sqB1 HB E0) hb))
 go_ret
 exact ⟨Z14, sqB1 HB E0⟩

def F62.f (k : Nat)  : Option (Bool) := (F67.f k 1 2).bind fun t0 => (if t0 = true then ((F67.f k 2 2).bind fun t1 => (some (!t1))) else (some false))
theorem F62.m : ∀ k, LeO (F62.f k ) (F62.f (k + 1) ) := by
 intro  k
 unfold F62.f
 repeat' (with_reducible first | exact F67.m _ _ _ | exact LeO.refl _ | exact LeO.none _ | refine LeO.ite ?_ ?_ | refine LeO.bind ?_ fun _ => ?_)
theorem F62.c (k : Nat)  (r : Bool) (w : World) (H : F62.f k  = some r) :
  Calls prog 24 #[] w fun e w' => e = .returned (.bool r) ∧ Below w.heap.size w w' := by
 have hu31 := underlying31
 have HB := sqh w
 unfold F62.f at H
 obtain ⟨t0, A1, H⟩ := sqD H
 by_cases c2 : t0 = true
 ·subst c2
  rw [if_pos rfl] at H
  obtain ⟨t1, A3, H⟩ := sqD H
  obtain rfl := sqo H
  go_enter func24, ntmps24
  go_wp2_with (first | ((with_reducible refine sqc 69 rfl ?_); refine sqC (some 2) func69 #[.agg #[.int .i64 1, .int .i64 2]] ?_; (with_reducible refine (F67.c k 1 2 true _ A1.1).mono ?_); refine sqV fun w4 hb => ?_; replace HB := sqS (sqB HB) hb) | (go_at_call 69; (with_reducible refine (F67.c k 2 2 t1 _ A3.1).mono ?_); rintro e w5 ⟨rfl, hb⟩; replace HB := sqS (sqB HB) hb))
  go_ret
  exact ⟨Z14, sqB HB⟩
 obtain rfl := sqb c2
 rw [if_neg sqF] at H
 obtain rfl := sqo H
 go_enter func24, ntmps24
 go_wp2_with (first | ((with_reducible refine sqc 69 rfl ?_); refine sqC (some 2) func69 #[.agg #[.int .i64 1, .int .i64 2]] ?_; (with_reducible refine (F67.c k 1 2 false _ A1.1).mono ?_); refine sqV fun w6 hb => ?_; replace HB := sqS (sqB HB) hb))
 go_ret
 exact ⟨Z14, sqB HB⟩

/-- A state of type 131 at block g of W; what its slices lead to came in by w0. -/
def IsS131 (w0 W : World) (g : Nat) (f0 : List Int) (f1 : Int) : Prop := ∃ A0 c0, W.heap[g]? = some (.cells #[.slice A0 f0.length c0, .int .i64 f1] 131 (0, 0)) ∧ w0.heap.size ≤ g ∧ Kd.C (Kd.int .u8) w0 A0 f0.length f0
theorem IsS131.grown {w0 W : World} {g : Nat} {f0 : List Int} {f1 : Int} {W1 : World} {row : Option Nat} (h : IsS131 w0 W g f0 f1) (hw : W.grownBy W1 row) (hne : some g ≠ row) : IsS131 w0 W1 g f0 f1 := by
 obtain ⟨A0, c0, hb, hg, hr0⟩ := h
 exact ⟨A0, c0, blk_grown hb hw hne, hg, hr0⟩
theorem IsS131.own_neN {w0 W : World} {g : Nat} {f0 : List Int} {f1 : Int} {α : Type} {d : Kd α} {e : Nat} {base : Nat} {ok : Nat → Prop} {v : Value} {xs : List α} (h : IsS131 w0 W g f0 f1) (ho : Kd.N d e W base ok v xs) (ht : e ≠ 131) : some g ≠ v.ownBlock := by
 obtain ⟨A0, c0, hb, hg, hr0⟩ := h
 exact Kd.N_ne ho hb ht
theorem IsS131.fresh {w0 W : World} {g : Nat} {f0 : List Int} {f1 : Int} (h : IsS131 w0 W g f0 f1) : ∀ k, W.heap.size ≤ k → k ≠ g := by
 obtain ⟨A0, c0, hb, hg, hr0⟩ := h
 exact Kd.freshB hb
theorem IsS131.kept {w0 W : World} {g : Nat} {f0 : List Int} {f1 : Int} {W1 : World} {S : Nat → Prop} (h : IsS131 w0 W g f0 f1) (hk : Kept W W1 S) (hne : ¬ S g) : IsS131 w0 W1 g f0 f1 := by
 obtain ⟨A0, c0, hb, hg, hr0⟩ := h
 exact ⟨A0, c0, blk_kept hb hk hne, hg, hr0⟩
theorem IsS131.below {w0 W : World} {g : Nat} {f0 : List Int} {f1 : Int} {W1 : World} (h : IsS131 w0 W g f0 f1) (hw : Below W.heap.size W W1) : IsS131 w0 W1 g f0 f1 := h.grown (grown_of_below hw none) (by simp)
theorem IsS131.alloc {w0 W : World} {g : Nat} {f0 : List Int} {f1 : Int} (h : IsS131 w0 W g f0 f1) (o : Obj) : IsS131 w0 (W.alloc o) g f0 f1 := h.below (below_alloc (Below.refl _ _) o)
theorem IsS131.drewN {w0 W : World} {g : Nat} {f0 : List Int} {f1 : Int} (h : IsS131 w0 W g f0 f1) (m : Nat) : IsS131 w0 (W.drewN m) g f0 f1 := h
theorem IsS131.drew {w0 W : World} {g : Nat} {f0 : List Int} {f1 : Int} (h : IsS131 w0 W g f0 f1) : IsS131 w0 W.drew g f0 f1 := h
theorem IsS131.at_ {w0 W : World} {g : Nat} {f0 : List Int} {f1 : Int} {w' : World} {m : Nat} (hq : W.drewN m = w') (h : IsS131 w0 W g f0 f1) : IsS131 w0 w' g f0 f1 := by subst hq; exact IsS131.drewN h m
theorem IsS131.apart {w0 W : World} {g : Nat} {f0 : List Int} {f1 : Int} {α : Type} {d : Kd α} {e : Nat} {base : Nat} {ok : Nat → Prop} {v : Value} {xs : List α} (h : IsS131 w0 W g f0 f1) (ho : d.R e W base ok v xs) (ht : ∀ q, q ∈ e :: d.E → q ≠ 131) : d.R e W base (fun k => ok k ∧ k ≠ g) v xs := by
 obtain ⟨A0, c0, hb, hg, hr0⟩ := h
 exact Kd.R_types ho hb ht
theorem IsS131.own_ne {w0 W : World} {g : Nat} {f0 : List Int} {f1 : Int} {α : Type} {d : Kd α} {e : Nat} {base : Nat} {ok : Nat → Prop} {v : Value} {xs : List α} (h : IsS131 w0 W g f0 f1) (ho : d.R e W base ok v xs) (ht : e ≠ 131) : some g ≠ v.ownBlock := by
 obtain ⟨A0, c0, hb, hg, hr0⟩ := h
 exact Kd.R_ne ho hb ht
theorem IsS131.apartQ {w0 W : World} {g : Nat} {f0 : List Int} {f1 : Int} {α : Type} {d : Kd α} {e : Nat} {base : Nat} {ok : Nat → Prop} {v : Value} {xs : List α} (h : IsS131 w0 W g f0 f1) (ho : d.Q e W base ok v xs) (ht : ∀ q, q ∈ e :: d.E → q ≠ 131) : d.Q e W base (fun k => ok k ∧ k ≠ g) v xs := by
 obtain ⟨A0, c0, hb, hg, hr0⟩ := h
 exact Kd.Q_types ho hb ht
theorem IsS131.own_neQ {w0 W : World} {g : Nat} {f0 : List Int} {f1 : Int} {α : Type} {d : Kd α} {e : Nat} {base : Nat} {ok : Nat → Prop} {v : Value} {xs : List α} (h : IsS131 w0 W g f0 f1) (ho : d.Q e W base ok v xs) (ht : e ≠ 131) : some g ≠ v.ownBlock := by
 obtain ⟨A0, c0, hb, hg, hr0⟩ := h
 exact Kd.Q_ne ho hb ht
theorem IsS131.apartS {w0 W : World} {g : Nat} {f0 : List Int} {f1 : Int} {α : Type} {d : Kd α} {e : Nat} {base : Nat} {ok : Nat → Prop} {v : Value} {xs : List α} (h : IsS131 w0 W g f0 f1) (ho : d.S e W base ok v xs) (ht : ∀ q, q ∈ e :: d.E → q ≠ 131) : d.S e W base (fun k => ok k ∧ k ≠ g) v xs := by
 obtain ⟨A0, c0, hb, hg, hr0⟩ := h
 exact Kd.S_types ho hb ht
theorem IsS131.own_neS {w0 W : World} {g : Nat} {f0 : List Int} {f1 : Int} {α : Type} {d : Kd α} {e : Nat} {base : Nat} {ok : Nat → Prop} {v : Value} {xs : List α} (h : IsS131 w0 W g f0 f1) (ho : d.S e W base ok v xs) (ht : e ≠ 131) : some g ≠ v.ownBlock := by
 obtain ⟨A0, c0, hb, hg, hr0⟩ := h
 exact Kd.S_ne ho hb ht
theorem IsS131.lt {w0 W : World} {g : Nat} {f0 : List Int} {f1 : Int} (h : IsS131 w0 W g f0 f1) : g < W.heap.size := by
 obtain ⟨A0, c0, hb, hg, hr0⟩ := h
 exact blk_lt hb
theorem IsS131.ge {w0 W : World} {g : Nat} {f0 : List Int} {f1 : Int} (h : IsS131 w0 W g f0 f1) : w0.heap.size ≤ g := by
 obtain ⟨A0, c0, hb, hg, hr0⟩ := h
 exact hg
theorem IsS131.ne_blk {w0 W : World} {g : Nat} {f0 : List Int} {f1 : Int} {a : Nat} {cs : Array Value} {t : TypeId} {fr : Nat × Nat} (h : IsS131 w0 W g f0 f1) (hb2 : W.heap[a]? = some (.cells cs t fr)) (ht : t ≠ 131) : g ≠ a := by
 obtain ⟨A0, c0, hb, hg, hr0⟩ := h
 rintro rfl
 rw [hb] at hb2
 injection hb2 with hb2
 injection hb2 with _ ht2
 exact ht ht2.symm
theorem IsS131.far {w0 W : World} {g : Nat} {f0 : List Int} {f1 : Int} {p : Addr} (h : IsS131 w0 W g f0 f1) (hne : g ≠ p.block) (u : Value) : IsS131 w0 (W.setCell p u) g f0 f1 := by
 obtain ⟨A0, c0, hb, hg, hr0⟩ := h
 exact ⟨A0, c0, blk_far hb hne u, hg, hr0⟩
theorem cellS131_0 {W : World} {g : Nat} {A0 : Option Addr} {c0 : Nat} {f0 : List Int} {f1 : Int} (h : W.heap[g]? = some (.cells #[.slice A0 f0.length c0, .int .i64 f1] 131 (0, 0))) : W.cell? ⟨g, 0, none⟩ = some (.slice A0 f0.length c0) := (blk_cell h 0).trans rfl
theorem cellS131_1 {W : World} {g : Nat} {A0 : Option Addr} {c0 : Nat} {f0 : List Int} {f1 : Int} (h : W.heap[g]? = some (.cells #[.slice A0 f0.length c0, .int .i64 f1] 131 (0, 0))) : W.cell? ⟨g, 1, none⟩ = some (.int .i64 f1) := (blk_cell h 1).trans rfl
theorem IsS131.set_1 {w0 W : World} {g : Nat} {f0 : List Int} {f1 : Int} (h : IsS131 w0 W g f0 f1) (x : Int) : IsS131 w0 (W.setCell ⟨g, 1, none⟩ (.int .i64 x)) g f0 x := by
 obtain ⟨A0, c0, hb, hg, hr0⟩ := h
 exact ⟨A0, c0, by simpa using blk_set hb 1 (.int .i64 x), hg, hr0⟩
theorem IsS131.new (w0 W : World) (A0 : Option Addr) (c0 : Nat) (f0 : List Int) (f1 : Int) (hB : Below w0.heap.size w0 W) (hr0 : Kd.C (Kd.int .u8) w0 A0 f0.length f0) : IsS131 w0 (W.alloc (.cells #[.slice A0 f0.length c0, .int .i64 f1] 131)) W.heap.size f0 f1 := ⟨A0, c0, by simpa using heap_alloc_new W _, hB.size, hr0⟩

def F80.f (l0 : List Int) : Option (List Int × Int) := if (l0.length : Int) > 2000 then (if 2000 ≤ (l0.length : Int) then (some (l0.take 2000, 0)) else (none)) else (some (l0, 0))
theorem F80.c (A0 : Option Addr) (c0 : Nat) (l0 : List Int) (r1 : List Int) (r2 : Int) (w0 w : World) (hB : Below w0.heap.size w0 w) (hr0 : Kd.C (Kd.int .u8) w0 A0 l0.length l0) (hc0 : l0.length ≤ c0) (H : F80.f l0 = some (r1, r2)) :
  Calls prog 66 #[.slice A0 l0.length c0] w fun e w' => ∃ g_ : Nat, e = .returned (.pointer (some ⟨g_, 0, none⟩)) ∧ IsS131 w0 w' g_ r1 r2 ∧ Below w0.heap.size w0 w' ∧ Below w.heap.size w w' := by
 have hu131 := underlying131
 have HR0 := sqa hr0
 have HC0 := sqa hc0
 clear hr0 hc0
 have HBW := sqa (Below.refl w.heap.size w)
 have HW0 := sqa hB.size
 have HB := sqa hB
 clear hB
 unfold F80.f at H
 by_cases c2 : (l0.length : Int) > 2000
 ·rw [if_pos c2] at H
  have c2b0 : decide (2000 < (l0.length : Int)) = true := decide_eq_true c2
  have c2b1 : decide (2000 < l0.length) = true := decide_eq_true (by omega)
  clear c2
  obtain ⟨c3, H⟩ := sqI H
  have c3b0 := eq_true c3
  have c3b1 : decide (2000 ≤ (l0.length : Int)) = true := decide_eq_true c3
  clear c3
  obtain ⟨rfl, rfl⟩ := sqO2 H
  obtain ⟨i04, hi0, _, hsz4, _⟩ := info_parts info5
  obtain ⟨hcut4, hA4, hC4⟩ := print_take_of (P := prog) (Value.int .u8) 0 43 5 .i64 underlying43 hi0 hsz4 A0 c0 l0 2000 (by omega) (of_decide_eq_true Z7) HC0.1
  have HR1 := sqa (Kd.C_of_reads (h1 := fun _ => rfl) (hA4 _ (Kd.reads_of_C HR0.1)))
  have HC1 := sqa hC4
  clear hA4 hC4 hi0 hsz4
  go_enter func66, ntmps66
  go_wp2_with (first | ((with_reducible refine sqd 10 rfl ?_); refine sqBox (N := 10) (cs := #[.slice A0 (l0.take 2000).length c0, .int .i64 0]) (t := 131) ?_; intro g0 hg w5 B0 hb; replace HB := sqS (sqB HB) hb; have GW0 := sqa ((sqG hg (sqB HBW))); have E0 := sqa ((Nat.le_trans HW0.out (sqG hg (sqB HBW)) : w0.heap.size ≤ g0)); replace HBW := sqa (below_step HBW.1 hb); clear hb hg))
  go_ret
  exact ⟨_, rfl, (show IsS131 w0 _ g0 (l0.take 2000) 0 from ⟨_, _, by exact sqK B0, E0.1, HR1.1⟩), sqB1 HB E0, sqB1 HBW GW0⟩
 rw [if_neg c2] at H
 have c2b0 : decide (2000 < (l0.length : Int)) = false := decide_eq_false c2
 have c2b1 : decide (2000 < l0.length) = false := decide_eq_false (by omega)
 clear c2
 obtain ⟨rfl, rfl⟩ := sqO2 H
 go_enter func66, ntmps66
 go_wp2_with (first | ((with_reducible refine sqd 10 rfl ?_); refine sqBox (N := 10) (cs := #[.slice A0 l0.length c0, .int .i64 0]) (t := 131) ?_; intro g1 hg w6 B2 hb; replace HB := sqS (sqB HB) hb; have GW1 := sqa ((sqG hg (sqB HBW))); have E1 := sqa ((Nat.le_trans HW0.out (sqG hg (sqB HBW)) : w0.heap.size ≤ g1)); replace HBW := sqa (below_step HBW.1 hb); clear hb hg))
 go_ret
 exact ⟨_, rfl, (show IsS131 w0 _ g1 l0 0 from ⟨_, _, by exact sqK B2, E1.1, HR0.1⟩), sqB1 HB E1, sqB1 HBW GW1⟩

def F33.f (a0 : Int) (a1 : Int) (a2 : Int) : Option (Bool) := if a0 ≥ a1 then (some (decide (a0 ≤ a2))) else (some false)
theorem F33.c (a0 : Int) (a1 : Int) (a2 : Int) (r : Bool) (w : World) (H : F33.f a0 a1 a2 = some r) :
  Calls prog 101 #[.int .i64 a0, .int .i64 a1, .int .i64 a2] w fun e w' => e = .returned (.bool r) ∧ Drawn0 w w' := by
 unfold F33.f at H
 by_cases c4 : a0 ≥ a1
 ·rw [if_pos c4] at H
  have c4b0 : decide (a1 ≤ a0) = true := decide_eq_true c4
  clear c4
  obtain rfl := sqo H
  go_enter func101, ntmps101
  go_wp2
  go_ret
  exact ⟨Z2, Z87⟩
 rw [if_neg c4] at H
 have c4b0 : decide (a1 ≤ a0) = false := decide_eq_false c4
 clear c4
 obtain rfl := sqo H
 go_enter func101, ntmps101
 go_wp2
 go_ret
 exact ⟨Z2, Z87⟩

def F15.l0 : Nat → Int → Int → Option (Int)
 | 0, _, _ => none
 | k + 1, x0, x1 => if x1 > 0 then (if x1 = 0 then (none) else (F15.l0 k x1 (Int.tmod x0 x1))) else (some x0)
def F15.f (k : Nat) (a0 : Int) (a1 : Int) : Option (Int) := F15.l0 k (mx a0 (wrap64 (-a0))) (mx a1 (wrap64 (-a1)))
abbrev F15.M (k : Nat) : Prop := (∀ y0 y1, LeO (F15.l0 k y0 y1) (F15.l0 (k + 1) y0 y1))
theorem F15.mt : ∀ k, F15.M k → F15.M (k + 1) ∧ ∀ a0 a1, LeO (F15.f k a0 a1) (F15.f (k + 1) a0 a1) := by
  rintro k ih0
  refine ⟨?_, ?_⟩ <;> (try unfold F15.M) <;> intros <;> (first | unfold F15.l0 | unfold F15.f) <;> repeat' (with_reducible first | exact ih0 _ _ | exact LeO.refl _ | exact LeO.none _ | refine LeO.ite ?_ ?_ | refine LeO.bind ?_ fun _ => ?_)
theorem F15.ml : ∀ k, F15.M k
 | 0 => fun _ _ r h => by simp [F15.l0] at h
 | k + 1 => (F15.mt k (F15.ml k)).1
theorem F15.m a0 a1 k : LeO (F15.f k a0 a1) (F15.f (k + 1) a0 a1) := (F15.mt k (F15.ml k)).2 a0 a1
theorem F15.c (k : Nat) (a0 : Int) (a1 : Int) (r : Int) (w : World) (H : F15.f k a0 a1 = some r) :
  Calls prog 121 #[.int .i64 a0, .int .i64 a1] w fun e w' => e = .returned (.int .i64 r) ∧ Below w.heap.size w w' := by
 have HB := sqh w
 unfold F15.f at H
 obtain ⟨ji3, hji3⟩ : ∃ j_ : Int, (mx a0 (wrap64 (-a0))) = j_ := ⟨_, rfl⟩
 replace H : (F15.l0 k ji3 (mx a1 (wrap64 (-a1)))) = some r := by first | (rw [hji3] at H; exact H) | (simp only [hji3] at H ⊢; exact H)
 have hji3_ : (if a0 < (wrap64 (-a0)) then (wrap64 (-a0)) else a0) = ji3 := hji3
 obtain ⟨ji4, hji4⟩ : ∃ j_ : Int, (mx a1 (wrap64 (-a1))) = j_ := ⟨_, rfl⟩
 replace H : (F15.l0 k ji3 ji4) = some r := by first | (rw [hji4] at H; exact H) | (simp only [hji4] at H ⊢; exact H)
 have hji4_ : (if a1 < (wrap64 (-a1)) then (wrap64 (-a1)) else a1) = ji4 := hji4
 have H' := sqa H
 clear H
 go_enter func121, ntmps121
 go_wp2
 go_loopg [0, 1] k (fun kq v0 v1 w' => ∃ (x0_1 : Int) (x1_1 : Int), v0 = .int .i64 x0_1 ∧ v1 = .int .i64 x1_1 ∧ Aside0 (F15.l0 kq x0_1 x1_1 = some r) ∧ Aside0 (kq ≤ k) ∧ Aside0 (Below w.heap.size w w'))
 case atStart => exact ⟨(ji3), (ji4), (by first | rfl | (simp; done) | (simp only [← hji3] <;> (first | rfl | simp)) | (simp [*]; done)), (by first | rfl | (simp; done) | (simp only [← hji4] <;> (first | rfl | simp)) | (simp [*]; done)), H', ⟨Nat.le_refl _⟩, ⟨sqB HB⟩⟩
 case round =>
  clear H'
  obtain ⟨x0_1, x1_1, rfl, rfl, HA, HK1, HB⟩ := hrel
  cases gk with
  | zero => exact absurd HA.out (by simp [F15.l0])
  | succ k1 =>
   have H := HA.out
   clear HA
   simp only [F15.l0] at H
   by_cases c5 : x1_1 > 0
   ·rw [if_pos c5] at H
    have c5b0 : decide (0 < x1_1) = true := decide_eq_true c5
    clear c5
    by_cases c6 : x1_1 = 0
    ·rw [if_pos c6] at H
     exact absurd H (by simp)
    rw [if_neg c6] at H
    have c6b0 : (x1_1 == 0) = false := sqe0 c6
    have c6b1 : (x1_1 != 0) = true := sqn1 c6
    have H' := sqa H
    clear H
    go_wp2
    go_roundg k1
    case measure => have := HK1.out; omega
    case rel => exact ⟨(x1_1), (Int.tmod x0_1 x1_1), Z2, Z2, H', ⟨Z15 HK1⟩, ⟨sqB HB⟩⟩
   rw [if_neg c5] at H
   have c5b0 : decide (0 < x1_1) = false := decide_eq_false c5
   clear c5
   obtain rfl := sqo H
   go_wp2
   go_ret
   exact ⟨by first | rfl | (simp [errP_none, errP_some] <;> rfl) | (simp only [← hji3, ← hji4]; first | rfl | (simp [errP_none, errP_some] <;> rfl)) | (simp [*, errP_none, errP_some] <;> rfl), sqB HB⟩
end
end Go.Proofs.YtofmlbgfcohhoaaGreatDoor.PFnReadJournal
