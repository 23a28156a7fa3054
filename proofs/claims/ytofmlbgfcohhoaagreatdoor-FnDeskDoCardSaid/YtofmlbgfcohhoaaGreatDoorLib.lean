import Derived.Test.YtofmlbgfcohhoaaGreatDoorShelf
import Derived.WalkSmall
import Derived.Lib.AppendIntMem
/-! The library functions that seat r7's code calls, each as a Lean function with its contract in the shape of the printed ones, and what they want of the world. Own text. -/
set_option linter.unusedVariables false
namespace Go.Proofs.YtofmlbgfcohhoaaGreatDoor.Lib
open Go.Proofs Go.RowKit

/-- What the library's functions read of the program's variables. -/
structure Glob (w : World) : Prop where
  mx : ∃ m, w.cell? ⟨0, 0, none⟩ = some (.int .i64 m)
  tab : Go.Lib.TabIs Tryz.prog w "internal/strconv.uint64pow10" .u64 Go.Lib.pow10Tab
  e1 : ∃ ev, w.cell? ⟨1, 0, none⟩ = some ev ∧ (ev = .nilIface ∨ ∃ te pe, ev = .iface te pe)
  e2 : ∃ ev, w.cell? ⟨2, 0, none⟩ = some ev ∧ (ev = .nilIface ∨ ∃ te pe, ev = .iface te pe)

theorem tab_lt {w : World} (h : Go.Lib.TabIs Tryz.prog w "internal/strconv.uint64pow10" .u64 Go.Lib.pow10Tab) : ∃ g, Tryz.prog.globalNamed "internal/strconv.uint64pow10" = some g ∧ g < w.heap.size := by
  unfold Go.Lib.TabIs World.var? at h
  obtain ⟨g, hg, h2⟩ := Option.bind_eq_some_iff.1 h
  refine ⟨g, hg, ?_⟩
  by_cases hl : g < w.heap.size
  · exact hl
  · rw [Array.getElem?_eq_none (by omega)] at h2
    cases h2

theorem Glob.below {w w' : World} (h : Glob w) (hb : Below w.heap.size w w') : Glob w' := by
  obtain ⟨⟨m, hm⟩, ht, ⟨e1, he1, hv1⟩, ⟨e2, he2, hv2⟩⟩ := h
  refine ⟨⟨m, (hb.cell (World.block_lt_of_cell? w _ hm)).trans hm⟩, ?_, ⟨e1, (hb.cell (World.block_lt_of_cell? w _ he1)).trans he1, hv1⟩, ⟨e2, (hb.cell (World.block_lt_of_cell? w _ he2)).trans he2, hv2⟩⟩
  obtain ⟨g, hg, hl⟩ := tab_lt ht
  exact var?_below hb hg hl ht

def strings_Trim.f (a0 a1 : ByteArray) : Option ByteArray :=
  if a0.size ≤ 9223372036854775807 ∧ a1.size < 4294967281 ∧ a1.data.toList.all (fun b => decide (b.toNat < 128)) = true then
    some ⟨(Lib.trimS a0.data.toList a1.data.toList).toArray⟩ else none

theorem strings_Trim.calls (a0 : ByteArray) (a1 : ByteArray) (r : ByteArray) (w : World) (h : strings_Trim.f a0 a1 = some r) :
    Calls Tryz.prog 139 #[.string a0, .string a1] w fun e w' => e = .returned (.string r) ∧ Below w.heap.size w w' := by
  unfold strings_Trim.f at h
  split at h
  · next hc =>
    cases h
    exact Any.strings_Trim_laid Tryz.lays160 (by kernel_rfl) a0 a1 w hc.1 hc.2.1 (ascii_of_all hc.2.2)
  · cases h

def strings_Cut.f (a0 a1 : ByteArray) : Option (ByteArray × ByteArray × Bool) :=
  if a0.size < 4294967281 then some (⟨(Lib.cut a0.data.toList a1.data.toList).1.toArray⟩, ⟨(Lib.cut a0.data.toList a1.data.toList).2.1.toArray⟩, (Lib.cut a0.data.toList a1.data.toList).2.2) else none

theorem strings_Cut.calls (a0 : ByteArray) (a1 : ByteArray) (r1 : ByteArray) (r2 : ByteArray) (r3 : Bool) (w : World) (hG : Glob w) (h : strings_Cut.f a0 a1 = some (r1, r2, r3)) :
    Calls Tryz.prog 84 #[.string a0, .string a1] w fun e w' => e = .returned (.tuple #[.string r1, .string r2, .bool r3]) ∧ Below w.heap.size w w' := by
  unfold strings_Cut.f at h
  split at h
  · next hc =>
    cases h
    obtain ⟨m, hm⟩ := hG.mx
    refine (Tryz.strings_Cut a0 a1 m w hc hm).mono ?_
    rintro e w' ⟨rfl, n, rfl⟩
    exact ⟨rfl, ⟨rfl, rfl, rfl, Nat.le_refl _, fun _ _ => rfl⟩⟩
  · cases h

def strconv_Itoa.f (a0 : Int) : Option ByteArray :=
  if -9223372036854775808 ≤ a0 ∧ a0 ≤ 9223372036854775807 then some ⟨(Lib.itoa a0).toArray⟩ else none

theorem strconv_Itoa.calls (a0 : Int) (r : ByteArray) (w : World) (hG : Glob w) (h : strconv_Itoa.f a0 = some r) :
    Calls Tryz.prog 144 #[.int .i64 a0] w fun e w' => e = .returned (.string r) ∧ Below w.heap.size w w' := by
  unfold strconv_Itoa.f at h
  split at h
  · next hc =>
    cases h
    refine (Tryz.strconv_Itoa a0 hc.1 hc.2 w hG.tab).mono ?_
    rintro e w' ⟨rfl, k, os, rfl⟩
    exact ⟨rfl, Go.Lib.below_grow _ w (Nat.le_refl _) k os⟩
  · cases h

/-- An error: nil, or a pointer in an interface. -/
def errP : Option Int → Value
  | none => .nilIface
  | some c => .iface 181 (.pointer (some ⟨c.toNat, 0, none⟩))
theorem errP_none : errP none = .nilIface := rfl
theorem errP_some (c : Int) : errP (some c) = .iface 181 (.pointer (some ⟨c.toNat, 0, none⟩)) := rfl
theorem isNone_none {q : Option Int} (h : q.isNone = (none : Option Int).isNone) : q = none := by
  cases q with
  | none => rfl
  | some x => cases h
theorem isNone_some {q : Option Int} {x : Int} (h : q.isNone = (some x : Option Int).isNone) : ∃ z, q = some z := by
  cases q with
  | none => cases h
  | some z => exact ⟨z, rfl⟩

theorem atoi_rest {e : Go.Lib.NumEnd Int} (h1 : ∀ v, e = .ok v → False) (h2 : e = .range → False) : e = Go.Lib.atoiAll [] := by
  cases e <;> first | exact (h1 _ rfl).elim | exact (h2 rfl).elim | rfl
def strconv_Atoi.f (a0 : ByteArray) : Option (Int × Option Int) :=
  if a0.size ≤ 281474976710656 then
    match Lib.atoiAll a0.data.toList with
    | .ok v => some (v, none)
    | .range => some (Lib.atoiSat a0.data.toList, some 1)
    | _ => some (0, some 1)
  else none

theorem strconv_Atoi.calls (a0 : ByteArray) (r1 : Int) (r2 : Option Int) (w : World) (hG : Glob w) (h : strconv_Atoi.f a0 = some (r1, r2)) :
    Calls Tryz.prog 151 #[.string a0] w fun e w' => ∃ q : Option Int, q.isNone = r2.isNone ∧ e = .returned (.tuple #[.int .i64 r1, errP q]) ∧ Below w.heap.size w w' := by
  unfold strconv_Atoi.f at h
  split at h
  · next hc =>
    split at h
    · next v hv =>
      cases h
      refine (Tryz.strconv_Atoi_ok a0 (by omega) r1 hv w).mono ?_
      rintro e w' ⟨rfl, hw⟩
      refine ⟨none, rfl, rfl, ?_⟩
      rcases hw with rfl | ⟨t, rfl⟩
      · exact Below.refl _ _
      · exact Go.Lib.bytesWorld_below w 5 t
    · next hv =>
      cases h
      obtain ⟨ev, h1, h2⟩ := hG.e2
      refine (Tryz.strconv_Atoi_range a0 hc hv ev w h1 h2).mono ?_
      rintro e w' ⟨N, rfl, _, _, hb⟩
      exact ⟨some (N : Int), rfl, rfl, hb⟩
    · next n1 n2 =>
      have hv := atoi_rest n1 n2
      cases h
      obtain ⟨ev, h1, h2⟩ := hG.e1
      refine (Tryz.strconv_Atoi_syntax a0 hc hv ev w h1 h2).mono ?_
      rintro e w' ⟨N, rfl, _, _, hb⟩
      exact ⟨some (N : Int), rfl, rfl, hb⟩
  · cases h

end Go.Proofs.YtofmlbgfcohhoaaGreatDoor.Lib
