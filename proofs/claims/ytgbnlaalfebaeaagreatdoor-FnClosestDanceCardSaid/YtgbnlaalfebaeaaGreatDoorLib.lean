import Derived.Test.YtgbnlaalfebaeaaGreatDoorShelf
import Derived.Test.YtgbnlaalfebaeaaGreatDoorNew
import Derived.WalkSmall
import Derived.Test.YtgbnlaalfebaeaaGreatDoorWMore
/-! The functions that seat r5z's code calls, each as a Lean function with its contract in the shape of the printed ones. Own text. -/
set_option linter.unusedVariables false
namespace Go.Proofs.YtgbnlaalfebaeaaGreatDoor.Lib
open Go.Proofs Go.RowKit Go.Proofs.YtgbnlaalfebaeaaGreatDoor.Rep Go.Proofs.YtgbnlaalfebaeaaGreatDoorW.PrintWords Go.Proofs.YtgbnlaalfebaeaaGreatDoorW.PrintLast Go.Proofs.YtgbnlaalfebaeaaGreatDoorW.PrintMore
def strings_Trim.f (a0 a1 : ByteArray) : Option ByteArray :=
  if a0.size ≤ 9223372036854775807 ∧ a1.size < 4294967281 ∧ a1.data.toList.all (fun b => decide (b.toNat < 128)) = true then
    some ⟨(Lib.trimS a0.data.toList a1.data.toList).toArray⟩ else none
theorem strings_Trim.calls (a0 : ByteArray) (a1 : ByteArray) (r : ByteArray) (w : World) (h : strings_Trim.f a0 a1 = some r) :
    Calls Tryz.prog 51 #[.string a0, .string a1] w fun e w' => e = .returned (.string r) ∧ Below w.heap.size w w' := by
  unfold strings_Trim.f at h
  split at h
  · next hc =>
    cases h
    exact Any.strings_Trim_laid Tryz.lays160 (by kernel_rfl) a0 a1 w hc.1 hc.2.1 (ascii_of_all hc.2.2)
  · cases h
def impl_mirrorDance.f (a0 : ByteArray) : Option ByteArray := if a0.size ≤ 9223372036854775807 then some (mirT a0) else none
theorem impl_mirrorDance.calls (a0 : ByteArray) (r : ByteArray) (w : World) (h : impl_mirrorDance.f a0 = some r) :
    Calls Tryz.prog 20 #[.string a0] w fun e w' => e = .returned (.string r) ∧ Below w.heap.size w w' := by
  unfold impl_mirrorDance.f at h
  split at h
  · next hc => cases h; exact mirror_calls a0 hc w
  · cases h
def strings_Repeat.f (a0 : ByteArray) (a1 : Int) : Option ByteArray :=
  if 0 ≤ a1 ∧ a1 ≤ 9223372036854775807 ∧ a0.size * a1.toNat ≤ 140737488355328 then some ⟨(Lib.repeatL a0.data.toList a1.toNat).toArray⟩ else none
theorem strings_Repeat.calls (a0 : ByteArray) (a1 : Int) (r : ByteArray) (w : World) (h : strings_Repeat.f a0 a1 = some r) :
    Calls Tryz.prog 46 #[.string a0, .int .i64 a1] w fun e w' => e = .returned (.string r) ∧ Below w.heap.size w w' := by
  unfold strings_Repeat.f at h
  split at h
  · next hc =>
    cases h
    obtain ⟨c, rfl⟩ := Int.eq_ofNat_of_zero_le hc.1
    exact Tryz.strings_Repeat a0 c w (by omega) hc.2.2
  · cases h
def strings_Join.f (l0 : List ByteArray) (a1 : ByteArray) : Option ByteArray :=
  if l0.length ≤ 140737488355328 ∧ (Lib.join (l0.map (·.data.toList)) a1.data.toList).length ≤ 140737488355328 then some ⟨(Lib.join (l0.map (·.data.toList)) a1.data.toList).toArray⟩ else none

/-- A row of one's own lies at a block's head. -/
theorem spot_of {e base : Nat} {ok : Nat → Prop} {w : World} {A : Option Addr} {n c : Nat} {xs : List ByteArray} (h : Kd.R Kd.string e w base ok (.slice A n c) xs) : xs.length ≤ c ∧ ∀ a, A = some a → a.spot = none := by
  have h1 := (Kd.R_reads' h).1
  have h2' := (Kd.R_reads' h).2.1
  have h2 : xs.length ≤ c := by omega
  obtain ⟨_, inner, ho, _⟩ := h
  obtain ⟨_, hx⟩ := ho
  rcases hx with ⟨hv, hn⟩ | ⟨g, cap, cur, he, _⟩
  · injection hv with hA hn' hc'
    subst hA
    exact ⟨h2, fun a ha => by cases ha⟩
  · injection he with hA hn' hc'
    subst hA
    exact ⟨h2, fun a ha => by cases ha; rfl⟩

theorem strings_Join.calls (A0 : Option Addr) (c0 : Nat) (l0 : List ByteArray) (a1 : ByteArray) (r : ByteArray) (w : World) (hr0 : Kd.C Kd.string w A0 l0.length l0) (hc0 : l0.length ≤ c0 ∧ ∀ a, A0 = some a → a.spot = none) (h : strings_Join.f l0 a1 = some r) :
    Calls Tryz.prog 30 #[.slice A0 l0.length c0, .string a1] w fun e w' => e = .returned (.string r) ∧ Below w.heap.size w w' := by
  unfold strings_Join.f at h
  split at h
  · next hc =>
    cases h
    by_cases h0 : 0 < l0.length
    · obtain ⟨ad, hA, hcell⟩ := hr0.2.2 h0
      subst hA
      have hs := hc0.2 ad rfl
      obtain ⟨b, o, sp⟩ := ad
      simp only at hs
      subst hs
      have cells : ∀ (j : Nat) x, l0[j]? = some x → w.cell? ⟨b, o + j, none⟩ = some (.string x) := by
        intro j x hx
        obtain ⟨c, hl, hk, hcc⟩ := hcell j x hx
        have hk' : c = [.string x] := hk
        subst hk'
        have := hcc 0 _ rfl
        simp only [Kd.string, Kd.scalar, Nat.mul_one, Nat.add_zero] at this
        by_cases hj : j = 0
        · subst hj; exact this
        · unfold Addr.add at this
          rw [if_neg hj] at this
          exact this
      have hbk : b < w.heap.size := by
        obtain ⟨x, hx⟩ : ∃ x, l0[0]? = some x := ⟨_, List.getElem?_eq_getElem h0⟩
        exact World.block_lt_of_cell? w _ (cells 0 x hx)
      exact Tryz.strings_Join b o c0 l0 a1 w cells hbk hc.1 hc0.1 hc.2
    · have e : l0 = [] := List.eq_nil_of_length_eq_zero (by omega)
      subst e
      refine (Tryz.strings_Join_none A0 c0 a1 w).mono ?_
      rintro e w' ⟨rfl, rfl⟩
      exact ⟨rfl, Below.refl _ _⟩
  · cases h

end Go.Proofs.YtgbnlaalfebaeaaGreatDoor.Lib
