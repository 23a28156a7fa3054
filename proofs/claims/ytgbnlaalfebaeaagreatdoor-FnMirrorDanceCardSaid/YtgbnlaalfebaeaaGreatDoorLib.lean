import Derived.Test.YtgbnlaalfebaeaaGreatDoorShelf
import Derived.Test.YtgbnlaalfebaeaaGreatDoorNew
/-! The functions that seat r5z's code calls, each as a Lean function with its contract in the shape of the printed ones. Own text. -/
set_option linter.unusedVariables false
namespace Go.Proofs.YtgbnlaalfebaeaaGreatDoor.Lib
open Go.Proofs Go.RowKit Go.Proofs.YtgbnlaalfebaeaaGreatDoor.Rep
def strings_Trim.f (a0 a1 : ByteArray) : Option ByteArray :=
  if a0.size ≤ 9223372036854775807 ∧ a1.size < 4294967281 ∧ a1.data.toList.all (fun b => decide (b.toNat < 128)) = true then
    some ⟨(Lib.trimS a0.data.toList a1.data.toList).toArray⟩ else none
theorem strings_Trim.calls (a0 : ByteArray) (a1 : ByteArray) (r : ByteArray) (w : World) (h : strings_Trim.f a0 a1 = some r) :
    Calls Tryz.prog 51 #[.string a0, .string a1] w fun e w' => e = .returned (.string r) ∧ Below w.heap.size w w' := by
  unfold strings_Trim.f at h
  split at h
  · next hc =>
    cases h
    exact Any.strings_Trim_laid Tryz.lays160 (by kernel_rfl) a0 a1 w hc.1 hc.2.1 (ascii_of_all hc.2.2)
  · cases h
def impl_mirrorDance.f (a0 : ByteArray) : Option ByteArray := if a0.size ≤ 9223372036854775807 then some (mirT a0) else none
theorem impl_mirrorDance.calls (a0 : ByteArray) (r : ByteArray) (w : World) (h : impl_mirrorDance.f a0 = some r) :
    Calls Tryz.prog 20 #[.string a0] w fun e w' => e = .returned (.string r) ∧ Below w.heap.size w w' := by
  unfold impl_mirrorDance.f at h
  split at h
  · next hc => cases h; exact mirror_calls a0 hc w
  · cases h
end Go.Proofs.YtgbnlaalfebaeaaGreatDoor.Lib
