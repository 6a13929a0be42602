/-
  The arguments of the laws of layer 37, read.
-/
import Derived.Test.YtlcmmaokfbjojaaRows
import Derived.Test.YtlcmmaokfbjojaaPreD
import Derived.Test.YtlcmmaokfbjojaaFw5
set_option linter.all false
namespace Go.Proofs.Ytlcmmaokfbjojaa
open Go.ChangeShapes Go.WideShapes Go.ChangeAt Go.RowKit Go.Ab

theorem Try.own : ownKnob Try.prog.godebug = none := by kernel_rfl
theorem Try.laidOut : laidOutB Try.prog = true := by kernel_rfl

theorem rep_is {H : Type} {enc : TypeId × Value → H} {W : World} {base : Nat} {v : Value} {d : DataW H} {p : List MemPlace} {M : Nat → Prop} {r : Go.Reach} {b0 : Nat} (hM : ∀ b, b < W.heap.size → M b)
    (hval : Value.okWide Try.prog W r b0 22 v) (h : DataW.Trod enc Try.prog W base (fun _ => true) true 22 v d p) : ∃ L : List Int, L.length ≤ maxLen ∧ RepZ W M v (.sl (L.map ii)) :=
  rep_sliceV ii 1 (by decide) (fun _ => rfl) Try.underlying22 (by kernel_rfl) hM (el_int Try.underlying3) hval h

end Go.Proofs.Ytlcmmaokfbjojaa
