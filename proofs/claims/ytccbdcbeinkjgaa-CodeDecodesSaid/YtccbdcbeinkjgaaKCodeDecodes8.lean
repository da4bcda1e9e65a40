/- Part 8 of the proof of the law CodeDecodes for every input: words, walks and plain laws. No condition. -/
import Derived.Test.YtccbdcbeinkjgaaKCodeDecodes7
set_option linter.unusedVariables false
set_option linter.unusedSimpArgs false
set_option maxHeartbeats 8000000
set_option maxRecDepth 100000
section
namespace Go.Proofs.Ytccbdcbeinkjgaa.XA
open Go.Proofs.Ytccbdcbeinkjgaa.Lift Go.RowKit Go.Proofs.YtccbdcbeinkjgaaW.PrintWords Go.Proofs.YtccbdcbeinkjgaaW.PrintLast Go.Proofs.YtccbdcbeinkjgaaW.PrintMore
attribute [local go_sem] max2_int min2_int max_two min_two max_three min_three max_four min_four
def code_newreader.f (l0 : List Int) : Option (List Int × Int × Bool) := some (l0, 0, false)
theorem code_newreader.is {w0 W : World} {g : Nat} {l0 t1 : List Int} {t2 : Int} {t3 : Bool} (h : code_newreader.f l0 = some (t1, t2, t3)) (hI : I7 w0 W g l0 0 false) : I7 w0 W g t1 t2 t3 := by
 simp only [code_newreader.f, Option.some.injEq, Prod.mk.injEq] at h
 obtain ⟨rfl, rfl, rfl⟩ := h
 exact hI
end Go.Proofs.Ytccbdcbeinkjgaa.XA
end
