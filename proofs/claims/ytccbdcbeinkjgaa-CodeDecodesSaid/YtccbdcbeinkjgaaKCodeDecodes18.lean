/- Part 18 of the proof of the law CodeDecodes for every input: words, walks and plain laws. No condition. -/
import Derived.Test.YtccbdcbeinkjgaaKCodeDecodes17
set_option linter.unusedVariables false
set_option linter.unusedSimpArgs false
set_option maxHeartbeats 8000000
set_option maxRecDepth 100000
section
namespace Go.Proofs.Ytccbdcbeinkjgaa.XA
open Go.Proofs.Ytccbdcbeinkjgaa.Lift Go.RowKit Go.Proofs.YtccbdcbeinkjgaaW.PrintWords Go.Proofs.YtccbdcbeinkjgaaW.PrintLast Go.Proofs.YtccbdcbeinkjgaaW.PrintMore
attribute [local go_sem] max2_int min2_int max_two min_two max_three min_three max_four min_four
def sR_newreader.f (l0 : List Int) : Option (List Int × Int × Int) := some (l0, 0, -1)
theorem sR_newreader.is {w0 W : World} {g : Nat} {l0 t1 : List Int} {t2 t3 : Int} (h : sR_newreader.f l0 = some (t1, t2, t3)) (hI : I8 w0 W g l0 0 (-1)) : I8 w0 W g t1 t2 t3 := by
 simp only [sR_newreader.f, Option.some.injEq, Prod.mk.injEq] at h
 obtain ⟨rfl, rfl, rfl⟩ := h
 exact hI
end Go.Proofs.Ytccbdcbeinkjgaa.XA
end
