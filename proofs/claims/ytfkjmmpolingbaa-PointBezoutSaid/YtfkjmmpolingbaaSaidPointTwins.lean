import Derived.Test.YtfkjmmpolingbaaXAx12
import Derived.Test.YtfkjmmpolingbaaOpn
namespace Go.Proofs.Ytfkjmmpolingbaa.SaidPointTwins
open Go.RowKit Go.Proofs.YtfkjmmpolingbaaW.PrintWords Go.Proofs.YtfkjmmpolingbaaW.PrintLast Go.Proofs.Ytfkjmmpolingbaa.Opn Go.Proofs.Ytfkjmmpolingbaa.XA
set_option linter.unusedVariables false
/-- What is known of whatever is read at this type. -/
def wfS23 (x : S23) : Prop := (Lit.int .i64 x.f0).wf = true ∧ (Lit.int .i64 x.f1).wf = true
theorem opnS23 : Opn Try.prog 23 k23 wfS23 := opn_iso (fun x : S23 => (x.f0, x.f1)) (fun p => ⟨p.1, p.2⟩) (fun _ => rfl) (opn_struct Try.underlying23 (by kernel_rfl) (fs_cons rfl (by kernel_rfl) (opn_int Try.underlying3) (fs_one rfl (by kernel_rfl) (opn_int Try.underlying3))))
/-- THE PURE STATEMENT. -/
def Pure : Prop := ∀ (x0 : List (S23)), (x0.length * 16 ≤ 140737488351232 ∧ x0.length ≤ 9223372036854775807 ∧ ∀ y ∈ x0, wfS23 y) → ∃ k, swagelaw06_PointTwins.f k x0 = some true
end Go.Proofs.Ytfkjmmpolingbaa.SaidPointTwins
