import Derived.Test.YtfkjmmpolingbaaXAx15
import Derived.Test.YtfkjmmpolingbaaOpn
namespace Go.Proofs.Ytfkjmmpolingbaa.SaidPointBezout
open Go.RowKit Go.Proofs.YtfkjmmpolingbaaW.PrintWords Go.Proofs.YtfkjmmpolingbaaW.PrintLast Go.Proofs.Ytfkjmmpolingbaa.Opn Go.Proofs.Ytfkjmmpolingbaa.XA
set_option linter.unusedVariables false
/-- What is known of whatever is read at this type. -/
def wfS23 (x : S23) : Prop := (Lit.int .i64 x.f0).wf = true ∧ (Lit.int .i64 x.f1).wf = true
theorem opnS23 : Opn Try.prog 23 k23 wfS23 := opn_iso (fun x : S23 => (x.f0, x.f1)) (fun p => ⟨p.1, p.2⟩) (fun _ => rfl) (opn_struct Try.underlying23 (by kernel_rfl) (fs_cons rfl (by kernel_rfl) (opn_int Try.underlying3) (fs_one rfl (by kernel_rfl) (opn_int Try.underlying3))))
/-- THE PURE STATEMENT. -/
def Pure : Prop := ∀ (x0 : S23), wfS23 x0 → ∃ k, swagelaw06_PointBezout.f k x0.f0 x0.f1 = some true
end Go.Proofs.Ytfkjmmpolingbaa.SaidPointBezout
