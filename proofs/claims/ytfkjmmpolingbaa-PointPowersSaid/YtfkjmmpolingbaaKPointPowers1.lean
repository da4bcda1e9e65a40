/- Part 1 of the proof of the law PointPowers for every input: words, walks and plain laws. No condition. -/
import Derived.Test.YtfkjmmpolingbaaKPointPowers0
section
/- Words of this session's own beside the printer's: a cut whose capacity is its length; what came in, told by its footprint. -/
namespace Go.Proofs.Ytfkjmmpolingbaa.Own
open Go.Proofs.YtfkjmmpolingbaaW.PrintWords
variable {α : Type} {d : Kd α} {e base : Nat} {W : World} {ok : Nat → Prop} {A : Option Addr} {n c m : Nat} {xs : List α}
theorem V_of_cap {v : Value} (h : Kd.V d e W base ok (.slice A n c) xs) (hv : v = .slice A n n) : Kd.V d e W base ok v xs := by
  obtain ⟨hn, _, hf⟩ := Kd.V_at h
  subst hv
  subst hn
  exact ⟨A, xs.length, rfl, Nat.le_refl _, hf⟩
end Go.Proofs.Ytfkjmmpolingbaa.Own
end
