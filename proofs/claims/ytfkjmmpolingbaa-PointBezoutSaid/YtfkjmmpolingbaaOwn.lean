/- Words of this session's own beside the printer's: a cut whose capacity is its length; what came in, told by its footprint. -/
import Derived.Test.YtfkjmmpolingbaaWMore
import Derived.Test.YtfkjmmpolingbaaWShare
namespace Go.Proofs.Ytfkjmmpolingbaa.Own
open Go.Proofs.YtfkjmmpolingbaaW.PrintWords
variable {α : Type} {d : Kd α} {e base : Nat} {W : World} {ok : Nat → Prop} {A : Option Addr} {n c m : Nat} {xs : List α}
theorem V_of_cap {v : Value} (h : Kd.V d e W base ok (.slice A n c) xs) (hv : v = .slice A n n) : Kd.V d e W base ok v xs := by
  obtain ⟨hn, _, hf⟩ := Kd.V_at h
  subst hv
  subst hn
  exact ⟨A, xs.length, rfl, Nat.le_refl _, hf⟩
theorem V_of_C (hd : Kd.Heap d) (h : d.C W A xs.length xs) (hl : xs.length ≤ c) : Kd.V d e W base (fun k => k < W.heap.size) (.slice A xs.length c) xs := ⟨A, c, rfl, hl, Kd.C_F hd h⟩
end Go.Proofs.Ytfkjmmpolingbaa.Own
