/- Rounds that suffice: words beside the printer's 'Ev'. -/
import Derived.Test.YtfkjmmpolingbaaWWords
namespace Go.Proofs.Ytfkjmmpolingbaa.Evs
open Go.Proofs.YtfkjmmpolingbaaW.PrintWords
section
variable {β : Type} {c : Prop} [Decidable c] {f g : Nat → Option β} {r : β}
theorem ev_pos (hc : c) (h : Ev f r) : Ev (fun n => if c then f n else g n) r := Ev.congr (fun _ => if_pos hc) h
theorem ev_neg (hc : ¬ c) (h : Ev g r) : Ev (fun n => if c then f n else g n) r := Ev.congr (fun _ => if_neg hc) h
end
end Go.Proofs.Ytfkjmmpolingbaa.Evs
