/- Part 4 of the proof of the law CodeDecodes for every input: words, walks and plain laws. No condition. -/
import Derived.Laws.IdiomCopy
import Derived.Test.YtccbdcbeinkjgaaKCodeDecodes3
set_option linter.unusedVariables false
set_option linter.unusedSimpArgs false
set_option maxHeartbeats 8000000
set_option maxRecDepth 100000
section
namespace Go.Proofs.Ytccbdcbeinkjgaa.Lift
open Go
open Go.RowKit Go.Proofs.YtccbdcbeinkjgaaW.PrintWords Go.Proofs.YtccbdcbeinkjgaaW.PrintLast Go.Proofs.YtccbdcbeinkjgaaW.PrintMore
theorem zT {P : Prop} (h : P := by first | rfl | (simp; done) | (simp [*]; done)) : P := h
theorem zE {P : Prop} (h : P := by first | rfl | (simp [errW_none, errW_some] <;> rfl) | (simp [*, errW_none, errW_some] <;> rfl)) : P := h
theorem zO {P : Prop} (h : P := by first | omega | exact Nat.le_refl _) : P := h
theorem zD {P : Prop} (h : P := by repeat (first | exact Drawn.refl _ | apply Drawn.step)) : P := h
theorem za {P : Prop} (h : P := by first | (with_reducible assumption) | assumption) : P := h
theorem zA {P : Prop} (h : P := by (try simp only [List.map_toArray, List.map_cons, List.map_nil]); first | done | rfl | (simp only [List.length_drop, List.length_take]; rfl)) : P := h
theorem zk {P : Prop} (h : P := by kernel_rfl) : P := h
theorem zG {P : Prop} (h : P := by first | (go_simp; done) | (go_simp; rfl)) : P := h
theorem zn {P : Prop} (h : P := by first | exact Kd.R_nil _ _ _ _ _ | exact Kd.N_nil _ _ _ _ _ | exact Kd.V_nil _ _ _ _ _ | exact Kd.Q_nil _ _ _ _ _ | exact Kd.S_nil _ _ _ _ _) : P := h
theorem zbs {α β : Type} {x : Option α} {f : α → Option β} {b : β} (h : x.bind f = some b) : ∃ a, x = some a ∧ f a = some b := Option.bind_eq_some_iff.mp h
theorem zB {w0 w w1 : World} (h : Aside0 (Below w0.heap.size w0 w)) (p : Below w0.heap.size w0 w → Below w0.heap.size w0 w1 := by intro h_; repeat (first | (with_reducible first | exact h_ | apply below_alloc | apply pw_below_drewN | apply below_drew1 | refine below_set ?_ (Aside0.out (by assumption))) | (with_reducible refine below_set ?_ (I7.ge (Aside0.out (by assumption)))) | exact h_)) : Below w0.heap.size w0 w1 := p h.out
theorem zK {w0 w w1 : World} {g : Nat} (h : Aside0 (KeepBut w0 w g none)) (p : KeepBut w0 w g none → KeepBut w0 w1 g none := by intro h_; repeat (first | (with_reducible first | exact h_ | apply KeepBut.set_ | apply keep_drewN | apply keep_drew | apply keep_alloc | refine z10_ ?_ (Aside0.out (by assumption)) _) | exact h_)) : KeepBut w0 w1 g none := p h.out
theorem zS {P Q : Prop} (h : Aside0 Q) (p : Q → P := by intro h_; repeat (first | (with_reducible first | exact h_ | apply I7.alloc | apply I7.drewN | apply I7.drew | apply I7.set_1 | apply I7.set_2 | refine I7.far ?_ (Aside0.out (by assumption)) _) | exact h_)) : P := p h.out
section
variable {α : Type} {d : Kd α} {e base : Nat} {ok : Nat → Prop} {w w1 : World} {v : Value} {xs : List α}
theorem rX [l : LX w w1] (h : d.R e w base ok v xs) : d.R e w1 base ok v xs := Kd.z7_ h l.l.b
end
theorem zb {w w1 : World} {g : Nat} {o : Obj} (h : Aside0 (w.heap[g]? = some o)) (p : w.heap[g]? = some o → w1.heap[g]? = some o := by intro h_; (with_reducible repeat (first | refine blk_drewN ?_ _ | refine blk_drew ?_ | refine z11_ ?_ _ | refine z18_ ?_ (Aside0.out (by assumption)) _)); exact h_) : w1.heap[g]? = some o := p h.out
theorem zH {A Q P : Prop} (hy : A) (h : Q) (p : A → Q → P := by intro hy_ H; first | (rw [hy_]; with_reducible exact H) | (have H2_ := (Option.bind_some _ _).symm.trans H; rw [hy_]; with_reducible exact H2_) | (have H2_ := (Option.bind_some _ _).symm.trans H; with_reducible exact H2_) | with_reducible exact H | (rw [hy_]; exact H) | exact H) : P := p hy h
theorem zM {P : Prop} (h : P := by repeat' first | (with_reducible exact ih0 ..) | (with_reducible exact ih1 ..) | (with_reducible exact ih2 ..) | (with_reducible exact ih3 ..) | (with_reducible exact ih4 ..) | (with_reducible exact ih5 ..) | (with_reducible exact ih6 ..) | (with_reducible exact ih7 ..) | (with_reducible exact ih8 ..) | (with_reducible exact ih9 ..) | (with_reducible exact im0 ..) | (with_reducible exact im1 ..) | (with_reducible exact im2 ..) | (with_reducible exact im3 ..) | (with_reducible exact im4 ..) | (with_reducible exact im5 ..) | (with_reducible exact im6 ..) | (with_reducible exact im7 ..) | (with_reducible exact LeO.refl _) | (with_reducible exact LeO.none _) | (with_reducible refine LeO.ite ?_ ?_) | (with_reducible refine LeO.bind ?_ (fun _ => ?_)) | exact ih0 .. | exact ih1 .. | exact ih2 .. | exact ih3 .. | exact ih4 .. | exact ih5 .. | exact ih6 .. | exact ih7 .. | exact ih8 .. | exact ih9 .. | exact im0 .. | exact im1 .. | exact im2 .. | exact im3 .. | exact im4 .. | exact im5 .. | exact im6 .. | exact im7 .. | exact LeO.none _ | refine LeO.ite ?_ ?_ | refine LeO.bind ?_ (fun _ => ?_)) : P := h
def bl : Nat → Nat → List Bool
  | 0, _ => []
  | n + 1, m => (m % 2 == 1) :: bl n (m / 2)
def bs (n m : Nat) : Array Bool := ⟨bl n m⟩
section
variable {P : Program} {ops : Array Oper} {Q : Exit → Act → World → Prop} {md : Region.Mode} {S : World → Prop} {ds : List Nat}
theorem pQ (i n s m : Nat) {oi : Oper} {v : Value} {fuel : Nat} {l : Array Bool} {a : Act} {w : World} {a' : Act} (h : wpAnyLast P md ops Q S ds fuel (bs s m) a' w) (hi : ops[i]? = some oi := by exact rfl) (hN : oi.dst = some n := by exact rfl) (hc : anyB md ops l (bs s m) i = true := by exact any_of HT_.out (by kernel_rfl))
    (hQ : ∀ c a w, Q (.panic c) (a.put oi.dst v) w → Q (.panic c) a w := by exact fun _ _ _ h => h) (hy1 : Region.wanted oi (yielded ops a.tmps) = true := by rfl) (hy2 : ∀ w', (execOp a.eval oi).run P w' = .ok (.value v) w' := by intro w'; go_simp; with_reducible rfl)
    (ha : a.put (some n) v = a' := by simp only [Act.put, List.setIfInBounds_toArray, List.set_cons_zero, List.set_cons_succ, i64_w, i32_w]; rfl) : wpAnyLast P md ops Q S ds (fuel + 1) l a w := pure_ (bs s m) hi hN hc hQ (Or.inl ⟨hy1, hy2⟩) ha h
end
end Go.Proofs.Ytccbdcbeinkjgaa.Lift
end
