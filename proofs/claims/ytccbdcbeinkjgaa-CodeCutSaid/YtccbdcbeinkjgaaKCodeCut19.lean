/- Part 19 of the proof of the law CodeCut for every input: words, walks and plain laws. No condition. -/
import Derived.DataReads
import Derived.ChangeArms
import Derived.SizedLaws
import Derived.WideShapes
import Derived.ChangeSlices
import Derived.Laws.Strings
import Derived.Test.YtccbdcbeinkjgaaKCodeCut18
section
/- Arguments opened by their kinds: what is read as data at a type is a Lean value of that type's kind. Of every seat alike; its own words alone. -/
namespace Go.Proofs.Ytccbdcbeinkjgaa.Opn
open Go.ChangeShapes Go.WideShapes Go.Proofs.YtccbdcbeinkjgaaW.PrintWords
set_option linter.unusedVariables false

/-- Whatever is read at type t is of kind d, and wf. -/
structure Opn {α : Type} (P : Program) (t : TypeId) (d : Kd α) (wf : α → Prop) : Prop where
  get : ∀ {H : Type} {enc : TypeId × Value → H} {w : World} {base : Nat} {spare : Nat → Bool} {held : Bool} {fuel : Nat} {cs : List Value} {x : DataW H × List MemPlace},
    DataW.trod enc P w base spare held fuel t cs = some x → (∀ n ∈ DataW.weights P t x.1, n ≤ reachBytes) → ∃ a : α, d.K w a cs ∧ wf a

section
variable {P : Program} {t : TypeId}
theorem opn_int {k : IntKind} (ht : P.underlying t = some (.int k)) : Opn P t (Kd.int k) (fun n => (Lit.int k n).wf = true) :=
  ⟨fun h _ => by
    obtain ⟨n, rfl, rfl, hw⟩ := DataW.trod_int ht h
    exact ⟨n, rfl, hw⟩⟩
theorem choose_list {α : Type} {Q : Nat → α → Prop} : ∀ n : Nat, (∀ i, i < n → ∃ x, Q i x) → ∃ xs : List α, xs.length = n ∧ ∀ i x, xs[i]? = some x → Q i x := by
  intro n h
  induction n with
  | zero => exact ⟨[], rfl, fun i x hx => by simp at hx⟩
  | succ n ih =>
    obtain ⟨xs, hl, hq⟩ := ih (fun i hi => h i (by omega))
    obtain ⟨y, hy⟩ := h n (by omega)
    refine ⟨xs ++ [y], by simp [hl], fun i x hx => ?_⟩
    by_cases hi : i < n
    · rw [List.getElem?_append_left (by omega)] at hx
      exact hq i x hx
    · rw [List.getElem?_append_right (by omega)] at hx
      have : i = n := by
        have := (List.getElem?_eq_some_iff.1 hx).1
        simp at this
        omega
      subst this
      rw [hl, Nat.sub_self] at hx
      simp at hx
      subst hx
      exact hy

theorem opn_slice {α : Type} {e : TypeId} {d : Kd α} {wf : α → Prop} {B : Nat} (ht : P.underlying t = some (.slice e)) (hC : P.cellsOf e = d.sz) (hB : P.bytesOf e = B) (ho : Opn P e d wf) :
    Opn P t (Kd.slice e d) (fun xs => xs.length * B ≤ 140737488351232 ∧ xs.length ≤ 9223372036854775807 ∧ ∀ x ∈ xs, wf x) :=
  ⟨fun {H enc w base spare held fuel cs x} h hz => by
    rcases DataW.trod_slice ht h with ⟨rfl, rfl⟩ | ⟨a, len, cap, elems, rest, n, rfl, rfl, rfl, hb, hl, hm, hlen, hel, _, _⟩
    · refine ⟨[], ⟨none, 0, rfl, by simp, Kd.C_nil d w⟩, by simp⟩
    · have hw : ∀ n ∈ DataW.weightsAll P e (elems.map (·.1)), n ≤ reachBytes := fun n hn => hz n (by simp only [DataW.weights, ht]; exact List.mem_cons_of_mem _ (List.mem_append_left _ hn))
      have hwi : ∀ (i : Nat) (y : DataW H × List MemPlace), elems[i]? = some y → ∀ n ∈ DataW.weights P e y.1, n ≤ reachBytes := by
        have : ∀ (l : List (DataW H)) (d : DataW H), d ∈ l → ∀ n ∈ DataW.weights P e d, n ∈ DataW.weightsAll P e l := by
          intro l
          induction l with
          | nil => intro d hd; simp at hd
          | cons z l ih =>
            intro d hd n hn
            simp only [DataW.weightsAll, List.mem_append]
            rcases List.mem_cons.1 hd with rfl | hd
            · exact Or.inl hn
            · exact Or.inr (ih d hd n hn)
        intro i y hy n hn
        exact hw n (this _ y.1 (List.mem_map.2 ⟨y, List.mem_of_getElem? hy, rfl⟩) n hn)
      have hx : ∀ i, i < len → ∃ x : α, (∃ c, c.length = d.sz ∧ d.K w x c ∧ ∀ j u, c[j]? = some u → w.cell? (a.add (i * d.sz + j)) = some u) ∧ wf x := by
        intro i hi
        have h1 := hel i hi
        rw [List.getElem?_eq_getElem (by omega)] at h1
        obtain ⟨c, hc, hd⟩ := Option.bind_eq_some_iff.1 h1
        obtain ⟨x, hK, hwf⟩ := ho.get hd (hwi i _ (List.getElem?_eq_getElem (by omega)))
        obtain ⟨_, hcl, hcell⟩ := World.cells?_some hc
        refine ⟨x, ⟨c, by rw [hcl, hC], hK, fun j u hj => ?_⟩, hwf⟩
        have hj' : j < P.cellsOf e := by rw [← hcl]; exact (List.getElem?_eq_some_iff.1 hj).1
        rw [← hC, ← add_add, hcell j hj', hj]
      obtain ⟨xs, hxl, hq⟩ := choose_list len hx
      refine ⟨xs, ⟨some a, cap, by rw [hxl], by omega, ?_⟩, ?_, by unfold maxLen at hm; omega, fun x hx => ?_⟩
      · refine ⟨rfl, by unfold maxLen at hm; omega, fun _ => ⟨a, rfl, fun j p hj => ?_⟩⟩
        exact (hq j p hj).1
      · have := hz ((elems.map (·.1)).length + (rest.map (·.1)).length |> (· * P.bytesOf e)) (by simp only [DataW.weights, ht]; exact List.mem_cons_self)
        simp only [List.length_map, hB] at this
        rw [hxl, ← hlen]
        exact Nat.le_trans (Nat.mul_le_mul_right _ (Nat.le_add_right _ _)) this
      · obtain ⟨i, hi⟩ := List.mem_iff_getElem?.1 hx
        exact (hq i x hi).2⟩

/-- The fields of a struct, from offset off on. -/
structure OpnFs {α : Type} (P : Program) (fs : List Field) (off : Nat) (d : Kd α) (wf : α → Prop) : Prop where
  get : ∀ {H : Type} {enc : TypeId × Value → H} {w : World} {base : Nat} {spare : Nat → Bool} {held : Bool} {fuel : Nat} {cs : List Value} {xs : List (DataW H × List MemPlace)},
    cs.length = off + d.sz → xs.length = fs.length →
    (∀ (i : Nat) (f : Field), fs[i]? = some f → DataW.trod enc P w base spare held fuel f.type ((cs.drop f.offset).take (P.cellsOf f.type)) = xs[i]?) →
    (∀ n ∈ DataW.weightsEach P (fs.map (·.type)) (xs.map (·.1)), n ≤ reachBytes) → ∃ a : α, d.K w a (cs.drop off) ∧ wf a

theorem fs_one {α : Type} {f : Field} {off : Nat} {d : Kd α} {wf : α → Prop} (hoff : f.offset = off) (hC : P.cellsOf f.type = d.sz) (ho : Opn P f.type d wf) : OpnFs P [f] off d wf :=
  ⟨fun {H enc w base spare held fuel cs xs} hl hx hf hz => by
    match xs, hx with
    | [y], _ =>
      have h := hf 0 f rfl
      rw [hoff, hC, List.take_of_length_le (by simp; omega)] at h
      exact ho.get h (fun n hn => hz n (by simp only [List.map_cons, List.map_nil, DataW.weightsEach]; exact List.mem_append_left _ hn))⟩
theorem fs_cons {α β : Type} {f : Field} {fs : List Field} {off : Nat} {d : Kd α} {d' : Kd β} {wf : α → Prop} {wf' : β → Prop} (hoff : f.offset = off) (hC : P.cellsOf f.type = d.sz) (ho : Opn P f.type d wf) (hs : OpnFs P fs (off + d.sz) d' wf') :
    OpnFs P (f :: fs) off (Kd.pair d d') (fun x => wf x.1 ∧ wf' x.2) :=
  ⟨fun {H enc w base spare held fuel cs xs} hl hx hf hz => by
    match xs, hx with
    | y :: ys, hx =>
      have hl' : cs.length = off + (d.sz + d'.sz) := hl
      have h := hf 0 f rfl
      rw [hoff, hC] at h
      obtain ⟨a, hK, hwf⟩ := ho.get h (fun n hn => hz n (by simp only [List.map_cons, DataW.weightsEach]; exact List.mem_append_left _ hn))
      obtain ⟨b, hK', hwf'⟩ := hs.get (cs := cs) (xs := ys) (by omega) (by simpa using hx) (fun i g hg => by simpa using hf (i + 1) g (by simpa using hg))
        (fun n hn => hz n (by simp only [List.map_cons, DataW.weightsEach]; exact List.mem_append_right _ hn))
      refine ⟨(a, b), ⟨_, _, ?_, hK, hK'⟩, hwf, hwf'⟩
      rw [← List.drop_drop, List.take_append_drop]⟩
theorem opn_struct {α : Type} {fs : Array Field} {d : Kd α} {wf : α → Prop} (ht : P.underlying t = some (.struct fs)) (hC : P.cellsOf t = d.sz) (hs : OpnFs P fs.toList 0 d wf) : Opn P t d wf :=
  ⟨fun {H enc w base spare held fuel cs x} h hz => by
    obtain ⟨xs, n, rfl, rfl, hl, hxl, hf⟩ := DataW.trod_struct ht h
    have := hs.get (cs := cs) (xs := xs) (by rw [hl, hC]; simp) (by simpa using hxl) (fun i f hi => hf i f (by simpa using hi)) (fun n hn => hz n (by simp only [DataW.weights, ht]; exact hn))
    simpa using this⟩
/-- A Lean structure in the place of its fields' pairs. -/
theorem opn_iso {α β : Type} {d : Kd α} {wf : α → Prop} (f : β → α) (g : α → β) (hfg : ∀ a, f (g a) = a) (h : Opn P t d wf) : Opn P t (Kd.iso d f) (fun b => wf (f b)) :=
  ⟨fun ht hz => by
    obtain ⟨a, hK, hwf⟩ := h.get ht hz
    exact ⟨g a, by show d.K _ (f (g a)) _; rw [hfg]; exact hK, by rw [hfg]; exact hwf⟩⟩
end

section
variable {H : Type} {enc : TypeId × Value → H} {P : Program} {w : World} {base : Nat} {spare : Nat → Bool} {held : Bool} {t : TypeId}
theorem opened {α : Type} {d : Kd α} {wf : α → Prop} (ho : Opn P t d wf) {v : Value} {dd : DataW H} {ps : List MemPlace} {ts : List TypeId} {ds : List (DataW H)} {j : Nat}
    (hsz : (DataW.weightsEach P ts ds).all (· ≤ reachBytes) = true) (ht : ts[j]? = some t) (hd : ds[j]? = some dd) (h : DataW.Trod enc P w base spare held t v dd ps) : ∃ a : α, d.K w a v.cells.toList ∧ wf a := by
  obtain ⟨fuel, hf⟩ := h
  exact ho.get hf (fun n hn => by simpa using List.all_eq_true.1 hsz n (DataW.weights_mem_each ht hd n hn))
theorem trod_lt {v : Value} {d : DataW H} {ps : List MemPlace} (h : DataW.Trod enc P w base spare held t v d ps) : ∀ x ∈ ps, x.block < w.heap.size := by
  obtain ⟨m, hm⟩ := h
  exact DataW.trod_lt m _ _ _ hm
end
end Go.Proofs.Ytccbdcbeinkjgaa.Opn
end

section
namespace Go.Proofs.Ytccbdcbeinkjgaa.SaidCodeCut
open Go.RowKit Go.Proofs.YtccbdcbeinkjgaaW.PrintWords Go.Proofs.YtccbdcbeinkjgaaW.PrintLast Go.Proofs.Ytccbdcbeinkjgaa.Opn Go.Proofs.Ytccbdcbeinkjgaa.XA
set_option linter.unusedVariables false
/-- What is known of whatever is read at this type. -/
def wfS48 (x : S48) : Prop := (Lit.int .i64 x.f0).wf = true ∧ (Lit.int .i64 x.f1).wf = true
theorem opnS48 : Opn Try.prog 48 k48 wfS48 := opn_iso (fun x : S48 => (x.f0, x.f1)) (fun p => ⟨p.1, p.2⟩) (fun _ => rfl) (opn_struct Try.underlying48 (by kernel_rfl) (fs_cons rfl (by kernel_rfl) (opn_int Try.underlying3) (fs_one rfl (by kernel_rfl) (opn_int Try.underlying3))))
/-- What is known of whatever is read at this type. -/
def wfS63 (x : S63) : Prop := (Lit.int .i64 x.f0).wf = true ∧ (Lit.int .i64 x.f1).wf = true ∧ (Lit.int .i64 x.f2).wf = true ∧ (Lit.int .i64 x.f3).wf = true ∧ (Lit.int .i64 x.f4).wf = true
theorem opnS63 : Opn Try.prog 63 k63 wfS63 := opn_iso (fun x : S63 => (x.f0, x.f1, x.f2, x.f3, x.f4)) (fun p => ⟨p.1, p.2.1, p.2.2.1, p.2.2.2.1, p.2.2.2.2⟩) (fun _ => rfl) (opn_struct Try.underlying63 (by kernel_rfl) (fs_cons rfl (by kernel_rfl) (opn_int Try.underlying3) (fs_cons rfl (by kernel_rfl) (opn_int Try.underlying3) (fs_cons rfl (by kernel_rfl) (opn_int Try.underlying3) (fs_cons rfl (by kernel_rfl) (opn_int Try.underlying3) (fs_one rfl (by kernel_rfl) (opn_int Try.underlying3)))))))
/-- What is known of whatever is read at this type. -/
def wfS26 (x : S26) : Prop := (Lit.int .i64 x.f0).wf = true ∧ (Lit.int .i64 x.f1).wf = true ∧ (x.f2.length * 40 ≤ 140737488351232 ∧ x.f2.length ≤ 9223372036854775807 ∧ ∀ y ∈ x.f2, wfS63 y) ∧ (x.f3.length * 8 ≤ 140737488351232 ∧ x.f3.length ≤ 9223372036854775807 ∧ ∀ y ∈ x.f3, (Lit.int .i64 y).wf = true)
theorem opnS26 : Opn Try.prog 26 k26 wfS26 := opn_iso (fun x : S26 => (x.f0, x.f1, x.f2, x.f3)) (fun p => ⟨p.1, p.2.1, p.2.2.1, p.2.2.2⟩) (fun _ => rfl) (opn_struct Try.underlying26 (by kernel_rfl) (fs_cons rfl (by kernel_rfl) (opn_int Try.underlying3) (fs_cons rfl (by kernel_rfl) (opn_int Try.underlying3) (fs_cons rfl (by kernel_rfl) (opn_slice (B := 40) Try.underlying23 (by kernel_rfl) (by kernel_rfl) (opnS63)) (fs_one rfl (by kernel_rfl) (opn_slice (B := 8) Try.underlying24 (by kernel_rfl) (by kernel_rfl) (opn_int Try.underlying3)))))))
/-- What is known of whatever is read at this type. -/
def wfS28 (x : S28) : Prop := (Lit.int .i64 x.f0).wf = true ∧ (Lit.int .i64 x.f1).wf = true ∧ (x.f2.length * 16 ≤ 140737488351232 ∧ x.f2.length ≤ 9223372036854775807 ∧ ∀ y ∈ x.f2, wfS48 y) ∧ wfS26 x.f3 ∧ wfS26 x.f4 ∧ wfS26 x.f5
theorem opnS28 : Opn Try.prog 28 k28 wfS28 := opn_iso (fun x : S28 => (x.f0, x.f1, x.f2, x.f3, x.f4, x.f5)) (fun p => ⟨p.1, p.2.1, p.2.2.1, p.2.2.2.1, p.2.2.2.2.1, p.2.2.2.2.2⟩) (fun _ => rfl) (opn_struct Try.underlying28 (by kernel_rfl) (fs_cons rfl (by kernel_rfl) (opn_int Try.underlying3) (fs_cons rfl (by kernel_rfl) (opn_int Try.underlying3) (fs_cons rfl (by kernel_rfl) (opn_slice (B := 16) Try.underlying22 (by kernel_rfl) (by kernel_rfl) (opnS48)) (fs_cons rfl (by kernel_rfl) (opnS26) (fs_cons rfl (by kernel_rfl) (opnS26) (fs_one rfl (by kernel_rfl) (opnS26))))))))
/-- THE PURE STATEMENT. -/
def Pure : Prop := ∀ (x0 : S28) (x1 : Int) (x2 : Int) (x3 : Int), wfS28 x0 → (Lit.int .i64 x1).wf = true → (Lit.int .i64 x2).wf = true → (Lit.int .i64 x3).wf = true → ∃ k, swagelaw17_CodeCut.f k x0.f0 x0.f1 x0.f2 x0.f3.f0 x0.f3.f1 x0.f3.f2 x0.f3.f3 x0.f4.f0 x0.f4.f1 x0.f4.f2 x0.f4.f3 x0.f5.f0 x0.f5.f1 x0.f5.f2 x0.f5.f3 x1 x2 x3 = some true
end Go.Proofs.Ytccbdcbeinkjgaa.SaidCodeCut
end

section
namespace Go.Proofs.Ytccbdcbeinkjgaa.XA
open Go.Proofs.Ytccbdcbeinkjgaa.Lift Go.RowKit Go.Proofs.YtccbdcbeinkjgaaW.PrintWords Go.Proofs.YtccbdcbeinkjgaaW.PrintLast Go.Proofs.YtccbdcbeinkjgaaW.PrintMore
attribute [local go_sem] max2_int min2_int max_two min_two max_three min_three max_four min_four
set_option linter.unusedVariables false
set_option linter.unusedSimpArgs false


/-! ### swageref06_In: function 40 -/
def swageref06_In.f (qA : Int) (qB : Int) : Option (Bool) := if qA ≥ (-16) then (if qA ≤ 16 then (if qB ≥ (-16) then (some (decide (qB ≤ 16))) else (some false)) else (some false)) else (some false)
end Go.Proofs.Ytccbdcbeinkjgaa.XA
end

section
namespace Go.Proofs.Ytccbdcbeinkjgaa.XA
open Go.Proofs.Ytccbdcbeinkjgaa.Lift Go.RowKit Go.Proofs.YtccbdcbeinkjgaaW.PrintWords Go.Proofs.YtccbdcbeinkjgaaW.PrintLast Go.Proofs.YtccbdcbeinkjgaaW.PrintMore
attribute [local go_sem] max2_int min2_int max_two min_two max_three min_three max_four min_four
set_option linter.unusedVariables false
set_option linter.unusedSimpArgs false

/-! ### swageref08_May: function 68 -/
mutual
def swageref08_May.j0 : Nat → Int → Bool → Int → Int → Int → Int → Int → Option (Bool)
 | 0, _, _, _, _, _, _, _ => none
 | k + 1, x1, x34, qB, qD, qE, qC, qA => if x34 = true then (some false) else (if qB = 3 then (swageref08_May.j1 k x1 true qB qD qE qC qA) else (swageref08_May.j1 k x1 (qB == 4) qB qD qE qC qA))
def swageref08_May.j1 : Nat → Int → Bool → Int → Int → Int → Int → Int → Option (Bool)
 | 0, _, _, _, _, _, _, _ => none
 | k + 1, x1, x42, qB, qD, qE, qC, qA => if x42 = true then (if qC ≥ 0 then (if qC < x1 then (some (qA == 0)) else (some false)) else (some false)) else (if qC = 0 then (if qB = 5 then (swageref08_May.j2 k true qB qD qE qC qA) else (swageref08_May.j2 k (qB == 6) qB qD qE qC qA)) else (some false))
def swageref08_May.j2 : Nat → Bool → Int → Int → Int → Int → Int → Option (Bool)
 | 0, _, _, _, _, _, _ => none
 | k + 1, x67, qB, qD, qE, qC, qA => if x67 = true then (if qA = 0 then (some false) else (if qA ≥ (-512) then (some (decide (qA ≤ 512))) else (some false))) else (if qB = 7 then (if qA ≥ 1 then (some (decide (qA ≤ 64))) else (some false)) else (if qB = 8 then (if qA ≥ 1 then (some (decide (qA ≤ 64))) else (some false)) else (some (qA == 0))))
end
def swageref08_May.f (k : Nat) (qF : Int) (qG : Int) (qH : Int) (qI : Int) (qJ : Int) (a1 : Int) : Option (Bool) := if qF < 1 then (swageref08_May.j0 k a1 true qF qG qH qI qJ) else (if qF > 8 then (swageref08_May.j0 k a1 true qF qG qH qI qJ) else (if qG < 0 then (swageref08_May.j0 k a1 true qF qG qH qI qJ) else (if qG ≥ a1 then (swageref08_May.j0 k a1 true qF qG qH qI qJ) else (if qH < 0 then (swageref08_May.j0 k a1 true qF qG qH qI qJ) else (swageref08_May.j0 k a1 (decide (qH ≥ a1)) qF qG qH qI qJ)))))
theorem swageref08_May.mono_l : ∀ k, (∀ y0 y1 y2 y3 y4 y5 y6, LeO (swageref08_May.j0 k y0 y1 y2 y3 y4 y5 y6) (swageref08_May.j0 (k + 1) y0 y1 y2 y3 y4 y5 y6)) ∧ (∀ y0 y1 y2 y3 y4 y5 y6, LeO (swageref08_May.j1 k y0 y1 y2 y3 y4 y5 y6) (swageref08_May.j1 (k + 1) y0 y1 y2 y3 y4 y5 y6)) ∧ (∀ y0 y1 y2 y3 y4 y5, LeO (swageref08_May.j2 k y0 y1 y2 y3 y4 y5) (swageref08_May.j2 (k + 1) y0 y1 y2 y3 y4 y5))
 | 0 => ⟨fun _ _ _ _ _ _ _ r h => by simp [swageref08_May.j0] at h, fun _ _ _ _ _ _ _ r h => by simp [swageref08_May.j1] at h, fun _ _ _ _ _ _ r h => by simp [swageref08_May.j2] at h⟩
 | k + 1 => by
  obtain ⟨ih0, ih1, ih2⟩ := swageref08_May.mono_l k
  refine ⟨?_, ?_, ?_⟩
  ·intro y0 y1 y2 y3 y4 y5 y6
   unfold swageref08_May.j0
   exact zM
  ·intro y0 y1 y2 y3 y4 y5 y6
   unfold swageref08_May.j1
   exact zM
  ·intro y0 y1 y2 y3 y4 y5
   unfold swageref08_May.j2
   exact zM
theorem swageref08_May.mono : ∀ a0 a1 a2 a3 a4 a5 k, LeO (swageref08_May.f k a0 a1 a2 a3 a4 a5) (swageref08_May.f (k + 1) a0 a1 a2 a3 a4 a5) := by
 intro a0 a1 a2 a3 a4 a5 k
 obtain ⟨ih0, ih1, ih2⟩ := swageref08_May.mono_l k
 unfold swageref08_May.f
 exact zM
end Go.Proofs.Ytccbdcbeinkjgaa.XA
end

section
namespace Go.Proofs.Ytccbdcbeinkjgaa.XA
open Go.Proofs.Ytccbdcbeinkjgaa.Lift Go.RowKit Go.Proofs.YtccbdcbeinkjgaaW.PrintWords Go.Proofs.YtccbdcbeinkjgaaW.PrintLast Go.Proofs.YtccbdcbeinkjgaaW.PrintMore
attribute [local go_sem] max2_int min2_int max_two min_two max_three min_three max_four min_four
set_option linter.unusedVariables false
set_option linter.unusedSimpArgs false

/-! ### swageref08_Check: function 59 -/
mutual
def swageref08_Check.j0 : Nat → Bool → Int → Int → List (S63) → List Int → Option (Int × Bool)
 | 0, _, _, _, _, _ => none
 | k + 1, x38, qD, qC, qA, qB => if x38 = true then (some ((-1), true)) else (swageref08_Check.l0 k 0 qD qC qA qB)
def swageref08_Check.l0 : Nat → Int → Int → Int → List (S63) → List Int → Option (Int × Bool)
 | 0, _, _, _, _, _ => none
 | k + 1, x4, qD, qC, qA, qB => if x4 < (qB.length : Int) then (if 0 ≤ x4 then (if (rd qB x4) < 0 then (some ((-1), true)) else (if (rd qB x4) ≥ qC then (some ((-1), true)) else (swageref08_Check.l0 k (wrap64 (x4 + 1)) qD qC qA qB))) else (none)) else (swageref08_Check.l1 k 0 qD qC qA qB)
def swageref08_Check.l1 : Nat → Int → Int → Int → List (S63) → List Int → Option (Int × Bool)
 | 0, _, _, _, _, _ => none
 | k + 1, x5, qD, qC, qA, qB => if x5 < (qA.length : Int) then (if 0 ≤ x5 then ((swageref08_May.f k ((rd_T63 qA x5).f0) ((rd_T63 qA x5).f1) ((rd_T63 qA x5).f2) ((rd_T63 qA x5).f3) ((rd_T63 qA x5).f4) qC).bind fun qI => (if qI = true then (swageref08_Check.l1 k (wrap64 (x5 + 1)) qD qC qA qB) else (some (x5, true)))) else (none)) else (some (0, false))
end
def swageref08_Check.f (k : Nat) (qE : Int) (qF : Int) (qH : List (S63)) (qG : List Int) : Option (Int × Bool) := if qE < 1 then (swageref08_Check.j0 k true qE qF qH qG) else (if qE > qF then (swageref08_Check.j0 k true qE qF qH qG) else (if qF > 128 then (swageref08_Check.j0 k true qE qF qH qG) else (if (qH.length : Int) > 16384 then (swageref08_Check.j0 k true qE qF qH qG) else (if (qG.length : Int) < 1 then (swageref08_Check.j0 k true qE qF qH qG) else (swageref08_Check.j0 k (decide (128 < qG.length)) qE qF qH qG)))))
theorem swageref08_Check.mono_l : ∀ k, (∀ y0 y1 y2 y3 y4, LeO (swageref08_Check.j0 k y0 y1 y2 y3 y4) (swageref08_Check.j0 (k + 1) y0 y1 y2 y3 y4)) ∧ (∀ y0 y1 y2 y3 y4, LeO (swageref08_Check.l0 k y0 y1 y2 y3 y4) (swageref08_Check.l0 (k + 1) y0 y1 y2 y3 y4)) ∧ (∀ y0 y1 y2 y3 y4, LeO (swageref08_Check.l1 k y0 y1 y2 y3 y4) (swageref08_Check.l1 (k + 1) y0 y1 y2 y3 y4))
 | 0 => ⟨fun _ _ _ _ _ r h => by simp [swageref08_Check.j0] at h, fun _ _ _ _ _ r h => by simp [swageref08_Check.l0] at h, fun _ _ _ _ _ r h => by simp [swageref08_Check.l1] at h⟩
 | k + 1 => by
  obtain ⟨ih0, ih1, ih2⟩ := swageref08_Check.mono_l k
  refine ⟨?_, ?_, ?_⟩
  ·intro y0 y1 y2 y3 y4
   unfold swageref08_Check.j0
   have im0 := @swageref08_May.mono; exact zM
  ·intro y0 y1 y2 y3 y4
   unfold swageref08_Check.l0
   have im0 := @swageref08_May.mono; exact zM
  ·intro y0 y1 y2 y3 y4
   unfold swageref08_Check.l1
   have im0 := @swageref08_May.mono; exact zM
theorem swageref08_Check.mono : ∀ a0 a1 a2 a3 k, LeO (swageref08_Check.f k a0 a1 a2 a3) (swageref08_Check.f (k + 1) a0 a1 a2 a3) := by
 intro a0 a1 a2 a3 k
 obtain ⟨ih0, ih1, ih2⟩ := swageref08_Check.mono_l k
 unfold swageref08_Check.f
 have im0 := @swageref08_May.mono; exact zM
end Go.Proofs.Ytccbdcbeinkjgaa.XA
end

section
namespace Go.Proofs.Ytccbdcbeinkjgaa.XA
open Go.Proofs.Ytccbdcbeinkjgaa.Lift Go.RowKit Go.Proofs.YtccbdcbeinkjgaaW.PrintWords Go.Proofs.YtccbdcbeinkjgaaW.PrintLast Go.Proofs.YtccbdcbeinkjgaaW.PrintMore
attribute [local go_sem] max2_int min2_int max_two min_two max_three min_three max_four min_four
set_option linter.unusedVariables false
set_option linter.unusedSimpArgs false

/-! ### swageref08_Right: function 41 -/
def swageref08_Right.f (k : Nat) (qA : Int) (qB : Int) (qC : List (S63)) (qD : List Int) : Option (Bool) := (swageref08_Check.f k qA qB qC qD).bind fun bt834 => (some (!bt834.2))
theorem swageref08_Right.mono : ∀ a0 a1 a2 a3 k, LeO (swageref08_Right.f k a0 a1 a2 a3) (swageref08_Right.f (k + 1) a0 a1 a2 a3) := by
 intro a0 a1 a2 a3 k
 unfold swageref08_Right.f
 have im0 := @swageref08_Check.mono; exact zM
end Go.Proofs.Ytccbdcbeinkjgaa.XA
end

section
namespace Go.Proofs.Ytccbdcbeinkjgaa.XA
open Go.Proofs.Ytccbdcbeinkjgaa.Lift Go.RowKit Go.Proofs.YtccbdcbeinkjgaaW.PrintWords Go.Proofs.YtccbdcbeinkjgaaW.PrintLast Go.Proofs.YtccbdcbeinkjgaaW.PrintMore
attribute [local go_sem] max2_int min2_int max_two min_two max_three min_three max_four min_four
set_option linter.unusedVariables false
set_option linter.unusedSimpArgs false

/-! ### swageref17_May: function 21 -/
mutual
def swageref17_May.j0 : Nat → Bool → Int → Int → List (S48) → Int → Int → List (S63) → List Int → Int → Int → List (S63) → List Int → Int → Int → List (S63) → List Int → Option (Int)
 | 0, _, _, _, _, _, _, _, _, _, _, _, _, _, _, _, _ => none
 | k + 1, x27, qU, qV, qA, qB, qC, qD, qE, qF, qG, qH, qI, qJ, qK, qL, qM => if x27 = true then (some 2) else (swageref17_May.l0 k 0 qU qV qA qB qC qD qE qF qG qH qI qJ qK qL qM)
def swageref17_May.l0 : Nat → Int → Int → Int → List (S48) → Int → Int → List (S63) → List Int → Int → Int → List (S63) → List Int → Int → Int → List (S63) → List Int → Option (Int)
 | 0, _, _, _, _, _, _, _, _, _, _, _, _, _, _, _, _ => none
 | k + 1, x3, qU, qV, qA, qB, qC, qD, qE, qF, qG, qH, qI, qJ, qK, qL, qM => if x3 < (qA.length : Int) then (if 0 ≤ x3 then ((swageref06_In.f ((rd_T48 qA x3).f0) ((rd_T48 qA x3).f1)).bind fun qe => (if qe = true then (swageref17_May.l0 k (wrap64 (x3 + 1)) qU qV qA qB qC qD qE qF qG qH qI qJ qK qL qM) else (some 2))) else (none)) else ((swageref08_Right.f k qB qC qD qE).bind fun qf => (if qf = true then ((swageref08_Right.f k qF qG qH qI).bind fun qg => (if qg = true then ((swageref08_Right.f k qJ qK qL qM).bind fun qh => (if qh = true then (some 0) else (some 80))) else (some 80))) else (some 80)))
end
def swageref17_May.f (k : Nat) (qN : Int) (qO : Int) (qW : List (S48)) (qX : Int) (qY : Int) (qZ : List (S63)) (qa : List Int) (qb : Int) (qc : Int) (qd : List (S63)) (qP : List Int) (qQ : Int) (qR : Int) (qS : List (S63)) (qT : List Int) : Option (Int) := if qN < 1 then (swageref17_May.j0 k true qN qO qW qX qY qZ qa qb qc qd qP qQ qR qS qT) else (if qO < 1 then (swageref17_May.j0 k true qN qO qW qX qY qZ qa qb qc qd qP qQ qR qS qT) else (if qN > 8 then (swageref17_May.j0 k true qN qO qW qX qY qZ qa qb qc qd qP qQ qR qS qT) else (if qO > 8 then (swageref17_May.j0 k true qN qO qW qX qY qZ qa qb qc qd qP qQ qR qS qT) else (swageref17_May.j0 k (decide (255 < qW.length)) qN qO qW qX qY qZ qa qb qc qd qP qQ qR qS qT))))
theorem swageref17_May.mono_l : ∀ k, (∀ y0 y1 y2 y3 y4 y5 y6 y7 y8 y9 y10 y11 y12 y13 y14 y15, LeO (swageref17_May.j0 k y0 y1 y2 y3 y4 y5 y6 y7 y8 y9 y10 y11 y12 y13 y14 y15) (swageref17_May.j0 (k + 1) y0 y1 y2 y3 y4 y5 y6 y7 y8 y9 y10 y11 y12 y13 y14 y15)) ∧ (∀ y0 y1 y2 y3 y4 y5 y6 y7 y8 y9 y10 y11 y12 y13 y14 y15, LeO (swageref17_May.l0 k y0 y1 y2 y3 y4 y5 y6 y7 y8 y9 y10 y11 y12 y13 y14 y15) (swageref17_May.l0 (k + 1) y0 y1 y2 y3 y4 y5 y6 y7 y8 y9 y10 y11 y12 y13 y14 y15))
 | 0 => ⟨fun _ _ _ _ _ _ _ _ _ _ _ _ _ _ _ _ r h => by simp [swageref17_May.j0] at h, fun _ _ _ _ _ _ _ _ _ _ _ _ _ _ _ _ r h => by simp [swageref17_May.l0] at h⟩
 | k + 1 => by
  obtain ⟨ih0, ih1⟩ := swageref17_May.mono_l k
  refine ⟨?_, ?_⟩
  ·intro y0 y1 y2 y3 y4 y5 y6 y7 y8 y9 y10 y11 y12 y13 y14 y15
   unfold swageref17_May.j0
   have im0 := @swageref08_Right.mono; exact zM
  ·intro y0 y1 y2 y3 y4 y5 y6 y7 y8 y9 y10 y11 y12 y13 y14 y15
   unfold swageref17_May.l0
   have im0 := @swageref08_Right.mono; exact zM
theorem swageref17_May.mono : ∀ a0 a1 a2 a3 a4 a5 a6 a7 a8 a9 a10 a11 a12 a13 a14 k, LeO (swageref17_May.f k a0 a1 a2 a3 a4 a5 a6 a7 a8 a9 a10 a11 a12 a13 a14) (swageref17_May.f (k + 1) a0 a1 a2 a3 a4 a5 a6 a7 a8 a9 a10 a11 a12 a13 a14) := by
 intro a0 a1 a2 a3 a4 a5 a6 a7 a8 a9 a10 a11 a12 a13 a14 k
 obtain ⟨ih0, ih1⟩ := swageref17_May.mono_l k
 unfold swageref17_May.f
 have im0 := @swageref08_Right.mono; exact zM
end Go.Proofs.Ytccbdcbeinkjgaa.XA
end

section
namespace Go.Proofs.Ytccbdcbeinkjgaa.XA
open Go.Proofs.Ytccbdcbeinkjgaa.Lift Go.RowKit Go.Proofs.YtccbdcbeinkjgaaW.PrintWords Go.Proofs.YtccbdcbeinkjgaaW.PrintLast Go.Proofs.YtccbdcbeinkjgaaW.PrintMore
attribute [local go_sem] max2_int min2_int max_two min_two max_three min_three max_four min_four
set_option linter.unusedVariables false
set_option linter.unusedSimpArgs false

/-! ### swageref17_two: function 43 -/
def swageref17_two.f (a0 : Int) : Option (List Int) := some (([(wrap64 (Int.tdiv (Int.tmod (wrap64 (a0 + 65536)) 65536) 256)) % 256, (Int.tmod (Int.tmod (wrap64 (a0 + 65536)) 65536) 256) % 256] : List Int))
end Go.Proofs.Ytccbdcbeinkjgaa.XA
end

section
namespace Go.Proofs.Ytccbdcbeinkjgaa.XA
open Go.Proofs.Ytccbdcbeinkjgaa.Lift Go.RowKit Go.Proofs.YtccbdcbeinkjgaaW.PrintWords Go.Proofs.YtccbdcbeinkjgaaW.PrintLast Go.Proofs.YtccbdcbeinkjgaaW.PrintMore
attribute [local go_sem] max2_int min2_int max_two min_two max_three min_three max_four min_four
set_option linter.unusedVariables false
set_option linter.unusedSimpArgs false

/-! ### swageref17_program: function 42 -/
mutual
def swageref17_program.l0 : Nat → List Int → Int → Int → Int → List (S63) → List Int → Option (List Int)
 | 0, _, _, _, _, _, _ => none
 | k + 1, x3, x4, qC, qD, qA, qB => if x4 < (qA.length : Int) then (if 0 ≤ x4 then ((some (([((rd_T63 qA x4).f0) % 256, ((rd_T63 qA x4).f1) % 256, ((rd_T63 qA x4).f2) % 256, ((rd_T63 qA x4).f3) % 256] : List Int) : List Int)).bind fun y857 => (if x3.length + y857.length < 140737488355328 then ((some (x3 ++ y857 : List Int)).bind fun y860 => ((swageref17_two.f ((rd_T63 qA x4).f4)).bind fun qE => (if y860.length + qE.length < 140737488355328 then (swageref17_program.l0 k (y860 ++ qE) (wrap64 (x4 + 1)) qC qD qA qB) else (none)))) else (none))) else (none)) else (if x3.length < 140737488355328 then (swageref17_program.l1 k (x3 ++ [((qB.length : Int)) % 256]) 0 qC qD qA qB) else (none))
def swageref17_program.l1 : Nat → List Int → Int → Int → Int → List (S63) → List Int → Option (List Int)
 | 0, _, _, _, _, _, _ => none
 | k + 1, x3, x6, qC, qD, qA, qB => if x6 < (qB.length : Int) then (if 0 ≤ x6 then (if x3.length < 140737488355328 then (swageref17_program.l1 k (x3 ++ [(rd qB x6) % 256]) (wrap64 (x6 + 1)) qC qD qA qB) else (none)) else (none)) else (some x3)
end
def swageref17_program.f (k : Nat) (qF : Int) (qG : Int) (qH : List (S63)) (qJ : List Int) : Option (List Int) := (some (([(qF) % 256, (qG) % 256] : List Int) : List Int)).bind fun y846 => ((swageref17_two.f (qH.length : Int)).bind fun qI => (if y846.length + qI.length < 140737488355328 then (swageref17_program.l0 k (y846 ++ qI) 0 qF qG qH qJ) else (none)))
theorem swageref17_program.mono_l : ∀ k, (∀ y0 y1 y2 y3 y4 y5, LeO (swageref17_program.l0 k y0 y1 y2 y3 y4 y5) (swageref17_program.l0 (k + 1) y0 y1 y2 y3 y4 y5)) ∧ (∀ y0 y1 y2 y3 y4 y5, LeO (swageref17_program.l1 k y0 y1 y2 y3 y4 y5) (swageref17_program.l1 (k + 1) y0 y1 y2 y3 y4 y5))
 | 0 => ⟨fun _ _ _ _ _ _ r h => by simp [swageref17_program.l0] at h, fun _ _ _ _ _ _ r h => by simp [swageref17_program.l1] at h⟩
 | k + 1 => by
  obtain ⟨ih0, ih1⟩ := swageref17_program.mono_l k
  refine ⟨?_, ?_⟩
  ·intro y0 y1 y2 y3 y4 y5
   unfold swageref17_program.l0
   exact zM
  ·intro y0 y1 y2 y3 y4 y5
   unfold swageref17_program.l1
   exact zM
theorem swageref17_program.mono : ∀ a0 a1 a2 a3 k, LeO (swageref17_program.f k a0 a1 a2 a3) (swageref17_program.f (k + 1) a0 a1 a2 a3) := by
 intro a0 a1 a2 a3 k
 obtain ⟨ih0, ih1⟩ := swageref17_program.mono_l k
 unfold swageref17_program.f
 exact zM
end Go.Proofs.Ytccbdcbeinkjgaa.XA
end

section
namespace Go.Proofs.Ytccbdcbeinkjgaa.XA
open Go.Proofs.Ytccbdcbeinkjgaa.Lift Go.RowKit Go.Proofs.YtccbdcbeinkjgaaW.PrintWords Go.Proofs.YtccbdcbeinkjgaaW.PrintLast Go.Proofs.YtccbdcbeinkjgaaW.PrintMore
attribute [local go_sem] max2_int min2_int max_two min_two max_three min_three max_four min_four
set_option linter.unusedVariables false
set_option linter.unusedSimpArgs false

/-! ### swageref17_check: function 44 -/
def swageref17_check.l0 : Nat → List Int → Int → Int → Option (Int)
 | 0, _, _, _ => none
 | k + 1, x0, x3, x4 => if x4 < (x0.length : Int) then (if 0 ≤ x4 then (swageref17_check.l0 k x0 (Int.tmod (wrap64 (x3 + (wrap64 ((wrap64 (x4 + 1)) * (wrap64 (rd x0 x4)))))) 65521) (wrap64 (x4 + 1))) else (none)) else (some x3)
def swageref17_check.f (k : Nat) (l0 : List Int) : Option (Int) := swageref17_check.l0 k l0 0 0
theorem swageref17_check.mono_l : ∀ k, (∀ y0 y1 y2, LeO (swageref17_check.l0 k y0 y1 y2) (swageref17_check.l0 (k + 1) y0 y1 y2))
 | 0 => fun _ _ _ r h => by simp [swageref17_check.l0] at h
 | k + 1 => by
  have ih0 := swageref17_check.mono_l k
  ·intro y0 y1 y2
   unfold swageref17_check.l0
   exact zM
theorem swageref17_check.mono : ∀ a0 k, LeO (swageref17_check.f k a0) (swageref17_check.f (k + 1) a0) := by
 intro a0 k
 have ih0 := swageref17_check.mono_l k
 unfold swageref17_check.f
 exact zM
end Go.Proofs.Ytccbdcbeinkjgaa.XA
end

section
namespace Go.Proofs.Ytccbdcbeinkjgaa.XA
open Go.Proofs.Ytccbdcbeinkjgaa.Lift Go.RowKit Go.Proofs.YtccbdcbeinkjgaaW.PrintWords Go.Proofs.YtccbdcbeinkjgaaW.PrintLast Go.Proofs.YtccbdcbeinkjgaaW.PrintMore
attribute [local go_sem] max2_int min2_int max_two min_two max_three min_three max_four min_four
set_option linter.unusedVariables false
set_option linter.unusedSimpArgs false

/-! ### swageref17_Encode: function 23 -/
def swageref17_Encode.l0 : Nat → List Int → Int → Int → Int → List (S48) → Int → Int → List (S63) → List Int → Int → Int → List (S63) → List Int → Int → Int → List (S63) → List Int → Option (List Int)
 | 0, _, _, _, _, _, _, _, _, _, _, _, _, _, _, _, _, _ => none
 | k + 1, x3, x4, qN, qO, qA, qB, qC, qD, qE, qF, qG, qH, qI, qJ, qK, qL, qM => if x4 < (qA.length : Int) then (if 0 ≤ x4 then ((some (([(Int.tmod (wrap64 (((rd_T48 qA x4).f0) + 256)) 256) % 256, (Int.tmod (wrap64 (((rd_T48 qA x4).f1) + 256)) 256) % 256] : List Int) : List Int)).bind fun y883 => (if x3.length + y883.length < 140737488355328 then (swageref17_Encode.l0 k (x3 ++ y883) (wrap64 (x4 + 1)) qN qO qA qB qC qD qE qF qG qH qI qJ qK qL qM) else (none))) else (none)) else ((swageref17_program.f k qB qC qD qE).bind fun qP => (if x3.length + qP.length < 140737488355328 then ((some (x3 ++ qP : List Int)).bind fun y892 => ((swageref17_program.f k qF qG qH qI).bind fun qQ => (if y892.length + qQ.length < 140737488355328 then ((some (y892 ++ qQ : List Int)).bind fun y898 => ((swageref17_program.f k qJ qK qL qM).bind fun qR => (if y898.length + qR.length < 140737488355328 then ((some (y898 ++ qR : List Int)).bind fun y904 => ((swageref17_check.f k y904).bind fun qb => ((swageref17_two.f qb).bind fun qS => (if y904.length + qS.length < 140737488355328 then (some (y904 ++ qS)) else (none))))) else (none)))) else (none)))) else (none)))
def swageref17_Encode.f (k : Nat) (qT : Int) (qU : Int) (qV : List (S48)) (qc : Int) (qd : Int) (qe : List (S63)) (qf : List Int) (qg : Int) (qh : Int) (qi : List (S63)) (qW : List Int) (qX : Int) (qY : Int) (qZ : List (S63)) (qa : List Int) : Option (List Int) := swageref17_Encode.l0 k (([65, 78, 86, 49, (qT) % 256, (qU) % 256, ((qV.length : Int)) % 256] : List Int)) 0 qT qU qV qc qd qe qf qg qh qi qW qX qY qZ qa
theorem swageref17_Encode.mono_l : ∀ k, (∀ y0 y1 y2 y3 y4 y5 y6 y7 y8 y9 y10 y11 y12 y13 y14 y15 y16, LeO (swageref17_Encode.l0 k y0 y1 y2 y3 y4 y5 y6 y7 y8 y9 y10 y11 y12 y13 y14 y15 y16) (swageref17_Encode.l0 (k + 1) y0 y1 y2 y3 y4 y5 y6 y7 y8 y9 y10 y11 y12 y13 y14 y15 y16))
 | 0 => fun _ _ _ _ _ _ _ _ _ _ _ _ _ _ _ _ _ r h => by simp [swageref17_Encode.l0] at h
 | k + 1 => by
  have ih0 := swageref17_Encode.mono_l k
  ·intro y0 y1 y2 y3 y4 y5 y6 y7 y8 y9 y10 y11 y12 y13 y14 y15 y16
   unfold swageref17_Encode.l0
   have im0 := @swageref17_check.mono; have im1 := @swageref17_program.mono; exact zM
theorem swageref17_Encode.mono : ∀ a0 a1 a2 a3 a4 a5 a6 a7 a8 a9 a10 a11 a12 a13 a14 k, LeO (swageref17_Encode.f k a0 a1 a2 a3 a4 a5 a6 a7 a8 a9 a10 a11 a12 a13 a14) (swageref17_Encode.f (k + 1) a0 a1 a2 a3 a4 a5 a6 a7 a8 a9 a10 a11 a12 a13 a14) := by
 intro a0 a1 a2 a3 a4 a5 a6 a7 a8 a9 a10 a11 a12 a13 a14 k
 have ih0 := swageref17_Encode.mono_l k
 unfold swageref17_Encode.f
 have im0 := @swageref17_check.mono; have im1 := @swageref17_program.mono; exact zM
end Go.Proofs.Ytccbdcbeinkjgaa.XA
end

section
namespace Go.Proofs.Ytccbdcbeinkjgaa.XA
open Go.Proofs.Ytccbdcbeinkjgaa.Lift Go.RowKit Go.Proofs.YtccbdcbeinkjgaaW.PrintWords Go.Proofs.YtccbdcbeinkjgaaW.PrintLast Go.Proofs.YtccbdcbeinkjgaaW.PrintMore
attribute [local go_sem] max2_int min2_int max_two min_two max_three min_three max_four min_four
set_option linter.unusedVariables false
set_option linter.unusedSimpArgs false

/-! ### swagelaw17_CodeEncodes: function 5 -/
def swagelaw17_CodeEncodes.j0 : Nat → List Int → Int → Bool → Int → Int → List (S48) → Int → Int → List (S63) → List Int → Int → Int → List (S63) → List Int → Int → Int → List (S63) → List Int → Option (Bool)
 | 0, _, _, _, _, _, _, _, _, _, _, _, _, _, _, _, _, _, _ => none
 | k + 1, x4, x6, x34, qQ, qR, qS, qT, qU, qV, qW, qX, qY, qZ, qa, qb, qc, qd, qe => if x34 = true then (some false) else (if x6 = 0 then ((swageref17_Encode.f k qQ qR qS qT qU qV qW qX qY qZ qa qb qc qd qe).bind fun qf => ((slices_Equal_byte_byte.f k x4 qf).bind fun qg => (some qg))) else (some ((x4.length : Int) == 0)))
def swagelaw17_CodeEncodes.f (k : Nat) (qF : Int) (qG : Int) (qH : List (S48)) (qI : Int) (qJ : Int) (qK : List (S63)) (qL : List Int) (qM : Int) (qN : Int) (qO : List (S63)) (qA : List Int) (qB : Int) (qC : Int) (qD : List (S63)) (qE : List Int) : Option (Bool) := (swagelaw17_works.f k).bind fun qh => (if qh = true then ((swagelaw17_long.f qF qG qH qI qJ qK qL qM qN qO qA qB qC qD qE).bind fun qi => (if qi = true then (some true) else ((swagelaw17_copied.f qF qG qH qI qJ qK qL qM qN qO qA qB qC qD qE).bind fun bt917 => ((code_Encode.f k bt917.1 bt917.2.1 bt917.2.2.1 bt917.2.2.2.1 bt917.2.2.2.2.1 bt917.2.2.2.2.2.1 bt917.2.2.2.2.2.2.1 bt917.2.2.2.2.2.2.2.1 bt917.2.2.2.2.2.2.2.2.1 bt917.2.2.2.2.2.2.2.2.2.1 bt917.2.2.2.2.2.2.2.2.2.2.1 bt917.2.2.2.2.2.2.2.2.2.2.2.1 bt917.2.2.2.2.2.2.2.2.2.2.2.2.1 bt917.2.2.2.2.2.2.2.2.2.2.2.2.2.1 bt917.2.2.2.2.2.2.2.2.2.2.2.2.2.2).bind fun bt947 => ((swageref17_May.f k qF qG qH qI qJ qK qL qM qN qO qA qB qC qD qE).bind fun qP => (if bt947.2 = qP then ((code_May.f k bt917.1 bt917.2.1 bt917.2.2.1 bt917.2.2.2.1 bt917.2.2.2.2.1 bt917.2.2.2.2.2.1 bt917.2.2.2.2.2.2.1 bt917.2.2.2.2.2.2.2.1 bt917.2.2.2.2.2.2.2.2.1 bt917.2.2.2.2.2.2.2.2.2.1 bt917.2.2.2.2.2.2.2.2.2.2.1 bt917.2.2.2.2.2.2.2.2.2.2.2.1 bt917.2.2.2.2.2.2.2.2.2.2.2.2.1 bt917.2.2.2.2.2.2.2.2.2.2.2.2.2.1 bt917.2.2.2.2.2.2.2.2.2.2.2.2.2.2).bind fun qj => (if qj = qP then ((swagelaw17_same.f k bt917.1 bt917.2.1 bt917.2.2.1 bt917.2.2.2.1 bt917.2.2.2.2.1 bt917.2.2.2.2.2.1 bt917.2.2.2.2.2.2.1 bt917.2.2.2.2.2.2.2.1 bt917.2.2.2.2.2.2.2.2.1 bt917.2.2.2.2.2.2.2.2.2.1 bt917.2.2.2.2.2.2.2.2.2.2.1 bt917.2.2.2.2.2.2.2.2.2.2.2.1 bt917.2.2.2.2.2.2.2.2.2.2.2.2.1 bt917.2.2.2.2.2.2.2.2.2.2.2.2.2.1 bt917.2.2.2.2.2.2.2.2.2.2.2.2.2.2 qF qG qH qI qJ qK qL qM qN qO qA qB qC qD qE).bind fun qk => (swagelaw17_CodeEncodes.j0 k bt947.1 qP (!qk) qF qG qH qI qJ qK qL qM qN qO qA qB qC qD qE)) else (swagelaw17_CodeEncodes.j0 k bt947.1 qP true qF qG qH qI qJ qK qL qM qN qO qA qB qC qD qE))) else (swagelaw17_CodeEncodes.j0 k bt947.1 qP true qF qG qH qI qJ qK qL qM qN qO qA qB qC qD qE))))))) else (some false))
theorem swagelaw17_CodeEncodes.mono_l : ∀ k, (∀ y0 y1 y2 y3 y4 y5 y6 y7 y8 y9 y10 y11 y12 y13 y14 y15 y16 y17, LeO (swagelaw17_CodeEncodes.j0 k y0 y1 y2 y3 y4 y5 y6 y7 y8 y9 y10 y11 y12 y13 y14 y15 y16 y17) (swagelaw17_CodeEncodes.j0 (k + 1) y0 y1 y2 y3 y4 y5 y6 y7 y8 y9 y10 y11 y12 y13 y14 y15 y16 y17))
 | 0 => fun _ _ _ _ _ _ _ _ _ _ _ _ _ _ _ _ _ _ r h => by simp [swagelaw17_CodeEncodes.j0] at h
 | k + 1 => by
  have ih0 := swagelaw17_CodeEncodes.mono_l k
  ·intro y0 y1 y2 y3 y4 y5 y6 y7 y8 y9 y10 y11 y12 y13 y14 y15 y16 y17
   unfold swagelaw17_CodeEncodes.j0
   have im0 := @code_Encode.mono; have im1 := @code_May.mono; have im2 := @slices_Equal_byte_byte.mono; have im3 := @swagelaw17_same.mono; have im4 := @swagelaw17_works.mono; have im5 := @swageref17_Encode.mono; have im6 := @swageref17_May.mono; exact zM
theorem swagelaw17_CodeEncodes.mono : ∀ a0 a1 a2 a3 a4 a5 a6 a7 a8 a9 a10 a11 a12 a13 a14 k, LeO (swagelaw17_CodeEncodes.f k a0 a1 a2 a3 a4 a5 a6 a7 a8 a9 a10 a11 a12 a13 a14) (swagelaw17_CodeEncodes.f (k + 1) a0 a1 a2 a3 a4 a5 a6 a7 a8 a9 a10 a11 a12 a13 a14) := by
 intro a0 a1 a2 a3 a4 a5 a6 a7 a8 a9 a10 a11 a12 a13 a14 k
 have ih0 := swagelaw17_CodeEncodes.mono_l k
 unfold swagelaw17_CodeEncodes.f
 have im0 := @code_Encode.mono; have im1 := @code_May.mono; have im2 := @slices_Equal_byte_byte.mono; have im3 := @swagelaw17_same.mono; have im4 := @swagelaw17_works.mono; have im5 := @swageref17_Encode.mono; have im6 := @swageref17_May.mono; exact zM
end Go.Proofs.Ytccbdcbeinkjgaa.XA
end

section
namespace Go.Proofs.Ytccbdcbeinkjgaa.SaidCodeEncodes
open Go.RowKit Go.Proofs.YtccbdcbeinkjgaaW.PrintWords Go.Proofs.YtccbdcbeinkjgaaW.PrintLast Go.Proofs.Ytccbdcbeinkjgaa.Opn Go.Proofs.Ytccbdcbeinkjgaa.XA
set_option linter.unusedVariables false
/-- What is known of whatever is read at this type. -/
def wfS48 (x : S48) : Prop := (Lit.int .i64 x.f0).wf = true ∧ (Lit.int .i64 x.f1).wf = true
theorem opnS48 : Opn Try.prog 48 k48 wfS48 := opn_iso (fun x : S48 => (x.f0, x.f1)) (fun p => ⟨p.1, p.2⟩) (fun _ => rfl) (opn_struct Try.underlying48 (by kernel_rfl) (fs_cons rfl (by kernel_rfl) (opn_int Try.underlying3) (fs_one rfl (by kernel_rfl) (opn_int Try.underlying3))))
/-- What is known of whatever is read at this type. -/
def wfS63 (x : S63) : Prop := (Lit.int .i64 x.f0).wf = true ∧ (Lit.int .i64 x.f1).wf = true ∧ (Lit.int .i64 x.f2).wf = true ∧ (Lit.int .i64 x.f3).wf = true ∧ (Lit.int .i64 x.f4).wf = true
theorem opnS63 : Opn Try.prog 63 k63 wfS63 := opn_iso (fun x : S63 => (x.f0, x.f1, x.f2, x.f3, x.f4)) (fun p => ⟨p.1, p.2.1, p.2.2.1, p.2.2.2.1, p.2.2.2.2⟩) (fun _ => rfl) (opn_struct Try.underlying63 (by kernel_rfl) (fs_cons rfl (by kernel_rfl) (opn_int Try.underlying3) (fs_cons rfl (by kernel_rfl) (opn_int Try.underlying3) (fs_cons rfl (by kernel_rfl) (opn_int Try.underlying3) (fs_cons rfl (by kernel_rfl) (opn_int Try.underlying3) (fs_one rfl (by kernel_rfl) (opn_int Try.underlying3)))))))
/-- What is known of whatever is read at this type. -/
def wfS26 (x : S26) : Prop := (Lit.int .i64 x.f0).wf = true ∧ (Lit.int .i64 x.f1).wf = true ∧ (x.f2.length * 40 ≤ 140737488351232 ∧ x.f2.length ≤ 9223372036854775807 ∧ ∀ y ∈ x.f2, wfS63 y) ∧ (x.f3.length * 8 ≤ 140737488351232 ∧ x.f3.length ≤ 9223372036854775807 ∧ ∀ y ∈ x.f3, (Lit.int .i64 y).wf = true)
theorem opnS26 : Opn Try.prog 26 k26 wfS26 := opn_iso (fun x : S26 => (x.f0, x.f1, x.f2, x.f3)) (fun p => ⟨p.1, p.2.1, p.2.2.1, p.2.2.2⟩) (fun _ => rfl) (opn_struct Try.underlying26 (by kernel_rfl) (fs_cons rfl (by kernel_rfl) (opn_int Try.underlying3) (fs_cons rfl (by kernel_rfl) (opn_int Try.underlying3) (fs_cons rfl (by kernel_rfl) (opn_slice (B := 40) Try.underlying23 (by kernel_rfl) (by kernel_rfl) (opnS63)) (fs_one rfl (by kernel_rfl) (opn_slice (B := 8) Try.underlying24 (by kernel_rfl) (by kernel_rfl) (opn_int Try.underlying3)))))))
/-- What is known of whatever is read at this type. -/
def wfS28 (x : S28) : Prop := (Lit.int .i64 x.f0).wf = true ∧ (Lit.int .i64 x.f1).wf = true ∧ (x.f2.length * 16 ≤ 140737488351232 ∧ x.f2.length ≤ 9223372036854775807 ∧ ∀ y ∈ x.f2, wfS48 y) ∧ wfS26 x.f3 ∧ wfS26 x.f4 ∧ wfS26 x.f5
theorem opnS28 : Opn Try.prog 28 k28 wfS28 := opn_iso (fun x : S28 => (x.f0, x.f1, x.f2, x.f3, x.f4, x.f5)) (fun p => ⟨p.1, p.2.1, p.2.2.1, p.2.2.2.1, p.2.2.2.2.1, p.2.2.2.2.2⟩) (fun _ => rfl) (opn_struct Try.underlying28 (by kernel_rfl) (fs_cons rfl (by kernel_rfl) (opn_int Try.underlying3) (fs_cons rfl (by kernel_rfl) (opn_int Try.underlying3) (fs_cons rfl (by kernel_rfl) (opn_slice (B := 16) Try.underlying22 (by kernel_rfl) (by kernel_rfl) (opnS48)) (fs_cons rfl (by kernel_rfl) (opnS26) (fs_cons rfl (by kernel_rfl) (opnS26) (fs_one rfl (by kernel_rfl) (opnS26))))))))
/-- THE PURE STATEMENT. -/
def Pure : Prop := ∀ (x0 : S28), wfS28 x0 → ∃ k, swagelaw17_CodeEncodes.f k x0.f0 x0.f1 x0.f2 x0.f3.f0 x0.f3.f1 x0.f3.f2 x0.f3.f3 x0.f4.f0 x0.f4.f1 x0.f4.f2 x0.f4.f3 x0.f5.f0 x0.f5.f1 x0.f5.f2 x0.f5.f3 = some true
end Go.Proofs.Ytccbdcbeinkjgaa.SaidCodeEncodes
end

section
/- Rounds that suffice: words beside the printer's 'Ev'. -/
namespace Go.Proofs.Ytccbdcbeinkjgaa.Evs
open Go.Proofs.YtccbdcbeinkjgaaW.PrintWords
section
variable {β : Type} {c : Prop} [Decidable c] {f g : Nat → Option β} {r : β}
theorem ev_pos (hc : c) (h : Ev f r) : Ev (fun n => if c then f n else g n) r := Ev.congr (fun _ => if_pos hc) h
theorem ev_neg (hc : ¬ c) (h : Ev g r) : Ev (fun n => if c then f n else g n) r := Ev.congr (fun _ => if_neg hc) h
end
end Go.Proofs.Ytccbdcbeinkjgaa.Evs
end

section
namespace Go.Proofs.Ytccbdcbeinkjgaa.XA
open Go.Proofs.Ytccbdcbeinkjgaa.Lift Go.RowKit Go.Proofs.YtccbdcbeinkjgaaW.PrintWords Go.Proofs.YtccbdcbeinkjgaaW.PrintLast Go.Proofs.YtccbdcbeinkjgaaW.PrintMore
attribute [local go_sem] max2_int min2_int max_two min_two max_three min_three max_four min_four
set_option linter.unusedVariables false
set_option linter.unusedSimpArgs false

/-! ### swagelaw17_CodeSames: function 7 -/
def swagelaw17_CodeSames.j0 : Nat → Bool → Int → Int → List (S48) → Int → Int → List (S63) → List Int → Int → Int → List (S63) → List Int → Int → Int → List (S63) → List Int → Int → Int → List (S48) → Int → Int → List (S63) → List Int → Int → Int → List (S63) → List Int → Int → Int → List (S63) → List Int → Option (Bool)
 | 0, _, _, _, _, _, _, _, _, _, _, _, _, _, _, _, _, _, _, _, _, _, _, _, _, _, _, _, _, _, _, _ => none
 | k + 1, x12, qA, qB, qC, qD, qE, qF, qG, qH, qI, qJ, qK, qL, qM, qN, qO, qP, qQ, qR, qS, qT, qU, qV, qW, qX, qY, qZ, qa, qb, qc, qd => if x12 = true then (some true) else ((code_Same.f k qA qB qC qD qE qF qG qH qI qJ qK qL qM qN qO qP qQ qR qS qT qU qV qW qX qY qZ qa qb qc qd).bind fun q8 => ((swageref17_Same.f k qA qB qC qD qE qF qG qH qI qJ qK qL qM qN qO qP qQ qR qS qT qU qV qW qX qY qZ qa qb qc qd).bind fun q9 => (if (q8 == q9) = true then ((code_Same.f k qP qQ qR qS qT qU qV qW qX qY qZ qa qb qc qd qA qB qC qD qE qF qG qH qI qJ qK qL qM qN qO).bind fun jA => ((swageref17_Same.f k qA qB qC qD qE qF qG qH qI qJ qK qL qM qN qO qP qQ qR qS qT qU qV qW qX qY qZ qa qb qc qd).bind fun jB => (if (jA == jB) = true then ((swagelaw17_copied.f qA qB qC qD qE qF qG qH qI qJ qK qL qM qN qO).bind fun bt1221 => ((code_Same.f k qA qB qC qD qE qF qG qH qI qJ qK qL qM qN qO bt1221.1 bt1221.2.1 bt1221.2.2.1 bt1221.2.2.2.1 bt1221.2.2.2.2.1 bt1221.2.2.2.2.2.1 bt1221.2.2.2.2.2.2.1 bt1221.2.2.2.2.2.2.2.1 bt1221.2.2.2.2.2.2.2.2.1 bt1221.2.2.2.2.2.2.2.2.2.1 bt1221.2.2.2.2.2.2.2.2.2.2.1 bt1221.2.2.2.2.2.2.2.2.2.2.2.1 bt1221.2.2.2.2.2.2.2.2.2.2.2.2.1 bt1221.2.2.2.2.2.2.2.2.2.2.2.2.2.1 bt1221.2.2.2.2.2.2.2.2.2.2.2.2.2.2).bind fun jC => (some jC))) else (some false)))) else (some false))))
def swagelaw17_CodeSames.f (k : Nat) (qo : Int) (qp : Int) (qq : List (S48)) (qr : Int) (qs : Int) (qt : List (S63)) (qu : List Int) (qv : Int) (qw : Int) (qx : List (S63)) (qe : List Int) (qf : Int) (qg : Int) (qh : List (S63)) (qi : List Int) (qy : Int) (qz : Int) (q0 : List (S48)) (q1 : Int) (q2 : Int) (q3 : List (S63)) (q4 : List Int) (q5 : Int) (q6 : Int) (q7 : List (S63)) (qj : List Int) (qk : Int) (ql : Int) (qm : List (S63)) (qn : List Int) : Option (Bool) := (swagelaw17_works.f k).bind fun jD => (if jD = true then ((swagelaw17_long.f qo qp qq qr qs qt qu qv qw qx qe qf qg qh qi).bind fun jE => (if jE = true then (swagelaw17_CodeSames.j0 k true qo qp qq qr qs qt qu qv qw qx qe qf qg qh qi qy qz q0 q1 q2 q3 q4 q5 q6 q7 qj qk ql qm qn) else ((swagelaw17_long.f qy qz q0 q1 q2 q3 q4 q5 q6 q7 qj qk ql qm qn).bind fun jF => (swagelaw17_CodeSames.j0 k jF qo qp qq qr qs qt qu qv qw qx qe qf qg qh qi qy qz q0 q1 q2 q3 q4 q5 q6 q7 qj qk ql qm qn)))) else (some false))
theorem swagelaw17_CodeSames.mono_l : ∀ k, (∀ y0 y1 y2 y3 y4 y5 y6 y7 y8 y9 y10 y11 y12 y13 y14 y15 y16 y17 y18 y19 y20 y21 y22 y23 y24 y25 y26 y27 y28 y29 y30, LeO (swagelaw17_CodeSames.j0 k y0 y1 y2 y3 y4 y5 y6 y7 y8 y9 y10 y11 y12 y13 y14 y15 y16 y17 y18 y19 y20 y21 y22 y23 y24 y25 y26 y27 y28 y29 y30) (swagelaw17_CodeSames.j0 (k + 1) y0 y1 y2 y3 y4 y5 y6 y7 y8 y9 y10 y11 y12 y13 y14 y15 y16 y17 y18 y19 y20 y21 y22 y23 y24 y25 y26 y27 y28 y29 y30))
 | 0 => fun _ _ _ _ _ _ _ _ _ _ _ _ _ _ _ _ _ _ _ _ _ _ _ _ _ _ _ _ _ _ _ r h => by simp [swagelaw17_CodeSames.j0] at h
 | k + 1 => by
  have ih0 := swagelaw17_CodeSames.mono_l k
  ·intro y0 y1 y2 y3 y4 y5 y6 y7 y8 y9 y10 y11 y12 y13 y14 y15 y16 y17 y18 y19 y20 y21 y22 y23 y24 y25 y26 y27 y28 y29 y30
   unfold swagelaw17_CodeSames.j0
   have im0 := @code_Same.mono; have im1 := @swagelaw17_works.mono; have im2 := @swageref17_Same.mono; exact zM
theorem swagelaw17_CodeSames.mono : ∀ a0 a1 a2 a3 a4 a5 a6 a7 a8 a9 a10 a11 a12 a13 a14 a15 a16 a17 a18 a19 a20 a21 a22 a23 a24 a25 a26 a27 a28 a29 k, LeO (swagelaw17_CodeSames.f k a0 a1 a2 a3 a4 a5 a6 a7 a8 a9 a10 a11 a12 a13 a14 a15 a16 a17 a18 a19 a20 a21 a22 a23 a24 a25 a26 a27 a28 a29) (swagelaw17_CodeSames.f (k + 1) a0 a1 a2 a3 a4 a5 a6 a7 a8 a9 a10 a11 a12 a13 a14 a15 a16 a17 a18 a19 a20 a21 a22 a23 a24 a25 a26 a27 a28 a29) := by
 intro a0 a1 a2 a3 a4 a5 a6 a7 a8 a9 a10 a11 a12 a13 a14 a15 a16 a17 a18 a19 a20 a21 a22 a23 a24 a25 a26 a27 a28 a29 k
 have ih0 := swagelaw17_CodeSames.mono_l k
 unfold swagelaw17_CodeSames.f
 have im0 := @code_Same.mono; have im1 := @swagelaw17_works.mono; have im2 := @swageref17_Same.mono; exact zM
end Go.Proofs.Ytccbdcbeinkjgaa.XA
end

section
namespace Go.Proofs.Ytccbdcbeinkjgaa.SaidCodeSames
open Go.RowKit Go.Proofs.YtccbdcbeinkjgaaW.PrintWords Go.Proofs.YtccbdcbeinkjgaaW.PrintLast Go.Proofs.Ytccbdcbeinkjgaa.Opn Go.Proofs.Ytccbdcbeinkjgaa.XA
set_option linter.unusedVariables false
/-- What is known of whatever is read at this type. -/
def wfS48 (x : S48) : Prop := (Lit.int .i64 x.f0).wf = true ∧ (Lit.int .i64 x.f1).wf = true
theorem opnS48 : Opn Try.prog 48 k48 wfS48 := opn_iso (fun x : S48 => (x.f0, x.f1)) (fun p => ⟨p.1, p.2⟩) (fun _ => rfl) (opn_struct Try.underlying48 (by kernel_rfl) (fs_cons rfl (by kernel_rfl) (opn_int Try.underlying3) (fs_one rfl (by kernel_rfl) (opn_int Try.underlying3))))
/-- What is known of whatever is read at this type. -/
def wfS63 (x : S63) : Prop := (Lit.int .i64 x.f0).wf = true ∧ (Lit.int .i64 x.f1).wf = true ∧ (Lit.int .i64 x.f2).wf = true ∧ (Lit.int .i64 x.f3).wf = true ∧ (Lit.int .i64 x.f4).wf = true
theorem opnS63 : Opn Try.prog 63 k63 wfS63 := opn_iso (fun x : S63 => (x.f0, x.f1, x.f2, x.f3, x.f4)) (fun p => ⟨p.1, p.2.1, p.2.2.1, p.2.2.2.1, p.2.2.2.2⟩) (fun _ => rfl) (opn_struct Try.underlying63 (by kernel_rfl) (fs_cons rfl (by kernel_rfl) (opn_int Try.underlying3) (fs_cons rfl (by kernel_rfl) (opn_int Try.underlying3) (fs_cons rfl (by kernel_rfl) (opn_int Try.underlying3) (fs_cons rfl (by kernel_rfl) (opn_int Try.underlying3) (fs_one rfl (by kernel_rfl) (opn_int Try.underlying3)))))))
/-- What is known of whatever is read at this type. -/
def wfS26 (x : S26) : Prop := (Lit.int .i64 x.f0).wf = true ∧ (Lit.int .i64 x.f1).wf = true ∧ (x.f2.length * 40 ≤ 140737488351232 ∧ x.f2.length ≤ 9223372036854775807 ∧ ∀ y ∈ x.f2, wfS63 y) ∧ (x.f3.length * 8 ≤ 140737488351232 ∧ x.f3.length ≤ 9223372036854775807 ∧ ∀ y ∈ x.f3, (Lit.int .i64 y).wf = true)
theorem opnS26 : Opn Try.prog 26 k26 wfS26 := opn_iso (fun x : S26 => (x.f0, x.f1, x.f2, x.f3)) (fun p => ⟨p.1, p.2.1, p.2.2.1, p.2.2.2⟩) (fun _ => rfl) (opn_struct Try.underlying26 (by kernel_rfl) (fs_cons rfl (by kernel_rfl) (opn_int Try.underlying3) (fs_cons rfl (by kernel_rfl) (opn_int Try.underlying3) (fs_cons rfl (by kernel_rfl) (opn_slice (B := 40) Try.underlying23 (by kernel_rfl) (by kernel_rfl) (opnS63)) (fs_one rfl (by kernel_rfl) (opn_slice (B := 8) Try.underlying24 (by kernel_rfl) (by kernel_rfl) (opn_int Try.underlying3)))))))
/-- What is known of whatever is read at this type. -/
def wfS28 (x : S28) : Prop := (Lit.int .i64 x.f0).wf = true ∧ (Lit.int .i64 x.f1).wf = true ∧ (x.f2.length * 16 ≤ 140737488351232 ∧ x.f2.length ≤ 9223372036854775807 ∧ ∀ y ∈ x.f2, wfS48 y) ∧ wfS26 x.f3 ∧ wfS26 x.f4 ∧ wfS26 x.f5
theorem opnS28 : Opn Try.prog 28 k28 wfS28 := opn_iso (fun x : S28 => (x.f0, x.f1, x.f2, x.f3, x.f4, x.f5)) (fun p => ⟨p.1, p.2.1, p.2.2.1, p.2.2.2.1, p.2.2.2.2.1, p.2.2.2.2.2⟩) (fun _ => rfl) (opn_struct Try.underlying28 (by kernel_rfl) (fs_cons rfl (by kernel_rfl) (opn_int Try.underlying3) (fs_cons rfl (by kernel_rfl) (opn_int Try.underlying3) (fs_cons rfl (by kernel_rfl) (opn_slice (B := 16) Try.underlying22 (by kernel_rfl) (by kernel_rfl) (opnS48)) (fs_cons rfl (by kernel_rfl) (opnS26) (fs_cons rfl (by kernel_rfl) (opnS26) (fs_one rfl (by kernel_rfl) (opnS26))))))))
/-- THE PURE STATEMENT. -/
def Pure : Prop := ∀ (x0 : S28) (x1 : S28), wfS28 x0 → wfS28 x1 → ∃ k, swagelaw17_CodeSames.f k x0.f0 x0.f1 x0.f2 x0.f3.f0 x0.f3.f1 x0.f3.f2 x0.f3.f3 x0.f4.f0 x0.f4.f1 x0.f4.f2 x0.f4.f3 x0.f5.f0 x0.f5.f1 x0.f5.f2 x0.f5.f3 x1.f0 x1.f1 x1.f2 x1.f3.f0 x1.f3.f1 x1.f3.f2 x1.f3.f3 x1.f4.f0 x1.f4.f1 x1.f4.f2 x1.f4.f3 x1.f5.f0 x1.f5.f1 x1.f5.f2 x1.f5.f3 = some true
end Go.Proofs.Ytccbdcbeinkjgaa.SaidCodeSames
end

section
/- Two units are one: what code.Same and the document's answer tell. -/
namespace Go.Proofs.Ytccbdcbeinkjgaa.PlainCode
open Go.RowKit Go.Proofs.YtccbdcbeinkjgaaW.PrintWords Go.Proofs.YtccbdcbeinkjgaaW.PrintLast Go.Proofs.YtccbdcbeinkjgaaW.PrintMore Go.Proofs.Ytccbdcbeinkjgaa.XA Go.Proofs.Ytccbdcbeinkjgaa.Evs
set_option linter.unusedVariables false
theorem wrapNext {j n : Nat} (h : j < n) (hn : n ≤ 4611686018427387904) : wrap64 ((j : Int) + 1) = ((j + 1 : Nat) : Int) := by unfold wrap64; omega
deriving instance DecidableEq for S48
deriving instance DecidableEq for S63
/-- A loop that goes through two lists as long as each other, as long as they are alike. -/
theorem eqloop {α : Type} [DecidableEq α] {l : Nat → Int → Option Bool} {x y : List α} {R : Bool} (d : α) (hlen : x.length = y.length) (hb : x.length ≤ 4611686018427387904)
    (hstep : ∀ (k j : Nat), j < x.length → l (k + 1) (j : Int) = if x.getD j d = y.getD j d then l k (wrap64 ((j : Int) + 1)) else some false)
    (hend : ∃ K, ∀ k, K ≤ k → l k (x.length : Int) = some R) :
    ∀ m j : Nat, j + m = x.length → ∃ K, ∀ k, K ≤ k → l k (j : Int) = some (decide (x.drop j = y.drop j) && R) := by
  intro m
  induction m with
  | zero =>
    intro j hj
    obtain rfl : j = x.length := by omega
    obtain ⟨K, h⟩ := hend
    refine ⟨K, fun k hk => ?_⟩
    rw [h k hk, List.drop_length, List.drop_eq_nil_of_le (by omega)]
    simp
  | succ m ih =>
    intro j hj
    have hlt : j < x.length := by omega
    have hlt2 : j < y.length := by omega
    obtain ⟨K, h⟩ := ih (j + 1) (by omega)
    refine ⟨K + 1, fun k hk => ?_⟩
    obtain ⟨k, rfl⟩ : ∃ q, k = q + 1 := ⟨k - 1, by omega⟩
    rw [hstep k j hlt, List.drop_eq_getElem_cons hlt, List.drop_eq_getElem_cons hlt2, List.getD_eq_getElem?_getD, List.getD_eq_getElem?_getD, List.getElem?_eq_getElem hlt, List.getElem?_eq_getElem hlt2]
    simp only [Option.getD_some, List.cons.injEq]
    by_cases he : x[j] = y[j]
    · rw [if_pos he, wrapNext hlt hb, h k (by omega)]
      simp [he]
    · rw [if_neg he]
      simp [he]
theorem s48_ne (p q : S48) : ((!(p.f0 == q.f0) || (!(p.f1 == q.f1))) = true) = ¬ p = q := by
  cases p with | mk p0 p1 => cases q with | mk q0 q1 =>
  simp only [S48.mk.injEq, Bool.or_eq_true, Bool.not_eq_true', beq_eq_false_iff_ne, ne_eq, eq_iff_iff]
  by_cases h0 : p0 = q0 <;> by_cases h1 : p1 = q1 <;> simp [h0, h1]
theorem s63_ne (p q : S63) : ((!(p.f0 == q.f0) || (!(p.f1 == q.f1) || (!(p.f2 == q.f2) || (!(p.f3 == q.f3) || (!(p.f4 == q.f4)))))) = true) = ¬ p = q := by
  cases p with | mk p0 p1 p2 p3 p4 => cases q with | mk q0 q1 q2 q3 q4 =>
  simp only [S63.mk.injEq, Bool.or_eq_true, Bool.not_eq_true', beq_eq_false_iff_ne, ne_eq, eq_iff_iff]
  by_cases h0 : p0 = q0 <;> by_cases h1 : p1 = q1 <;> by_cases h2 : p2 = q2 <;> by_cases h3 : p3 = q3 <;> by_cases h4 : p4 = q4 <;> simp [h0, h1, h2, h3, h4]
theorem ints_ev {x y : List Int} (hb : x.length ≤ 4611686018427387904) : Ev (fun k => slices_Equal_int_int.f k x y) (decide (x = y)) := by
  unfold slices_Equal_int_int.f
  by_cases hl : (x.length : Int) = (y.length : Int)
  · refine ev_pos hl ?_
    have := eqloop (l := fun k i => slices_Equal_int_int.l0 k x y (x.length : Int) i) (x := x) (y := y) (R := true) 0 (by omega) hb
      (fun k j hj => by
        simp only [slices_Equal_int_int.l0]
        rw [if_pos (by omega), if_pos (by omega), if_pos (by omega), if_pos (by omega)]
        rfl)
      ⟨1, fun k hk => by obtain ⟨k, rfl⟩ : ∃ q, k = q + 1 := ⟨k - 1, by omega⟩; simp only [slices_Equal_int_int.l0]; rw [if_neg (by omega)]⟩ x.length 0 (by omega)
    simp only [List.drop_zero, Bool.and_true] at this
    exact this
  · refine ev_neg hl ?_
    have hne : x ≠ y := fun h => hl (by rw [h])
    rw [decide_eq_false hne]
    exact Ev.now _
/-- Two programs are one. -/
def psame (a0 a1 : Int) (c : List S63) (o : List Int) (b0 b1 : Int) (d : List S63) (p : List Int) : Bool := decide (a0 = b0) && (decide (a1 = b1) && (decide (c = d) && decide (o = p)))
section
variable {a0 a1 b0 b1 : Int} {c d : List S63} {o p : List Int}
theorem rsame_l1 (hl : o.length = p.length) (ho : o.length ≤ 4611686018427387904) : Ev (fun k => swageref08_Same.l1 k 0 a0 a1 c o b0 b1 d p) (decide (o = p)) := by
  have := eqloop (l := fun k i => swageref08_Same.l1 k i a0 a1 c o b0 b1 d p) (x := o) (y := p) (R := true) 0 hl ho
    (fun k j hj => by
      simp only [swageref08_Same.l1]
      rw [if_pos (by omega), if_pos (by omega), if_pos (by omega)]
      rfl)
    ⟨1, fun k hk => by obtain ⟨k, rfl⟩ : ∃ q, k = q + 1 := ⟨k - 1, by omega⟩; simp only [swageref08_Same.l1]; rw [if_neg (by omega)]⟩ o.length 0 (by omega)
  simp only [List.drop_zero, Bool.and_true] at this
  exact this
theorem rsame_l0 (hl : o.length = p.length) (hc2 : c.length = d.length) (hc : c.length ≤ 4611686018427387904) (ho : o.length ≤ 4611686018427387904) : Ev (fun k => swageref08_Same.l0 k 0 a0 a1 c o b0 b1 d p) (decide (c = d) && decide (o = p)) := by
  obtain ⟨K, hK⟩ := rsame_l1 (a0 := a0) (a1 := a1) (b0 := b0) (b1 := b1) (c := c) (d := d) hl ho
  have := eqloop (l := fun k i => swageref08_Same.l0 k i a0 a1 c o b0 b1 d p) (x := c) (y := d) (R := decide (o = p)) z63 hc2 hc
    (fun k j hj => by
      simp only [swageref08_Same.l0, s63_ne]
      rw [if_pos (by omega), if_pos (by omega), if_pos (by omega)]
      show (if ¬ c.getD j z63 = d.getD j z63 then _ else _) = _
      rw [ite_not])
    ⟨K + 1, fun k hk => by obtain ⟨k, rfl⟩ : ∃ q, k = q + 1 := ⟨k - 1, by omega⟩; simp only [swageref08_Same.l0]; rw [if_neg (by omega)]; exact hK k (by omega)⟩ c.length 0 (by omega)
  simp only [List.drop_zero] at this
  exact this
theorem rsame_ev (hc : c.length ≤ 4611686018427387904) (ho : o.length ≤ 4611686018427387904) : Ev (fun k => swageref08_Same.f k a0 a1 c o b0 b1 d p) (psame a0 a1 c o b0 b1 d p) := by
  have hj : Ev (fun k => swageref08_Same.j0 k true a0 a1 c o b0 b1 d p) false := ⟨1, fun k hk => by obtain ⟨k, rfl⟩ : ∃ q, k = q + 1 := ⟨k - 1, by omega⟩; simp only [swageref08_Same.j0]; rw [if_pos trivial]⟩
  unfold swageref08_Same.f psame
  by_cases h0 : a0 = b0
  · refine ev_pos h0 ?_
    by_cases h1 : a1 = b1
    · refine ev_pos h1 ?_
      rw [decide_eq_true h0, decide_eq_true h1, Bool.true_and, Bool.true_and]
      by_cases h2 : (c.length : Int) = (d.length : Int)
      · refine ev_pos h2 ?_
        by_cases h3 : (o.length : Int) = (p.length : Int)
        · obtain ⟨K, hK⟩ := rsame_l0 (a0 := a0) (a1 := a1) (b0 := b0) (b1 := b1) (c := c) (d := d) (o := o) (p := p) (by omega) (by omega) hc ho
          refine ⟨K + 1, fun k hk => ?_⟩
          obtain ⟨k, rfl⟩ : ∃ q, k = q + 1 := ⟨k - 1, by omega⟩
          simp only [swageref08_Same.j0]
          rw [if_neg (by simpa using h3)]
          exact hK k (by omega)
        · have hne : o ≠ p := fun h => h3 (by rw [h])
          rw [decide_eq_false hne, Bool.and_false, show ((o.length : Int) != (p.length : Int)) = true by simpa using h3]
          exact hj
      · refine ev_neg h2 ?_
        have hne : c ≠ d := fun h => h2 (by rw [h])
        rw [decide_eq_false hne, Bool.false_and]
        exact hj
    · refine ev_neg h1 ?_
      rw [decide_eq_false h1, Bool.false_and, Bool.and_false]
      exact hj
  · refine ev_neg h0 ?_
    rw [decide_eq_false h0, Bool.false_and]
    exact hj
end
/-- Two units are one. -/
def usame (a b : S28) : Bool := decide (a.f0 = b.f0) && (decide (a.f1 = b.f1) && (decide (a.f2 = b.f2) && (psame a.f3.f0 a.f3.f1 a.f3.f2 a.f3.f3 b.f3.f0 b.f3.f1 b.f3.f2 b.f3.f3 && (psame a.f4.f0 a.f4.f1 a.f4.f2 a.f4.f3 b.f4.f0 b.f4.f1 b.f4.f2 b.f4.f3 && psame a.f5.f0 a.f5.f1 a.f5.f2 a.f5.f3 b.f5.f0 b.f5.f1 b.f5.f2 b.f5.f3))))
/-- Lists that a machine can hold. -/
structure Held (a : S28) : Prop where
  p : a.f2.length ≤ 4611686018427387904
  c3 : a.f3.f2.length ≤ 4611686018427387904
  o3 : a.f3.f3.length ≤ 4611686018427387904
  c4 : a.f4.f2.length ≤ 4611686018427387904
  o4 : a.f4.f3.length ≤ 4611686018427387904
  c5 : a.f5.f2.length ≤ 4611686018427387904
  o5 : a.f5.f3.length ≤ 4611686018427387904
theorem three_ev {f g h : Nat → Option Bool} {x y z : Bool} (hf : Ev f x) (hg : Ev g y) (hh : Ev h z) : Ev (fun k => (f k).bind fun s => if s = true then (g k).bind fun t => (if t = true then (h k).bind fun u => some u else some false) else some false) (x && (y && z)) := by
  refine Ev.bind hf ?_
  cases x
  · exact ev_neg (by decide) (Ev.now _)
  · refine ev_pos rfl (Ev.bind hg ?_)
    cases y
    · exact ev_neg (by decide) (Ev.now _)
    · exact ev_pos rfl (Ev.bind hh (Ev.now _))
theorem ref_ev {a b : S28} (ha : Held a) : Ev (fun k => swageref17_Same.f k a.f0 a.f1 a.f2 a.f3.f0 a.f3.f1 a.f3.f2 a.f3.f3 a.f4.f0 a.f4.f1 a.f4.f2 a.f4.f3 a.f5.f0 a.f5.f1 a.f5.f2 a.f5.f3 b.f0 b.f1 b.f2 b.f3.f0 b.f3.f1 b.f3.f2 b.f3.f3 b.f4.f0 b.f4.f1 b.f4.f2 b.f4.f3 b.f5.f0 b.f5.f1 b.f5.f2 b.f5.f3) (usame a b) := by
  have hj : Ev (fun k => swageref17_Same.j0 k true a.f0 a.f1 a.f2 a.f3.f0 a.f3.f1 a.f3.f2 a.f3.f3 a.f4.f0 a.f4.f1 a.f4.f2 a.f4.f3 a.f5.f0 a.f5.f1 a.f5.f2 a.f5.f3 b.f0 b.f1 b.f2 b.f3.f0 b.f3.f1 b.f3.f2 b.f3.f3 b.f4.f0 b.f4.f1 b.f4.f2 b.f4.f3 b.f5.f0 b.f5.f1 b.f5.f2 b.f5.f3) false := ⟨1, fun k hk => by obtain ⟨k, rfl⟩ : ∃ q, k = q + 1 := ⟨k - 1, by omega⟩; simp only [swageref17_Same.j0]; rw [if_pos trivial]⟩
  unfold swageref17_Same.f usame
  by_cases h0 : a.f0 = b.f0
  · refine ev_pos h0 ?_
    by_cases h1 : a.f1 = b.f1
    · refine ev_pos h1 ?_
      rw [decide_eq_true h0, decide_eq_true h1, Bool.true_and, Bool.true_and]
      by_cases h2 : (a.f2.length : Int) = (b.f2.length : Int)
      · obtain ⟨K, hK⟩ := three_ev (rsame_ev (a0 := a.f3.f0) (a1 := a.f3.f1) (b0 := b.f3.f0) (b1 := b.f3.f1) (d := b.f3.f2) (p := b.f3.f3) ha.c3 ha.o3) (rsame_ev (a0 := a.f4.f0) (a1 := a.f4.f1) (b0 := b.f4.f0) (b1 := b.f4.f1) (d := b.f4.f2) (p := b.f4.f3) ha.c4 ha.o4) (rsame_ev (a0 := a.f5.f0) (a1 := a.f5.f1) (b0 := b.f5.f0) (b1 := b.f5.f1) (d := b.f5.f2) (p := b.f5.f3) ha.c5 ha.o5)
        have := eqloop (l := fun k i => swageref17_Same.l0 k i a.f0 a.f1 a.f2 a.f3.f0 a.f3.f1 a.f3.f2 a.f3.f3 a.f4.f0 a.f4.f1 a.f4.f2 a.f4.f3 a.f5.f0 a.f5.f1 a.f5.f2 a.f5.f3 b.f0 b.f1 b.f2 b.f3.f0 b.f3.f1 b.f3.f2 b.f3.f3 b.f4.f0 b.f4.f1 b.f4.f2 b.f4.f3 b.f5.f0 b.f5.f1 b.f5.f2 b.f5.f3) (x := a.f2) (y := b.f2) z48 (by omega) ha.p
          (fun k j hj => by
            simp only [swageref17_Same.l0, s48_ne]
            rw [if_pos (by omega), if_pos (by omega), if_pos (by omega)]
            show (if ¬ a.f2.getD j z48 = b.f2.getD j z48 then _ else _) = _
            rw [ite_not])
          ⟨K + 1, fun k hk => by obtain ⟨k, rfl⟩ : ∃ q, k = q + 1 := ⟨k - 1, by omega⟩; simp only [swageref17_Same.l0]; rw [if_neg (by omega)]; exact hK k (by omega)⟩ a.f2.length 0 (by omega)
        simp only [List.drop_zero] at this
        obtain ⟨K2, h2'⟩ := this
        refine ⟨K2 + 1, fun k hk => ?_⟩
        obtain ⟨k, rfl⟩ : ∃ q, k = q + 1 := ⟨k - 1, by omega⟩
        simp only [swageref17_Same.j0]
        rw [if_neg (by simpa using h2)]
        exact h2' k (by omega)
      · have hne : a.f2 ≠ b.f2 := fun h => h2 (by rw [h])
        rw [decide_eq_false hne, Bool.false_and, show ((a.f2.length : Int) != (b.f2.length : Int)) = true by simpa using h2]
        exact hj
    · refine ev_neg h1 ?_
      rw [decide_eq_false h1, Bool.false_and, Bool.and_false]
      exact hj
  · refine ev_neg h0 ?_
    rw [decide_eq_false h0, Bool.false_and]
    exact hj
theorem usame_self (a : S28) : usame a a = true := by simp [usame, psame]
end Go.Proofs.Ytccbdcbeinkjgaa.PlainCode
end

section
/- Which programs may be, over lists: what both sides compute. -/
namespace Go.Proofs.Ytccbdcbeinkjgaa.PlainChk
open Go.RowKit Go.Proofs.YtccbdcbeinkjgaaW.PrintWords Go.Proofs.YtccbdcbeinkjgaaW.PrintLast Go.Proofs.Ytccbdcbeinkjgaa.XA Go.Proofs.Ytccbdcbeinkjgaa.Evs Go.Proofs.Ytccbdcbeinkjgaa.PlainCode
set_option linter.unusedVariables false
set_option linter.unusedSimpArgs false
theorem dec_iff {p q : Prop} [Decidable p] [Decidable q] (h : p ↔ q) : decide p = decide q := by
  by_cases hp : p
  · rw [decide_eq_true hp, decide_eq_true (h.1 hp)]
  · rw [decide_eq_false hp, decide_eq_false (fun hq => hp (h.2 hq))]
theorem drop_rd {l : List Int} {j : Nat} (h : j < l.length) : l.drop j = rd l j :: l.drop (j + 1) := by
  rw [List.drop_eq_getElem_cons h]
  simp [rd, List.getD_eq_getElem?_getD, List.getElem?_eq_getElem h]
theorem drop_rdT {l : List S63} {j : Nat} (h : j < l.length) : l.drop j = rd_T63 l j :: l.drop (j + 1) := by
  rw [List.drop_eq_getElem_cons h]
  simp [rd_T63, List.getD_eq_getElem?_getD, List.getElem?_eq_getElem h]
def ConstP (op c : Int) : Prop := (op = 5 ∨ op = 6 → ¬ c = 0 ∧ -512 ≤ c ∧ c ≤ 512) ∧ (op = 7 ∨ op = 8 → 1 ≤ c ∧ c ≤ 64) ∧ (¬ (op = 5 ∨ op = 6) ∧ ¬ (op = 7 ∨ op = 8) → c = 0)
instance (op c : Int) : Decidable (ConstP op c) := by unfold ConstP; exact inferInstance
def asks (op a b : Int) : List Int := if op = 3 ∨ op = 4 then [a, b] else if 1 ≤ op ∧ op ≤ 8 then [a] else []
def MayP (op t a b c regs : Int) : Prop := (1 ≤ op ∧ op ≤ 8) ∧ (0 ≤ t ∧ t < regs) ∧ (0 ≤ a ∧ a < regs) ∧ (op = 3 ∨ op = 4 → 0 ≤ b ∧ b < regs) ∧ (¬ (op = 3 ∨ op = 4) → b = 0) ∧ ConstP op c
instance (op t a b c regs : Int) : Decidable (MayP op t a b c regs) := by unfold MayP; exact inferInstance
theorem two_at (op : Int) : prog_two.f op = some (decide (op = 3 ∨ op = 4)) := by
  unfold prog_two.f
  by_cases h3 : op = 3
  · rw [if_pos h3, decide_eq_true (.inl h3)]
  · rw [if_neg h3]
    by_cases h4 : op = 4
    · rw [decide_eq_true (.inr h4), h4]; rfl
    · rw [decide_eq_false (by omega), beq_eq_false_iff_ne.2 h4]
theorem asks_at (k : Nat) (op t a b c : Int) : prog_Asks.f (k + 1) op t a b c = some (asks op a b) := by
  unfold prog_Asks.f asks
  rw [prog_Asks.j0, prog_Asks.j0]
  by_cases hr : 1 ≤ op ∧ op ≤ 8
  · have : op = 1 ∨ op = 2 ∨ op = 3 ∨ op = 4 ∨ op = 5 ∨ op = 6 ∨ op = 7 ∨ op = 8 := by omega
    rcases this with rfl | rfl | rfl | rfl | rfl | rfl | rfl | rfl <;> rfl
  · rw [if_neg (show ¬ op = 3 by omega), beq_eq_false_iff_ne.2 (show ¬ op = 4 by omega), if_neg (by decide), if_neg (show ¬ op = 1 by omega), if_neg (show ¬ op = 2 by omega), if_neg (show ¬ op = 5 by omega), if_neg (show ¬ op = 6 by omega), if_neg (show ¬ op = 7 by omega), if_neg (show ¬ op = 8 by omega), if_neg (show ¬ (op = 3 ∨ op = 4) by omega), if_neg hr]
theorem range_at (c l h : Int) : (if c ≥ l then some (decide (c ≤ h)) else some false) = some (decide (l ≤ c ∧ c ≤ h)) := by
  by_cases hl : c ≥ l
  · rw [if_pos hl]; exact congrArg some (dec_iff (by omega))
  · rw [if_neg hl, decide_eq_false (by omega)]
theorem const_at (k : Nat) (op t a b c : Int) : prog_constant.f (k + 1) op t a b c = some (decide (ConstP op c)) := by
  unfold prog_constant.f
  rw [prog_constant.j0, prog_constant.j0]
  have h1 : op = 5 ∨ op = 6 → (if c = 0 then some false else (if c ≥ (-512) then (some (decide (c ≤ 512))) else (some false))) = some (decide (ConstP op c)) := by
    intro h
    by_cases h0 : c = 0
    · rw [if_pos h0, decide_eq_false (by unfold ConstP; omega)]
    · rw [if_neg h0, range_at]; exact congrArg some (dec_iff (by unfold ConstP; omega))
  have h2 : op = 7 ∨ op = 8 → (if c ≥ 1 then (some (decide (c ≤ 64))) else (some false)) = some (decide (ConstP op c)) := by
    intro h
    rw [range_at]; exact congrArg some (dec_iff (by unfold ConstP; omega))
  by_cases h5 : op = 5
  · rw [if_pos h5, h5, if_pos (by decide), ← h5]; exact h1 (.inl h5)
  · rw [if_neg h5]
    by_cases h6 : op = 6
    · rw [h6, if_pos (by decide), ← h6]; exact h1 (.inr h6)
    · rw [beq_eq_false_iff_ne.2 h6, if_neg (by decide)]
      by_cases h7 : op = 7
      · rw [if_pos h7]; exact h2 (.inl h7)
      · rw [if_neg h7]
        by_cases h8 : op = 8
        · rw [if_pos h8]; exact h2 (.inr h8)
        · rw [if_neg h8]
          have : (c == 0) = decide (c = 0) := rfl
          rw [this]
          exact congrArg some (dec_iff (by unfold ConstP; omega))
theorem mayl_at (regs : Int) (l : List Int) (hl : l.length ≤ 2) : ∀ k, prog_may.l0 (k + 3) regs l l.length 0 = some (l.all fun r => decide (0 ≤ r ∧ r < regs)) := by
  intro k
  have one : ∀ (r : Int) (X : Option Bool) (b : Bool), X = some b → (if r < 0 then (some false) else (if r ≥ regs then (some false) else X)) = some (decide (0 ≤ r ∧ r < regs) && b) := by
    intro r X b hX
    by_cases h0 : r < 0
    · rw [if_pos h0, decide_eq_false (by omega)]; rfl
    · rw [if_neg h0]
      by_cases h1 : r ≥ regs
      · rw [if_pos h1, decide_eq_false (by omega)]; rfl
      · rw [if_neg h1, decide_eq_true (by omega), hX]; rfl
  match l, hl with
  | [], _ => unfold prog_may.l0; rfl
  | [r], _ =>
    unfold prog_may.l0
    rw [if_pos (by simp), if_pos (by decide), if_pos (by simp)]
    refine (one _ _ true ?_).trans (by simp [rd])
    rw [show wrap64 (0 + 1) = 1 by unfold wrap64; omega]
    show prog_may.l0 (k + 2) regs [r] 1 1 = _
    unfold prog_may.l0; rfl
  | [r, s], _ =>
    unfold prog_may.l0
    rw [if_pos (by simp), if_pos (by decide), if_pos (by simp)]
    refine (one _ _ (decide (0 ≤ s ∧ s < regs)) ?_).trans (by simp [rd])
    rw [show wrap64 (0 + 1) = 1 by unfold wrap64; omega]
    show prog_may.l0 (k + 2) regs [r, s] 2 1 = _
    unfold prog_may.l0
    rw [if_pos (by decide), if_pos (by decide), if_pos (by simp)]
    refine (one _ _ true ?_).trans (by simp [rd])
    rw [show wrap64 (1 + 1) = 2 by unfold wrap64; omega]
    show prog_may.l0 (k + 1) regs [r, s] 2 2 = _
    unfold prog_may.l0; rfl
theorem may_at (k : Nat) (op t a b c regs : Int) : prog_may.f (k + 4) op t a b c regs = some (decide (MayP op t a b c regs)) := by
  have no : ∀ Y : Bool, prog_may.j0 (k + 4) regs true op t a b c = some false := fun _ => by rw [prog_may.j0]; rfl
  have go : 1 ≤ op ∧ op ≤ 8 → prog_may.j0 (k + 4) regs false op t a b c = some ((asks op a b).all fun r => decide (0 ≤ r ∧ r < regs)) := by
    intro h
    rw [prog_may.j0]
    rw [if_neg (by decide), asks_at]
    have : (asks op a b).length ≤ 2 := by unfold asks; split <;> (try split) <;> simp
    exact mayl_at regs _ this k
  unfold prog_may.f
  by_cases h1 : op < 1
  · rw [if_pos h1, no true, decide_eq_false (by unfold MayP; omega)]
  rw [if_neg h1]
  by_cases h2 : op > 8
  · rw [if_pos h2, no true, decide_eq_false (by unfold MayP; omega)]
  rw [if_neg h2]
  by_cases h3 : t < 0
  · rw [if_pos h3, no true, decide_eq_false (by unfold MayP; omega)]
  rw [if_neg h3]
  by_cases h4 : t ≥ regs
  · rw [if_pos h4, no true, decide_eq_false (by unfold MayP; omega)]
  rw [if_neg h4, two_at]
  simp only [Option.bind_some, const_at]
  have hop : 1 ≤ op ∧ op ≤ 8 := by omega
  by_cases h5 : op = 3 ∨ op = 4
  · rw [if_pos (decide_eq_true h5)]
    by_cases h6 : ConstP op c
    · rw [decide_eq_true h6]
      refine (go hop).trans (congrArg some ?_)
      unfold asks
      rw [if_pos h5]
      simp only [List.all_cons, List.all_nil, Bool.and_true]
      by_cases ha : 0 ≤ a ∧ a < regs
      · rw [decide_eq_true ha, Bool.true_and]
        refine dec_iff ?_
        unfold MayP
        exact ⟨fun h => ⟨hop, by omega, ha, fun _ => h, fun h' => absurd h5 h', h6⟩, fun h => h.2.2.2.1 h5⟩
      · rw [decide_eq_false ha, Bool.false_and, decide_eq_false (fun h : MayP op t a b c regs => ha h.2.2.1)]
    · rw [decide_eq_false h6]
      refine (no true).trans ?_
      rw [decide_eq_false (fun h : MayP op t a b c regs => h6 h.2.2.2.2.2)]
  · rw [if_neg (by rw [decide_eq_false h5]; decide)]
    by_cases h7 : b = 0
    · rw [if_pos h7]
      by_cases h6 : ConstP op c
      · rw [decide_eq_true h6]
        refine (go hop).trans (congrArg some ?_)
        unfold asks
        rw [if_neg h5, if_pos hop]
        simp only [List.all_cons, List.all_nil, Bool.and_true]
        refine dec_iff ?_
        unfold MayP
        exact ⟨fun h => ⟨hop, by omega, h, fun h' => absurd h' h5, fun _ => h7, h6⟩, fun h => h.2.2.1⟩
      · rw [decide_eq_false h6]
        refine (no true).trans ?_
        rw [decide_eq_false (fun h : MayP op t a b c regs => h6 h.2.2.2.2.2)]
    · rw [if_neg h7]
      refine (no true).trans ?_
      rw [decide_eq_false (fun h : MayP op t a b c regs => h7 (h.2.2.2.2.1 h5))]
/-- Whether an instruction may be. -/
def mayb (regs : Int) (i : S63) : Bool := decide (MayP i.f0 i.f1 i.f2 i.f3 i.f4 regs)
theorem may_ev (regs : Int) (i : S63) : Ev (fun k => prog_may.f k i.f0 i.f1 i.f2 i.f3 i.f4 regs) (mayb regs i) :=
  ⟨4, fun k hk => by obtain ⟨j, rfl⟩ : ∃ j, k = j + 4 := ⟨k - 4, by omega⟩; exact may_at j _ _ _ _ _ _⟩
/-- The first instruction that may not be. -/
def bad (regs : Int) : List S63 → Nat → Option Nat
  | [], _ => none
  | i :: l, j => if mayb regs i = true then bad regs l (j + 1) else some j
def outsOk (regs : Int) (l : List Int) : Bool := l.all fun r => decide (0 ≤ r ∧ r < regs)
def Head (ins regs : Int) (code : List S63) (outs : List Int) : Prop := (1 ≤ ins ∧ ins ≤ regs) ∧ regs ≤ 128 ∧ code.length ≤ 16384 ∧ 1 ≤ outs.length ∧ outs.length ≤ 128
instance (ins regs : Int) (code : List S63) (outs : List Int) : Decidable (Head ins regs code outs) := by unfold Head; exact inferInstance
def codeOf (regs : Int) (code : List S63) (j : Nat) : Int × Bool := match bad regs (code.drop j) j with
  | none => (0, false)
  | some m => ((m : Int), true)
def chk (ins regs : Int) (code : List S63) (outs : List Int) : Int × Bool := if Head ins regs code outs then (if outsOk regs outs = true then codeOf regs code 0 else (-1, true)) else (-1, true)
def err (x : Int × Bool) : Int × Int := (x.1, if x.2 = true then 80 else 0)
theorem codeOf_step {regs : Int} {code : List S63} {j : Nat} (h : j < code.length) : codeOf regs code j = if mayb regs (rd_T63 code j) = true then codeOf regs code (j + 1) else ((j : Int), true) := by
  unfold codeOf
  rw [drop_rdT h, bad]
  by_cases hm : mayb regs (rd_T63 code j) = true
  · rw [if_pos hm, if_pos hm]
  · rw [if_neg hm, if_neg hm]
theorem codeOf_end {regs : Int} {code : List S63} : codeOf regs code code.length = (0, false) := by
  unfold codeOf
  rw [List.drop_length]
  rfl
theorem l1_ev {ins regs : Int} {code : List S63} {outs : List Int} (hl : code.length ≤ 4611686018427387904) : ∀ (m j : Nat), j + m = code.length → Ev (fun k => prog_Check.l1 k code code.length j ins regs code outs) (err (codeOf regs code j)) := by
  intro m
  induction m with
  | zero =>
    intro j hj
    obtain rfl : j = code.length := by omega
    rw [codeOf_end]
    refine Ev.step (f := fun _ => some (0, 0)) (fun k => ?_) (Ev.now _)
    simp only [prog_Check.l1]
    rw [if_neg (by omega)]
  | succ m ih =>
    intro j hj
    have hlt : j < code.length := by omega
    refine Ev.step (f := fun k => (prog_may.f k (rd_T63 code j).f0 (rd_T63 code j).f1 (rd_T63 code j).f2 (rd_T63 code j).f3 (rd_T63 code j).f4 regs).bind fun t => if t = true then prog_Check.l1 k code code.length ((j + 1 : Nat) : Int) ins regs code outs else some ((j : Int), 80)) (fun k => ?_) ?_
    · simp only [prog_Check.l1]
      rw [if_pos (by omega), if_pos (by omega), if_pos (by omega), wrapNext hlt hl]
    · refine Ev.bind (may_ev regs _) ?_
      rw [codeOf_step hlt]
      by_cases hm : mayb regs (rd_T63 code j) = true
      · rw [if_pos hm]
        exact ev_pos hm (ih (j + 1) (by omega))
      · rw [if_neg hm]
        exact ev_neg hm (Ev.now _)
theorem l0_ev {ins regs : Int} {code : List S63} {outs : List Int} (hl : code.length ≤ 4611686018427387904) (ho : outs.length ≤ 4611686018427387904) : ∀ (m j : Nat), j + m = outs.length → Ev (fun k => prog_Check.l0 k outs outs.length j ins regs code outs) (err (if outsOk regs (outs.drop j) = true then codeOf regs code 0 else (-1, true))) := by
  intro m
  induction m with
  | zero =>
    intro j hj
    obtain rfl : j = outs.length := by omega
    rw [List.drop_length, if_pos (show outsOk regs [] = true from rfl)]
    refine Ev.step (f := fun k => prog_Check.l1 k code code.length ((0 : Nat) : Int) ins regs code outs) (fun k => ?_) (l1_ev hl code.length 0 (by omega))
    simp only [prog_Check.l0]
    rw [if_neg (by omega)]
    rfl
  | succ m ih =>
    intro j hj
    have hlt : j < outs.length := by omega
    refine Ev.step (f := fun k => if rd outs j < 0 then some (-1, 80) else if rd outs j ≥ regs then some (-1, 80) else prog_Check.l0 k outs outs.length ((j + 1 : Nat) : Int) ins regs code outs) (fun k => ?_) ?_
    · simp only [prog_Check.l0]
      rw [if_pos (by omega), if_pos (by omega), if_pos (by omega), wrapNext hlt ho]
    · rw [drop_rd hlt]
      by_cases h0 : rd outs j < 0
      · refine ev_pos h0 ?_
        rw [if_neg (by simp [outsOk]; omega)]
        exact Ev.now _
      · refine ev_neg h0 ?_
        by_cases h1 : rd outs j ≥ regs
        · refine ev_pos h1 ?_
          rw [if_neg (by simp [outsOk]; omega)]
          exact Ev.now _
        · refine ev_neg h1 ?_
          have : outsOk regs (rd outs j :: outs.drop (j + 1)) = outsOk regs (outs.drop (j + 1)) := by
            unfold outsOk
            rw [List.all_cons, decide_eq_true (by omega), Bool.true_and]
          rw [this]
          exact ih (j + 1) (by omega)
theorem check_ev {ins regs : Int} {code : List S63} {outs : List Int} (hl : code.length ≤ 4611686018427387904) (ho : outs.length ≤ 4611686018427387904) : Ev (fun k => prog_Check.f k ins regs code outs) (err (chk ins regs code outs)) := by
  have no : ¬ Head ins regs code outs → Ev (fun k => prog_Check.j0 k true ins regs code outs) (err (chk ins regs code outs)) := by
    intro h
    unfold chk
    rw [if_neg h]
    exact Ev.step (f := fun _ => some (-1, 80)) (fun k => by simp only [prog_Check.j0]; rfl) (Ev.now _)
  unfold prog_Check.f
  by_cases h1 : ins < 1
  · exact ev_pos h1 (no (by unfold Head; omega))
  refine ev_neg h1 ?_
  by_cases h2 : ins > regs
  · exact ev_pos h2 (no (by unfold Head; omega))
  refine ev_neg h2 ?_
  by_cases h3 : regs > 128
  · exact ev_pos h3 (no (by unfold Head; omega))
  refine ev_neg h3 ?_
  by_cases h4 : (code.length : Int) > 16384
  · exact ev_pos h4 (no (by unfold Head; omega))
  refine ev_neg h4 ?_
  by_cases h5 : (outs.length : Int) < 1
  · exact ev_pos h5 (no (by unfold Head; omega))
  refine ev_neg h5 ?_
  by_cases h6 : 128 < outs.length
  · rw [decide_eq_true h6]; exact no (by unfold Head; omega)
  rw [decide_eq_false h6]
  unfold chk
  rw [if_pos (show Head ins regs code outs by unfold Head; omega)]
  refine Ev.step (f := fun k => prog_Check.l0 k outs outs.length ((0 : Nat) : Int) ins regs code outs) (fun k => by simp only [prog_Check.j0]; rfl) ?_
  exact l0_ev hl ho outs.length 0 (by omega)
end Go.Proofs.Ytccbdcbeinkjgaa.PlainChk
end

section
/- A unit's bytes, over lists: what both sides compute. -/
namespace Go.Proofs.Ytccbdcbeinkjgaa.PlainEnc
open Go.RowKit Go.Proofs.YtccbdcbeinkjgaaW.PrintWords Go.Proofs.YtccbdcbeinkjgaaW.PrintLast Go.Proofs.YtccbdcbeinkjgaaW.PrintMore Go.Proofs.Ytccbdcbeinkjgaa.XA Go.Proofs.Ytccbdcbeinkjgaa.Evs Go.Proofs.Ytccbdcbeinkjgaa.PlainCode Go.Proofs.Ytccbdcbeinkjgaa.PlainChk
set_option linter.unusedVariables false
set_option linter.unusedSimpArgs false
/-- A loop that appends a piece for every element of a list. -/
theorem apploop {α β : Type} {l : Nat → List Int → Int → Option β} {c : Nat → List Int → Option β} {xs : List α} (z : α) (g : α → List Int) (d B : Nat) (hd : ∀ x, (g x).length = d) (hb : xs.length ≤ 4611686018427387904)
    (hstep : ∀ (k j : Nat) (acc : List Int) (h : j < xs.length), acc.length + d < B → l (k + 1) acc (j : Int) = l k (acc ++ g (xs[j])) (wrap64 ((j : Int) + 1)))
    (hend : ∀ (k : Nat) (acc : List Int), acc.length < B → l (k + 1) acc (xs.length : Int) = c k acc) {v : β} :
    ∀ (m j : Nat) (acc : List Int), j + m = xs.length → acc.length + m * d < B → Ev (fun k => c k (acc ++ (xs.drop j).flatMap g)) v → Ev (fun k => l k acc (j : Int)) v := by
  intro m
  induction m with
  | zero =>
    intro j acc hj hB h
    obtain rfl : j = xs.length := by omega
    rw [List.drop_length] at h
    simp only [List.flatMap_nil, List.append_nil] at h
    exact Ev.step (fun k => hend k acc (by omega)) h
  | succ m ih =>
    intro j acc hj hB h
    have hlt : j < xs.length := by omega
    rw [List.drop_eq_getElem_cons hlt, List.flatMap_cons, ← List.append_assoc] at h
    have hm : (m + 1) * d = m * d + d := by rw [Nat.add_mul, Nat.one_mul]
    refine Ev.step (fun k => ?_) (ih (j + 1) (acc ++ g xs[j]) (by omega) (by rw [List.length_append, hd]; omega) h)
    rw [hstep k j acc hlt (by omega), wrapNext hlt hb]
theorem rd_at {l : List Int} {j : Nat} (h : j < l.length) : rd l (j : Int) = l[j] := by
  show l.getD j _ = _
  rw [List.getD_eq_getElem?_getD, List.getElem?_eq_getElem h]; rfl
theorem rd63_at {l : List S63} {j : Nat} (h : j < l.length) : rd_T63 l (j : Int) = l[j] := by
  show l.getD j _ = _
  rw [List.getD_eq_getElem?_getD, List.getElem?_eq_getElem h]; rfl
theorem rd48_at {l : List S48} {j : Nat} (h : j < l.length) : rd_T48 l (j : Int) = l[j] := by
  show l.getD j _ = _
  rw [List.getD_eq_getElem?_getD, List.getElem?_eq_getElem h]; rfl
def two (n : Int) : List Int := [(n / 256) % 256, n % 256]
def ib (i : S63) : List Int := [i.f0 % 256, i.f1 % 256, i.f2 % 256, i.f3 % 256] ++ two i.f4
def ob (x : Int) : List Int := [x % 256]
def qb (p : S48) : List Int := [p.f0 % 256, p.f1 % 256]
def pb (a0 a1 : Int) (c : List S63) (o : List Int) : List Int := ([a0 % 256, a1 % 256] ++ two (c.length : Int)) ++ c.flatMap ib ++ [(o.length : Int) % 256] ++ o.flatMap ob
def body (x : S28) : List Int := ([65, 78, 86, 49, x.f0 % 256, x.f1 % 256, (x.f2.length : Int) % 256] ++ x.f2.flatMap qb) ++ pb x.f3.f0 x.f3.f1 x.f3.f2 x.f3.f3 ++ pb x.f4.f0 x.f4.f1 x.f4.f2 x.f4.f3 ++ pb x.f5.f0 x.f5.f1 x.f5.f2 x.f5.f3
theorem flat_len {α : Type} {g : α → List Int} {d : Nat} (hd : ∀ x, (g x).length = d) : ∀ l : List α, (l.flatMap g).length = l.length * d
  | [] => by simp
  | a :: l => by rw [List.flatMap_cons, List.length_append, hd, flat_len hd l, List.length_cons, Nat.add_mul, Nat.one_mul]; omega
theorem pb_len (a0 a1 : Int) (c : List S63) (o : List Int) : (pb a0 a1 c o).length = 5 + c.length * 6 + o.length := by
  unfold pb
  simp only [List.length_append, flat_len (d := 6) (g := ib) (fun _ => rfl), flat_len (d := 1) (g := ob) (fun _ => rfl)]
  simp only [two, List.length_cons, List.length_nil]
  omega
theorem body_len (x : S28) : (body x).length = 7 + x.f2.length * 2 + (5 + x.f3.f2.length * 6 + x.f3.f3.length) + (5 + x.f4.f2.length * 6 + x.f4.f3.length) + (5 + x.f5.f2.length * 6 + x.f5.f3.length) := by
  unfold body
  simp only [List.length_append, pb_len, flat_len (d := 2) (g := qb) (fun _ => rfl)]
  simp only [List.length_cons, List.length_nil]
theorem pair_at {l : List Int} {n : Int} (h : l.length + 2 < 140737488355328) : code_pair.f l n = some (l ++ two n) := by
  unfold code_pair.f
  simp only [Option.bind_some]
  exact if_pos h
/-- Units as short as those that may be. -/
structure Short (x : S28) : Prop where
  p : x.f2.length ≤ 255
  c3 : x.f3.f2.length ≤ 16384
  o3 : x.f3.f3.length ≤ 128
  c4 : x.f4.f2.length ≤ 16384
  o4 : x.f4.f3.length ≤ 128
  c5 : x.f5.f2.length ≤ 16384
  o5 : x.f5.f3.length ≤ 128
/-! ### the check -/
def ckv : Nat → Int → List Int → Int
  | _, s, [] => s
  | j, s, x :: r => ckv (j + 1) ((s + ((j : Int) + 1) * x) % 65521) r
theorem ckv_rng : ∀ (l : List Int) (j : Nat) (s : Int), 0 ≤ s → s < 65521 → 0 ≤ ckv j s l ∧ ckv j s l < 65521
  | [], j, s, h0, h1 => ⟨h0, h1⟩
  | x :: r, j, s, h0, h1 => ckv_rng r (j + 1) _ (Int.emod_nonneg _ (by decide)) (Int.emod_lt_of_pos _ (by decide))
theorem ck_step {s x : Int} {j : Nat} (hj : j < 1099511627776) (hs : 0 ≤ s) (hs1 : s < 65521) (hx : 0 ≤ x) (hx1 : x < 256) :
    Int.tmod (wrap64 (s + (wrap64 ((Int.tmod (wrap64 ((j : Int) + 1)) 65521) * (wrap64 x))))) 65521 = (s + ((j : Int) + 1) * x) % 65521 ∧ Int.tmod (wrap64 (s + (wrap64 ((wrap64 ((j : Int) + 1)) * (wrap64 x))))) 65521 = (s + ((j : Int) + 1) * x) % 65521 := by
  have w1 : wrap64 ((j : Int) + 1) = (j : Int) + 1 := by unfold wrap64; omega
  have w2 : wrap64 x = x := by unfold wrap64; omega
  rw [w1, w2, Int.tmod_eq_emod_of_nonneg (a := (j : Int) + 1) (by omega)]
  have hm0 : 0 ≤ ((j : Int) + 1) % 65521 := Int.emod_nonneg _ (by decide)
  have hm1 : ((j : Int) + 1) % 65521 < 65521 := Int.emod_lt_of_pos _ (by decide)
  have p0 : 0 ≤ ((j : Int) + 1) % 65521 * x := Int.mul_nonneg hm0 hx
  have p1 : ((j : Int) + 1) % 65521 * x ≤ 65521 * 256 := Int.mul_le_mul (by omega) (by omega) hx (by decide)
  have q0 : 0 ≤ ((j : Int) + 1) * x := Int.mul_nonneg (by omega) hx
  have q1 : ((j : Int) + 1) * x ≤ 1099511627776 * 256 := Int.mul_le_mul (by omega) (by omega) hx (by decide)
  have w3 : wrap64 (((j : Int) + 1) % 65521 * x) = ((j : Int) + 1) % 65521 * x := by unfold wrap64; omega
  have w4 : wrap64 (((j : Int) + 1) * x) = ((j : Int) + 1) * x := by unfold wrap64; omega
  have w5 : wrap64 (s + ((j : Int) + 1) % 65521 * x) = s + ((j : Int) + 1) % 65521 * x := by unfold wrap64; omega
  have w6 : wrap64 (s + ((j : Int) + 1) * x) = s + ((j : Int) + 1) * x := by unfold wrap64; omega
  rw [w3, w4, w5, w6, Int.tmod_eq_emod_of_nonneg (by omega), Int.tmod_eq_emod_of_nonneg (by omega)]
  refine ⟨?_, rfl⟩
  rw [Int.add_emod s, Int.mul_emod, Int.emod_emod, ← Int.mul_emod, ← Int.add_emod]
def Bytes (l : List Int) : Prop := ∀ x ∈ l, 0 ≤ x ∧ x < 256
theorem check_evl {l : List Int} (hl : l.length < 1099511627776) (hb : Bytes l) : ∀ (m j : Nat) (s : Int), j + m = l.length → 0 ≤ s → s < 65521 → Ev (fun k => code_check.l0 k s l (l.length : Int) (j : Int)) (ckv j s (l.drop j)) ∧ Ev (fun k => swageref17_check.l0 k l s (j : Int)) (ckv j s (l.drop j)) := by
  intro m
  induction m with
  | zero =>
    intro j s hj h0 h1
    obtain rfl : j = l.length := by omega
    rw [List.drop_length]
    exact ⟨Ev.step (fun k => by simp only [code_check.l0]; rw [if_neg (by omega)]) (Ev.now s), Ev.step (fun k => by simp only [swageref17_check.l0]; rw [if_neg (by omega)]) (Ev.now s)⟩
  | succ m ih =>
    intro j s hj h0 h1
    have hlt : j < l.length := by omega
    have hx := hb l[j] (List.getElem_mem hlt)
    have hs := ck_step (x := l[j]) (j := j) (by omega) h0 h1 hx.1 hx.2
    rw [List.drop_eq_getElem_cons hlt]
    obtain ⟨i1, i2⟩ := ih (j + 1) ((s + ((j : Int) + 1) * l[j]) % 65521) (by omega) (Int.emod_nonneg _ (by decide)) (Int.emod_lt_of_pos _ (by decide))
    refine ⟨Ev.step (fun k => ?_) i1, Ev.step (fun k => ?_) i2⟩
    · simp only [code_check.l0]
      rw [if_pos (by omega), if_pos (by omega), if_pos (by omega), rd_at hlt, hs.1, wrapNext hlt (by omega)]
    · simp only [swageref17_check.l0]
      rw [if_pos (by omega), if_pos (by omega), rd_at hlt, hs.2, wrapNext hlt (by omega)]
def ck (l : List Int) : Int := ckv 0 0 l
theorem check_ev' {l : List Int} (hl : l.length < 1099511627776) (hb : Bytes l) : Ev (fun k => code_check.f k l) (ck l) := (check_evl hl hb l.length 0 0 (by omega) (by decide) (by decide)).1
theorem refcheck_ev' {l : List Int} (hl : l.length < 1099511627776) (hb : Bytes l) : Ev (fun k => swageref17_check.f k l) (ck l) := (check_evl hl hb l.length 0 0 (by omega) (by decide) (by decide)).2
theorem bytes_app {a b : List Int} (ha : Bytes a) (hb : Bytes b) : Bytes (a ++ b) := by
  intro x hx
  rcases List.mem_append.1 hx with h | h
  · exact ha x h
  · exact hb x h
theorem bytes_nil : Bytes [] := by intro x hx; cases hx
theorem bytes_cons {a : Int} {l : List Int} (ha : 0 ≤ a ∧ a < 256) (hl : Bytes l) : Bytes (a :: l) := by
  intro x hx
  rcases List.mem_cons.1 hx with h | h
  · rw [h]; exact ha
  · exact hl x h
theorem mod_byte (a : Int) : 0 ≤ a % 256 ∧ a % 256 < 256 := by omega
theorem bytes_flat {α : Type} {g : α → List Int} (hg : ∀ x, Bytes (g x)) (l : List α) : Bytes (l.flatMap g) := by
  intro x hx
  obtain ⟨a, _, ha⟩ := List.mem_flatMap.1 hx
  exact hg a x ha
theorem bytes_two (n : Int) : Bytes (two n) := bytes_cons (mod_byte _) (bytes_cons (mod_byte _) bytes_nil)
theorem bytes_ib (i : S63) : Bytes (ib i) := bytes_app (bytes_cons (mod_byte _) (bytes_cons (mod_byte _) (bytes_cons (mod_byte _) (bytes_cons (mod_byte _) bytes_nil)))) (bytes_two _)
theorem bytes_pb (a0 a1 : Int) (c : List S63) (o : List Int) : Bytes (pb a0 a1 c o) :=
  bytes_app (bytes_app (bytes_app (bytes_app (bytes_cons (mod_byte _) (bytes_cons (mod_byte _) bytes_nil)) (bytes_two _)) (bytes_flat bytes_ib c)) (bytes_cons (mod_byte _) bytes_nil)) (bytes_flat (fun _ => bytes_cons (mod_byte _) bytes_nil) o)
theorem bytes_body (x : S28) : Bytes (body x) :=
  bytes_app (bytes_app (bytes_app (bytes_app (bytes_cons (by decide) (bytes_cons (by decide) (bytes_cons (by decide) (bytes_cons (by decide) (bytes_cons (mod_byte _) (bytes_cons (mod_byte _) (bytes_cons (mod_byte _) bytes_nil))))))) (bytes_flat (fun _ => bytes_cons (mod_byte _) (bytes_cons (mod_byte _) bytes_nil)) _)) (bytes_pb _ _ _ _)) (bytes_pb _ _ _ _)) (bytes_pb _ _ _ _)
def told (x : S28) : List Int := body x ++ two (ck (body x))
/-! ### the program's encoding -/
section
variable {x : S28} {v : List Int × Int}
theorem enc_l2 (hs : Short x) {acc : List Int} (hB : acc.length + x.f3.f2.length * 6 + x.f3.f3.length + 1 < 140737488355328)
    (h : Ev (fun k => code_Encode.l1 k (acc ++ x.f3.f2.flatMap ib ++ [(x.f3.f3.length : Int) % 256] ++ x.f3.f3.flatMap ob) 1 x.f0 x.f1 x.f2 x.f3.f0 x.f3.f1 x.f3.f2 x.f3.f3 x.f4.f0 x.f4.f1 x.f4.f2 x.f4.f3 x.f5.f0 x.f5.f1 x.f5.f2 x.f5.f3) v) : Ev (fun k => code_Encode.l2 k acc 0 x.f3.f2 (x.f3.f2.length : Int) 0 x.f0 x.f1 x.f2 x.f3.f0 x.f3.f1 x.f3.f2 x.f3.f3 x.f4.f0 x.f4.f1 x.f4.f2 x.f4.f3 x.f5.f0 x.f5.f1 x.f5.f2 x.f5.f3) v := by
  have hc := hs.c3
  have ho := hs.o3
  refine apploop (l := fun k acc i => code_Encode.l2 k acc 0 x.f3.f2 (x.f3.f2.length : Int) i x.f0 x.f1 x.f2 x.f3.f0 x.f3.f1 x.f3.f2 x.f3.f3 x.f4.f0 x.f4.f1 x.f4.f2 x.f4.f3 x.f5.f0 x.f5.f1 x.f5.f2 x.f5.f3) (c := fun k acc => if acc.length < 140737488355328 then code_Encode.l3 k (acc ++ [((x.f3.f3.length : Int)) % 256]) 0 x.f3.f3 (x.f3.f3.length : Int) 0 x.f0 x.f1 x.f2 x.f3.f0 x.f3.f1 x.f3.f2 x.f3.f3 x.f4.f0 x.f4.f1 x.f4.f2 x.f4.f3 x.f5.f0 x.f5.f1 x.f5.f2 x.f5.f3 else none) (xs := x.f3.f2) z63 ib 6 140737488355328 (fun _ => rfl) (by omega)
    (fun k j acc hj hB => ?_) (fun k acc hB => ?_) x.f3.f2.length 0 acc (by omega) (by omega) ?_
  · simp only [code_Encode.l2]
    rw [if_pos (by omega), if_pos (by omega), if_pos (by omega), rd63_at hj, Option.bind_some, if_pos (by simp only [List.length_cons, List.length_nil]; omega), pair_at (by simp only [List.length_append, List.length_cons, List.length_nil]; omega), Option.bind_some, List.append_assoc]
    rfl
  · simp only [code_Encode.l2]
    rw [if_neg (by omega)]
  · rw [List.drop_zero]
    have hL : (acc ++ x.f3.f2.flatMap ib).length = acc.length + x.f3.f2.length * 6 := by rw [List.length_append, flat_len (d := 6) (fun _ => rfl)]
    refine ev_pos (by rw [hL]; omega) ?_
    refine apploop (l := fun k acc i => code_Encode.l3 k acc 0 x.f3.f3 (x.f3.f3.length : Int) i x.f0 x.f1 x.f2 x.f3.f0 x.f3.f1 x.f3.f2 x.f3.f3 x.f4.f0 x.f4.f1 x.f4.f2 x.f4.f3 x.f5.f0 x.f5.f1 x.f5.f2 x.f5.f3) (c := fun k acc => code_Encode.l1 k acc 1 x.f0 x.f1 x.f2 x.f3.f0 x.f3.f1 x.f3.f2 x.f3.f3 x.f4.f0 x.f4.f1 x.f4.f2 x.f4.f3 x.f5.f0 x.f5.f1 x.f5.f2 x.f5.f3) (xs := x.f3.f3) 0 ob 1 140737488355328 (fun _ => rfl) (by omega)
      (fun k j acc hj hB => ?_) (fun k acc hB => ?_) x.f3.f3.length 0 _ (by omega) (by rw [List.length_append, hL, List.length_cons, List.length_nil]; omega) ?_
    · simp only [code_Encode.l3]
      rw [if_pos (by omega), if_pos (by omega), if_pos (by omega), rd_at hj, if_pos (by omega)]
      rfl
    · simp only [code_Encode.l3]
      rw [if_neg (by omega), show wrap64 (0 + 1) = 1 from by unfold wrap64; omega]
    · rw [List.drop_zero]
      exact h
theorem enc_1l2 (hs : Short x) {acc : List Int} (hB : acc.length + 5 + x.f3.f2.length * 6 + x.f3.f3.length < 140737488355328)
    (h : Ev (fun k => code_Encode.l1 k (acc ++ pb x.f3.f0 x.f3.f1 x.f3.f2 x.f3.f3) 1 x.f0 x.f1 x.f2 x.f3.f0 x.f3.f1 x.f3.f2 x.f3.f3 x.f4.f0 x.f4.f1 x.f4.f2 x.f4.f3 x.f5.f0 x.f5.f1 x.f5.f2 x.f5.f3) v) : Ev (fun k => code_Encode.l1 k acc 0 x.f0 x.f1 x.f2 x.f3.f0 x.f3.f1 x.f3.f2 x.f3.f3 x.f4.f0 x.f4.f1 x.f4.f2 x.f4.f3 x.f5.f0 x.f5.f1 x.f5.f2 x.f5.f3) v := by
  refine Ev.step (f := fun k => code_Encode.l2 k (acc ++ [x.f3.f0 % 256, x.f3.f1 % 256] ++ two (x.f3.f2.length : Int)) 0 x.f3.f2 (x.f3.f2.length : Int) 0 x.f0 x.f1 x.f2 x.f3.f0 x.f3.f1 x.f3.f2 x.f3.f3 x.f4.f0 x.f4.f1 x.f4.f2 x.f4.f3 x.f5.f0 x.f5.f1 x.f5.f2 x.f5.f3) (fun k => ?_) (enc_l2 hs (by simp only [List.length_append, List.length_cons, List.length_nil, two]; omega) ?_)
  · simp only [code_Encode.l1]
    rw [if_pos (by omega), if_pos trivial, Option.bind_some, if_pos (by simp only [List.length_cons, List.length_nil]; omega), pair_at (by simp only [List.length_append, List.length_cons, List.length_nil]; omega), Option.bind_some]
  · unfold pb at h
    simp only [List.append_assoc] at h ⊢
    exact h
theorem enc_l4 (hs : Short x) {acc : List Int} (hB : acc.length + x.f4.f2.length * 6 + x.f4.f3.length + 1 < 140737488355328)
    (h : Ev (fun k => code_Encode.l1 k (acc ++ x.f4.f2.flatMap ib ++ [(x.f4.f3.length : Int) % 256] ++ x.f4.f3.flatMap ob) 2 x.f0 x.f1 x.f2 x.f3.f0 x.f3.f1 x.f3.f2 x.f3.f3 x.f4.f0 x.f4.f1 x.f4.f2 x.f4.f3 x.f5.f0 x.f5.f1 x.f5.f2 x.f5.f3) v) : Ev (fun k => code_Encode.l4 k acc 1 x.f4.f2 (x.f4.f2.length : Int) 0 x.f0 x.f1 x.f2 x.f3.f0 x.f3.f1 x.f3.f2 x.f3.f3 x.f4.f0 x.f4.f1 x.f4.f2 x.f4.f3 x.f5.f0 x.f5.f1 x.f5.f2 x.f5.f3) v := by
  have hc := hs.c4
  have ho := hs.o4
  refine apploop (l := fun k acc i => code_Encode.l4 k acc 1 x.f4.f2 (x.f4.f2.length : Int) i x.f0 x.f1 x.f2 x.f3.f0 x.f3.f1 x.f3.f2 x.f3.f3 x.f4.f0 x.f4.f1 x.f4.f2 x.f4.f3 x.f5.f0 x.f5.f1 x.f5.f2 x.f5.f3) (c := fun k acc => if acc.length < 140737488355328 then code_Encode.l5 k (acc ++ [((x.f4.f3.length : Int)) % 256]) 1 x.f4.f3 (x.f4.f3.length : Int) 0 x.f0 x.f1 x.f2 x.f3.f0 x.f3.f1 x.f3.f2 x.f3.f3 x.f4.f0 x.f4.f1 x.f4.f2 x.f4.f3 x.f5.f0 x.f5.f1 x.f5.f2 x.f5.f3 else none) (xs := x.f4.f2) z63 ib 6 140737488355328 (fun _ => rfl) (by omega)
    (fun k j acc hj hB => ?_) (fun k acc hB => ?_) x.f4.f2.length 0 acc (by omega) (by omega) ?_
  · simp only [code_Encode.l4]
    rw [if_pos (by omega), if_pos (by omega), if_pos (by omega), rd63_at hj, Option.bind_some, if_pos (by simp only [List.length_cons, List.length_nil]; omega), pair_at (by simp only [List.length_append, List.length_cons, List.length_nil]; omega), Option.bind_some, List.append_assoc]
    rfl
  · simp only [code_Encode.l4]
    rw [if_neg (by omega)]
  · rw [List.drop_zero]
    have hL : (acc ++ x.f4.f2.flatMap ib).length = acc.length + x.f4.f2.length * 6 := by rw [List.length_append, flat_len (d := 6) (fun _ => rfl)]
    refine ev_pos (by rw [hL]; omega) ?_
    refine apploop (l := fun k acc i => code_Encode.l5 k acc 1 x.f4.f3 (x.f4.f3.length : Int) i x.f0 x.f1 x.f2 x.f3.f0 x.f3.f1 x.f3.f2 x.f3.f3 x.f4.f0 x.f4.f1 x.f4.f2 x.f4.f3 x.f5.f0 x.f5.f1 x.f5.f2 x.f5.f3) (c := fun k acc => code_Encode.l1 k acc 2 x.f0 x.f1 x.f2 x.f3.f0 x.f3.f1 x.f3.f2 x.f3.f3 x.f4.f0 x.f4.f1 x.f4.f2 x.f4.f3 x.f5.f0 x.f5.f1 x.f5.f2 x.f5.f3) (xs := x.f4.f3) 0 ob 1 140737488355328 (fun _ => rfl) (by omega)
      (fun k j acc hj hB => ?_) (fun k acc hB => ?_) x.f4.f3.length 0 _ (by omega) (by rw [List.length_append, hL, List.length_cons, List.length_nil]; omega) ?_
    · simp only [code_Encode.l5]
      rw [if_pos (by omega), if_pos (by omega), if_pos (by omega), rd_at hj, if_pos (by omega)]
      rfl
    · simp only [code_Encode.l5]
      rw [if_neg (by omega), show wrap64 (1 + 1) = 2 from by unfold wrap64; omega]
    · rw [List.drop_zero]
      exact h
theorem enc_1l4 (hs : Short x) {acc : List Int} (hB : acc.length + 5 + x.f4.f2.length * 6 + x.f4.f3.length < 140737488355328)
    (h : Ev (fun k => code_Encode.l1 k (acc ++ pb x.f4.f0 x.f4.f1 x.f4.f2 x.f4.f3) 2 x.f0 x.f1 x.f2 x.f3.f0 x.f3.f1 x.f3.f2 x.f3.f3 x.f4.f0 x.f4.f1 x.f4.f2 x.f4.f3 x.f5.f0 x.f5.f1 x.f5.f2 x.f5.f3) v) : Ev (fun k => code_Encode.l1 k acc 1 x.f0 x.f1 x.f2 x.f3.f0 x.f3.f1 x.f3.f2 x.f3.f3 x.f4.f0 x.f4.f1 x.f4.f2 x.f4.f3 x.f5.f0 x.f5.f1 x.f5.f2 x.f5.f3) v := by
  refine Ev.step (f := fun k => code_Encode.l4 k (acc ++ [x.f4.f0 % 256, x.f4.f1 % 256] ++ two (x.f4.f2.length : Int)) 1 x.f4.f2 (x.f4.f2.length : Int) 0 x.f0 x.f1 x.f2 x.f3.f0 x.f3.f1 x.f3.f2 x.f3.f3 x.f4.f0 x.f4.f1 x.f4.f2 x.f4.f3 x.f5.f0 x.f5.f1 x.f5.f2 x.f5.f3) (fun k => ?_) (enc_l4 hs (by simp only [List.length_append, List.length_cons, List.length_nil, two]; omega) ?_)
  · simp only [code_Encode.l1]
    rw [if_pos (by omega), if_neg (by omega), if_pos trivial, Option.bind_some, if_pos (by simp only [List.length_cons, List.length_nil]; omega), pair_at (by simp only [List.length_append, List.length_cons, List.length_nil]; omega), Option.bind_some]
  · unfold pb at h
    simp only [List.append_assoc] at h ⊢
    exact h
theorem enc_l6 (hs : Short x) {acc : List Int} (hB : acc.length + x.f5.f2.length * 6 + x.f5.f3.length + 1 < 140737488355328)
    (h : Ev (fun k => code_Encode.l1 k (acc ++ x.f5.f2.flatMap ib ++ [(x.f5.f3.length : Int) % 256] ++ x.f5.f3.flatMap ob) 3 x.f0 x.f1 x.f2 x.f3.f0 x.f3.f1 x.f3.f2 x.f3.f3 x.f4.f0 x.f4.f1 x.f4.f2 x.f4.f3 x.f5.f0 x.f5.f1 x.f5.f2 x.f5.f3) v) : Ev (fun k => code_Encode.l6 k acc 2 x.f5.f2 (x.f5.f2.length : Int) 0 x.f0 x.f1 x.f2 x.f3.f0 x.f3.f1 x.f3.f2 x.f3.f3 x.f4.f0 x.f4.f1 x.f4.f2 x.f4.f3 x.f5.f0 x.f5.f1 x.f5.f2 x.f5.f3) v := by
  have hc := hs.c5
  have ho := hs.o5
  refine apploop (l := fun k acc i => code_Encode.l6 k acc 2 x.f5.f2 (x.f5.f2.length : Int) i x.f0 x.f1 x.f2 x.f3.f0 x.f3.f1 x.f3.f2 x.f3.f3 x.f4.f0 x.f4.f1 x.f4.f2 x.f4.f3 x.f5.f0 x.f5.f1 x.f5.f2 x.f5.f3) (c := fun k acc => if acc.length < 140737488355328 then code_Encode.l7 k (acc ++ [((x.f5.f3.length : Int)) % 256]) 2 x.f5.f3 (x.f5.f3.length : Int) 0 x.f0 x.f1 x.f2 x.f3.f0 x.f3.f1 x.f3.f2 x.f3.f3 x.f4.f0 x.f4.f1 x.f4.f2 x.f4.f3 x.f5.f0 x.f5.f1 x.f5.f2 x.f5.f3 else none) (xs := x.f5.f2) z63 ib 6 140737488355328 (fun _ => rfl) (by omega)
    (fun k j acc hj hB => ?_) (fun k acc hB => ?_) x.f5.f2.length 0 acc (by omega) (by omega) ?_
  · simp only [code_Encode.l6]
    rw [if_pos (by omega), if_pos (by omega), if_pos (by omega), rd63_at hj, Option.bind_some, if_pos (by simp only [List.length_cons, List.length_nil]; omega), pair_at (by simp only [List.length_append, List.length_cons, List.length_nil]; omega), Option.bind_some, List.append_assoc]
    rfl
  · simp only [code_Encode.l6]
    rw [if_neg (by omega)]
  · rw [List.drop_zero]
    have hL : (acc ++ x.f5.f2.flatMap ib).length = acc.length + x.f5.f2.length * 6 := by rw [List.length_append, flat_len (d := 6) (fun _ => rfl)]
    refine ev_pos (by rw [hL]; omega) ?_
    refine apploop (l := fun k acc i => code_Encode.l7 k acc 2 x.f5.f3 (x.f5.f3.length : Int) i x.f0 x.f1 x.f2 x.f3.f0 x.f3.f1 x.f3.f2 x.f3.f3 x.f4.f0 x.f4.f1 x.f4.f2 x.f4.f3 x.f5.f0 x.f5.f1 x.f5.f2 x.f5.f3) (c := fun k acc => code_Encode.l1 k acc 3 x.f0 x.f1 x.f2 x.f3.f0 x.f3.f1 x.f3.f2 x.f3.f3 x.f4.f0 x.f4.f1 x.f4.f2 x.f4.f3 x.f5.f0 x.f5.f1 x.f5.f2 x.f5.f3) (xs := x.f5.f3) 0 ob 1 140737488355328 (fun _ => rfl) (by omega)
      (fun k j acc hj hB => ?_) (fun k acc hB => ?_) x.f5.f3.length 0 _ (by omega) (by rw [List.length_append, hL, List.length_cons, List.length_nil]; omega) ?_
    · simp only [code_Encode.l7]
      rw [if_pos (by omega), if_pos (by omega), if_pos (by omega), rd_at hj, if_pos (by omega)]
      rfl
    · simp only [code_Encode.l7]
      rw [if_neg (by omega), show wrap64 (2 + 1) = 3 from by unfold wrap64; omega]
    · rw [List.drop_zero]
      exact h
theorem enc_1l6 (hs : Short x) {acc : List Int} (hB : acc.length + 5 + x.f5.f2.length * 6 + x.f5.f3.length < 140737488355328)
    (h : Ev (fun k => code_Encode.l1 k (acc ++ pb x.f5.f0 x.f5.f1 x.f5.f2 x.f5.f3) 3 x.f0 x.f1 x.f2 x.f3.f0 x.f3.f1 x.f3.f2 x.f3.f3 x.f4.f0 x.f4.f1 x.f4.f2 x.f4.f3 x.f5.f0 x.f5.f1 x.f5.f2 x.f5.f3) v) : Ev (fun k => code_Encode.l1 k acc 2 x.f0 x.f1 x.f2 x.f3.f0 x.f3.f1 x.f3.f2 x.f3.f3 x.f4.f0 x.f4.f1 x.f4.f2 x.f4.f3 x.f5.f0 x.f5.f1 x.f5.f2 x.f5.f3) v := by
  refine Ev.step (f := fun k => code_Encode.l6 k (acc ++ [x.f5.f0 % 256, x.f5.f1 % 256] ++ two (x.f5.f2.length : Int)) 2 x.f5.f2 (x.f5.f2.length : Int) 0 x.f0 x.f1 x.f2 x.f3.f0 x.f3.f1 x.f3.f2 x.f3.f3 x.f4.f0 x.f4.f1 x.f4.f2 x.f4.f3 x.f5.f0 x.f5.f1 x.f5.f2 x.f5.f3) (fun k => ?_) (enc_l6 hs (by simp only [List.length_append, List.length_cons, List.length_nil, two]; omega) ?_)
  · simp only [code_Encode.l1]
    rw [if_pos (by omega), if_neg (by omega), if_neg (by omega), if_pos trivial, Option.bind_some, if_pos (by simp only [List.length_cons, List.length_nil]; omega), pair_at (by simp only [List.length_append, List.length_cons, List.length_nil]; omega), Option.bind_some]
  · unfold pb at h
    simp only [List.append_assoc] at h ⊢
    exact h
theorem enc_last (hs : Short x) : Ev (fun k => code_Encode.l1 k (body x) 3 x.f0 x.f1 x.f2 x.f3.f0 x.f3.f1 x.f3.f2 x.f3.f3 x.f4.f0 x.f4.f1 x.f4.f2 x.f4.f3 x.f5.f0 x.f5.f1 x.f5.f2 x.f5.f3) (told x, 0) := by
  have hl := body_len x
  have h1 := hs.p; have h2 := hs.c3; have h3 := hs.o3; have h4 := hs.c4; have h5 := hs.o4; have h6 := hs.c5; have h7 := hs.o5
  refine Ev.step (f := fun k => (code_check.f k (body x)).bind fun t172 => (code_pair.f (body x) t172).bind fun t173 => some (t173, 0)) (fun k => ?_) ?_
  · simp only [code_Encode.l1]
    rw [if_neg (by omega)]
  · refine Ev.bind (check_ev' (by omega) (bytes_body x)) ?_
    rw [pair_at (by omega)]
    exact Ev.now _
theorem enc_ev (hs : Short x) (hm : Ev (fun k => code_May.f k x.f0 x.f1 x.f2 x.f3.f0 x.f3.f1 x.f3.f2 x.f3.f3 x.f4.f0 x.f4.f1 x.f4.f2 x.f4.f3 x.f5.f0 x.f5.f1 x.f5.f2 x.f5.f3) 0) : Ev (fun k => code_Encode.f k x.f0 x.f1 x.f2 x.f3.f0 x.f3.f1 x.f3.f2 x.f3.f3 x.f4.f0 x.f4.f1 x.f4.f2 x.f4.f3 x.f5.f0 x.f5.f1 x.f5.f2 x.f5.f3) (told x, 0) := by
  have h1 := hs.p; have h2 := hs.c3; have h3 := hs.o3; have h4 := hs.c4; have h5 := hs.o4; have h6 := hs.c5; have h7 := hs.o5
  unfold code_Encode.f
  refine Ev.bind hm (ev_pos rfl ?_)
  have hq : (x.f2.flatMap qb).length = x.f2.length * 2 := flat_len (g := qb) (d := 2) (fun _ => rfl) _
  refine apploop (l := fun k acc i => code_Encode.l0 k acc x.f2 (x.f2.length : Int) i x.f0 x.f1 x.f2 x.f3.f0 x.f3.f1 x.f3.f2 x.f3.f3 x.f4.f0 x.f4.f1 x.f4.f2 x.f4.f3 x.f5.f0 x.f5.f1 x.f5.f2 x.f5.f3) (c := fun k acc => code_Encode.l1 k acc 0 x.f0 x.f1 x.f2 x.f3.f0 x.f3.f1 x.f3.f2 x.f3.f3 x.f4.f0 x.f4.f1 x.f4.f2 x.f4.f3 x.f5.f0 x.f5.f1 x.f5.f2 x.f5.f3) (xs := x.f2) z48 qb 2 140737488355328 (fun _ => rfl) (by omega)
    (fun k j acc hj hB => ?_) (fun k acc hB => ?_) x.f2.length 0 _ (by omega) (by simp only [List.length_cons, List.length_nil]; omega) ?_
  · simp only [code_Encode.l0]
    rw [if_pos (by omega), if_pos (by omega), if_pos (by omega), rd48_at hj, Option.bind_some, if_pos (by simp only [List.length_cons, List.length_nil]; omega)]
    rfl
  · simp only [code_Encode.l0]
    rw [if_neg (by omega)]
    rfl
  · rw [List.drop_zero]
    refine enc_1l2 hs (by simp only [List.length_append, hq, List.length_cons, List.length_nil]; omega) ?_
    refine enc_1l4 hs (by simp only [List.length_append, pb_len, hq, List.length_cons, List.length_nil]; omega) ?_
    refine enc_1l6 hs (by simp only [List.length_append, pb_len, hq, List.length_cons, List.length_nil]; omega) ?_
    exact enc_last hs
theorem enc_no {e : Int} (he : e ≠ 0) (hm : Ev (fun k => code_May.f k x.f0 x.f1 x.f2 x.f3.f0 x.f3.f1 x.f3.f2 x.f3.f3 x.f4.f0 x.f4.f1 x.f4.f2 x.f4.f3 x.f5.f0 x.f5.f1 x.f5.f2 x.f5.f3) e) : Ev (fun k => code_Encode.f k x.f0 x.f1 x.f2 x.f3.f0 x.f3.f1 x.f3.f2 x.f3.f3 x.f4.f0 x.f4.f1 x.f4.f2 x.f4.f3 x.f5.f0 x.f5.f1 x.f5.f2 x.f5.f3) ([], e) := by
  unfold code_Encode.f
  exact Ev.bind hm (ev_neg he (Ev.now _))
end
end Go.Proofs.Ytccbdcbeinkjgaa.PlainEnc
end

section
/- A unit's bytes by the document, and which units may be. -/
namespace Go.Proofs.Ytccbdcbeinkjgaa.PlainRef
open Go.RowKit Go.Proofs.YtccbdcbeinkjgaaW.PrintWords Go.Proofs.YtccbdcbeinkjgaaW.PrintLast Go.Proofs.YtccbdcbeinkjgaaW.PrintMore Go.Proofs.Ytccbdcbeinkjgaa.XA Go.Proofs.Ytccbdcbeinkjgaa.Evs Go.Proofs.Ytccbdcbeinkjgaa.PlainCode Go.Proofs.Ytccbdcbeinkjgaa.PlainChk Go.Proofs.Ytccbdcbeinkjgaa.PlainEnc
set_option linter.unusedVariables false
set_option linter.unusedSimpArgs false
theorem two_at' {n : Int} (h0 : -65536 ≤ n) (h1 : n ≤ 4611686018427387904) : swageref17_two.f n = some (two n) := by
  unfold swageref17_two.f two
  have w : wrap64 (n + 65536) = n + 65536 := by unfold wrap64; omega
  rw [w, Int.tmod_eq_emod_of_nonneg (a := n + 65536) (by omega)]
  have m0 : 0 ≤ (n + 65536) % 65536 := by omega
  have w2 : wrap64 (Int.tdiv ((n + 65536) % 65536) 256) = (n + 65536) % 65536 / 256 := by
    rw [Int.tdiv_eq_ediv_of_nonneg m0]; unfold wrap64; omega
  rw [w2, Int.tmod_eq_emod_of_nonneg m0]
  have e1 : (n + 65536) % 65536 / 256 % 256 = n / 256 % 256 := by omega
  have e2 : (n + 65536) % 65536 % 256 % 256 = n % 256 := by omega
  rw [e1, e2]
theorem rprog_ev {a0 a1 : Int} {c : List S63} {o : List Int} (hc : c.length ≤ 16384) (ho : o.length ≤ 128) (hi : ∀ i ∈ c, -65536 ≤ i.f4 ∧ i.f4 ≤ 65536) : Ev (fun k => swageref17_program.f k a0 a1 c o) (pb a0 a1 c o) := by
  unfold swageref17_program.f
  simp only [Option.bind_some]
  rw [two_at' (by omega) (by omega)]
  refine Ev.congr (fun k => Option.bind_some _ _) ?_
  refine ev_pos (by simp only [List.length_cons, List.length_nil, two]; omega) ?_
  refine apploop (l := fun k acc i => swageref17_program.l0 k acc i a0 a1 c o) (c := fun k acc => if acc.length < 140737488355328 then swageref17_program.l1 k (acc ++ [((o.length : Int)) % 256]) 0 a0 a1 c o else none) (xs := c) z63 ib 6 140737488355328 (fun _ => rfl) (by omega)
    (fun k j acc hj hB => ?_) (fun k acc hB => ?_) c.length 0 _ (by omega) (by simp only [List.length_append, List.length_cons, List.length_nil, two]; omega) ?_
  · simp only [swageref17_program.l0]
    have hx := hi c[j] (List.getElem_mem hj)
    rw [if_pos (by omega), if_pos (by omega), rd63_at hj, Option.bind_some, if_pos (by simp only [List.length_cons, List.length_nil]; omega), Option.bind_some, two_at' hx.1 (by omega), Option.bind_some, if_pos (by simp only [List.length_append, List.length_cons, List.length_nil, two]; omega), List.append_assoc]
    rfl
  · simp only [swageref17_program.l0]
    rw [if_neg (by omega)]
  · rw [List.drop_zero]
    have hL : (([a0 % 256, a1 % 256] ++ two (c.length : Int)) ++ c.flatMap ib).length = 4 + c.length * 6 := by
      rw [List.length_append, flat_len (g := ib) (d := 6) (fun _ => rfl)]; rfl
    refine ev_pos (by rw [hL]; omega) ?_
    refine apploop (l := fun k acc i => swageref17_program.l1 k acc i a0 a1 c o) (c := fun k acc => some acc) (xs := o) 0 ob 1 140737488355328 (fun _ => rfl) (by omega)
      (fun k j acc hj hB => ?_) (fun k acc hB => ?_) o.length 0 _ (by omega) (by rw [List.length_append, hL, List.length_cons, List.length_nil]; omega) ?_
    · simp only [swageref17_program.l1]
      rw [if_pos (by omega), if_pos (by omega), if_pos (by omega), rd_at hj]
      rfl
    · simp only [swageref17_program.l1]
      rw [if_neg (by omega)]
    · rw [List.drop_zero]
      exact Ev.now _
/-- What is asked of a unit, part by part. -/
def PIn (p : S48) : Prop := (-16 ≤ p.f0 ∧ p.f0 ≤ 16) ∧ (-16 ≤ p.f1 ∧ p.f1 ≤ 16)
instance (p : S48) : Decidable (PIn p) := by unfold PIn; exact inferInstance
structure Fine (x : S28) : Prop where
  s : Short x
  p : ∀ p ∈ x.f2, PIn p
  i3 : ∀ i ∈ x.f3.f2, -65536 ≤ i.f4 ∧ i.f4 ≤ 65536
  i4 : ∀ i ∈ x.f4.f2, -65536 ≤ i.f4 ∧ i.f4 ≤ 65536
  i5 : ∀ i ∈ x.f5.f2, -65536 ≤ i.f4 ∧ i.f4 ≤ 65536
section
variable {x : S28}
theorem renc_ev (hf : Fine x) : Ev (fun k => swageref17_Encode.f k x.f0 x.f1 x.f2 x.f3.f0 x.f3.f1 x.f3.f2 x.f3.f3 x.f4.f0 x.f4.f1 x.f4.f2 x.f4.f3 x.f5.f0 x.f5.f1 x.f5.f2 x.f5.f3) (told x) := by
  have h1 := hf.s.p; have h2 := hf.s.c3; have h3 := hf.s.o3; have h4 := hf.s.c4; have h5 := hf.s.o4; have h6 := hf.s.c5; have h7 := hf.s.o5
  have hq : (x.f2.flatMap qb).length = x.f2.length * 2 := flat_len (g := qb) (d := 2) (fun _ => rfl) _
  have hl := body_len x
  unfold swageref17_Encode.f
  refine apploop (l := fun k acc i => swageref17_Encode.l0 k acc i x.f0 x.f1 x.f2 x.f3.f0 x.f3.f1 x.f3.f2 x.f3.f3 x.f4.f0 x.f4.f1 x.f4.f2 x.f4.f3 x.f5.f0 x.f5.f1 x.f5.f2 x.f5.f3) (c := fun k acc => (swageref17_program.f k x.f3.f0 x.f3.f1 x.f3.f2 x.f3.f3).bind fun t889 => (if acc.length + t889.length < 140737488355328 then ((some (acc ++ t889 : List Int)).bind fun y892 => ((swageref17_program.f k x.f4.f0 x.f4.f1 x.f4.f2 x.f4.f3).bind fun t895 => (if y892.length + t895.length < 140737488355328 then ((some (y892 ++ t895 : List Int)).bind fun y898 => ((swageref17_program.f k x.f5.f0 x.f5.f1 x.f5.f2 x.f5.f3).bind fun t901 => (if y898.length + t901.length < 140737488355328 then ((some (y898 ++ t901 : List Int)).bind fun y904 => ((swageref17_check.f k y904).bind fun t907 => ((swageref17_two.f t907).bind fun t908 => (if y904.length + t908.length < 140737488355328 then (some (y904 ++ t908)) else (none))))) else (none)))) else (none)))) else (none))) (xs := x.f2) z48 qb 2 140737488355328 (fun _ => rfl) (by omega)
    (fun k j acc hj hB => ?_) (fun k acc hB => ?_) x.f2.length 0 _ (by omega) (by simp only [List.length_cons, List.length_nil]; omega) ?_
  · simp only [swageref17_Encode.l0]
    have hx := hf.p x.f2[j] (List.getElem_mem hj)
    have e (a : Int) (h0 : -16 ≤ a) (h1 : a ≤ 16) : Int.tmod (wrap64 (a + 256)) 256 % 256 = a % 256 := by
      have w : wrap64 (a + 256) = a + 256 := by unfold wrap64; omega
      rw [w, Int.tmod_eq_emod_of_nonneg (by omega)]
      omega
    rw [if_pos (by omega), if_pos (by omega), rd48_at hj, Option.bind_some, if_pos (by simp only [List.length_cons, List.length_nil]; omega), e _ hx.1.1 hx.1.2, e _ hx.2.1 hx.2.2]
    rfl
  · simp only [swageref17_Encode.l0]
    rw [if_neg (by omega)]
  · rw [List.drop_zero]
    refine Ev.bind (rprog_ev h2 h3 hf.i3) ?_
    refine ev_pos (by simp only [List.length_append, pb_len, hq, List.length_cons, List.length_nil]; omega) ?_
    refine Ev.congr (fun k => Option.bind_some _ _) ?_
    refine Ev.bind (rprog_ev h4 h5 hf.i4) ?_
    refine ev_pos (by simp only [List.length_append, pb_len, hq, List.length_cons, List.length_nil]; omega) ?_
    refine Ev.congr (fun k => Option.bind_some _ _) ?_
    refine Ev.bind (rprog_ev h6 h7 hf.i5) ?_
    refine ev_pos (by simp only [List.length_append, pb_len, hq, List.length_cons, List.length_nil]; omega) ?_
    refine Ev.congr (fun k => Option.bind_some _ _) ?_
    refine Ev.bind (refcheck_ev' (l := body x) (by omega) (bytes_body x)) ?_
    have hr := ckv_rng (body x) 0 0 (by decide) (by decide)
    have hck : ck (body x) = ckv 0 0 (body x) := rfl
    rw [two_at' (by omega) (by omega)]
    refine Ev.congr (fun k => Option.bind_some _ _) ?_
    refine ev_pos ?_ (Ev.now _)
    show (body x).length + (two (ck (body x))).length < 140737488355328
    simp only [two, List.length_cons, List.length_nil]
    omega
/-! ### which units may be -/
def Rng (x : S28) : Prop := 1 ≤ x.f0 ∧ 1 ≤ x.f1 ∧ x.f0 ≤ 8 ∧ x.f1 ≤ 8 ∧ x.f2.length ≤ 255
instance (x : S28) : Decidable (Rng x) := by unfold Rng; exact inferInstance
def wrong (p : S26) : Bool := (chk p.f0 p.f1 p.f2 p.f3).2
def mayv (x : S28) : Int := if Rng x then (if x.f2.all (fun p => decide (PIn p)) = true then (if wrong x.f3 = true then 80 else (if wrong x.f4 = true then 80 else (if wrong x.f5 = true then 80 else 0))) else 2) else 2
theorem within_at (a : Int) : point_within.f a = some (decide (-16 ≤ a ∧ a ≤ 16)) := by
  unfold point_within.f
  by_cases h : a ≥ -16
  · rw [if_pos h]; congr 1; exact dec_iff (by omega)
  · rw [if_neg h]; congr 1; rw [decide_eq_false (by omega)]
theorem in_at (a b : Int) : point_In.f a b = some (decide ((-16 ≤ a ∧ a ≤ 16) ∧ (-16 ≤ b ∧ b ≤ 16))) := by
  unfold point_In.f
  rw [within_at, Option.bind_some]
  by_cases h : -16 ≤ a ∧ a ≤ 16
  · rw [decide_eq_true h, if_pos rfl, within_at, Option.bind_some]; congr 1; exact dec_iff (by constructor; exact fun q => ⟨h, q⟩; exact fun q => q.2)
  · rw [decide_eq_false h, if_neg (by decide), decide_eq_false (fun q => h q.1)]
theorem l1_all (hh : Held x) : Ev (fun k => code_May.l1 k 0 x.f0 x.f1 x.f2 x.f3.f0 x.f3.f1 x.f3.f2 x.f3.f3 x.f4.f0 x.f4.f1 x.f4.f2 x.f4.f3 x.f5.f0 x.f5.f1 x.f5.f2 x.f5.f3) (if wrong x.f3 = true then 80 else (if wrong x.f4 = true then 80 else (if wrong x.f5 = true then 80 else 0))) := by
  have e3 : Ev (fun k => code_May.l1 k 3 x.f0 x.f1 x.f2 x.f3.f0 x.f3.f1 x.f3.f2 x.f3.f3 x.f4.f0 x.f4.f1 x.f4.f2 x.f4.f3 x.f5.f0 x.f5.f1 x.f5.f2 x.f5.f3) 0 := Ev.step (fun k => by simp only [code_May.l1]; rw [if_neg (by omega)]) (Ev.now _)
  have st (b : Bool) (y : Int) (f g : Nat → Option Int) (p : S26) (hp2 : p.f2.length ≤ 4611686018427387904) (hp3 : p.f3.length ≤ 4611686018427387904) (hg : Ev g y) :
      Ev (fun k => (prog_Check.f k p.f0 p.f1 p.f2 p.f3).bind fun bt => if bt.2 = 0 then g k else some bt.2) (if wrong p = true then 80 else y) := by
    refine Ev.bind (check_ev hp2 hp3) ?_
    unfold err wrong
    cases (chk p.f0 p.f1 p.f2 p.f3).2 with
    | true => exact ev_neg (by simp) (Ev.now _)
    | false => exact ev_pos rfl hg
  have e2 : Ev (fun k => code_May.l1 k 2 x.f0 x.f1 x.f2 x.f3.f0 x.f3.f1 x.f3.f2 x.f3.f3 x.f4.f0 x.f4.f1 x.f4.f2 x.f4.f3 x.f5.f0 x.f5.f1 x.f5.f2 x.f5.f3) (if wrong x.f5 = true then 80 else 0) := by
    refine Ev.step (fun k => ?_) (st true 0 (fun _ => none) _ x.f5 hh.c5 hh.o5 e3)
    simp only [code_May.l1]
    rw [if_pos (by omega), if_neg (by omega), if_neg (by omega), if_pos trivial]
    rfl
  have e1 : Ev (fun k => code_May.l1 k 1 x.f0 x.f1 x.f2 x.f3.f0 x.f3.f1 x.f3.f2 x.f3.f3 x.f4.f0 x.f4.f1 x.f4.f2 x.f4.f3 x.f5.f0 x.f5.f1 x.f5.f2 x.f5.f3) (if wrong x.f4 = true then 80 else (if wrong x.f5 = true then 80 else 0)) := by
    refine Ev.step (fun k => ?_) (st true _ (fun _ => none) _ x.f4 hh.c4 hh.o4 e2)
    simp only [code_May.l1]
    rw [if_pos (by omega), if_neg (by omega), if_pos trivial]
    rfl
  refine Ev.step (fun k => ?_) (st true _ (fun _ => none) _ x.f3 hh.c3 hh.o3 e1)
  simp only [code_May.l1]
  rw [if_pos (by omega), if_pos trivial]
  rfl
theorem ptloop {l : Nat → Int → Option Int} {v : Int} (hb : x.f2.length ≤ 4611686018427387904)
    (hstep : ∀ (k j : Nat) (h : j < x.f2.length), l (k + 1) (j : Int) = if decide (PIn x.f2[j]) = true then l k (wrap64 ((j : Int) + 1)) else some 2)
    (hend : Ev (fun k => l k (x.f2.length : Int)) v) : ∀ m j : Nat, j + m = x.f2.length → Ev (fun k => l k (j : Int)) (if (x.f2.drop j).all (fun p => decide (PIn p)) = true then v else 2) := by
  intro m
  induction m with
  | zero =>
    intro j hj
    obtain rfl : j = x.f2.length := by omega
    rw [List.drop_length]
    exact hend
  | succ m ih =>
    intro j hj
    have hlt : j < x.f2.length := by omega
    rw [List.drop_eq_getElem_cons hlt, List.all_cons]
    have i := ih (j + 1) (by omega)
    by_cases h : PIn x.f2[j]
    · rw [decide_eq_true h, Bool.true_and]
      refine Ev.step (fun k => ?_) i
      rw [hstep k j hlt, decide_eq_true h, if_pos rfl, wrapNext hlt hb]
    · rw [decide_eq_false h, Bool.false_and, if_neg (by decide)]
      refine Ev.step (fun k => ?_) (Ev.now _)
      rw [hstep k j hlt, decide_eq_false h, if_neg (by decide)]
theorem may_ev' (hh : Held x) : Ev (fun k => code_May.f k x.f0 x.f1 x.f2 x.f3.f0 x.f3.f1 x.f3.f2 x.f3.f3 x.f4.f0 x.f4.f1 x.f4.f2 x.f4.f3 x.f5.f0 x.f5.f1 x.f5.f2 x.f5.f3) (mayv x) := by
  have no : ¬ Rng x → Ev (fun k => code_May.j0 k true x.f0 x.f1 x.f2 x.f3.f0 x.f3.f1 x.f3.f2 x.f3.f3 x.f4.f0 x.f4.f1 x.f4.f2 x.f4.f3 x.f5.f0 x.f5.f1 x.f5.f2 x.f5.f3) (mayv x) := by
    intro h
    unfold mayv
    rw [if_neg h]
    exact Ev.step (fun k => by simp only [code_May.j0]; rw [if_pos trivial]) (Ev.now _)
  unfold code_May.f
  by_cases h1 : x.f0 < 1
  · exact ev_pos h1 (no (by unfold Rng; omega))
  refine ev_neg h1 ?_
  by_cases h2 : x.f1 < 1
  · exact ev_pos h2 (no (by unfold Rng; omega))
  refine ev_neg h2 ?_
  by_cases h3 : x.f0 > 8
  · exact ev_pos h3 (no (by unfold Rng; omega))
  refine ev_neg h3 ?_
  by_cases h4 : x.f1 > 8
  · exact ev_pos h4 (no (by unfold Rng; omega))
  refine ev_neg h4 ?_
  by_cases h5 : 255 < x.f2.length
  · rw [decide_eq_true h5]; exact no (by unfold Rng; omega)
  rw [decide_eq_false h5]
  unfold mayv
  rw [if_pos (show Rng x by unfold Rng; omega)]
  refine Ev.step (f := fun k => code_May.l0 k x.f2 (x.f2.length : Int) ((0 : Nat) : Int) x.f0 x.f1 x.f2 x.f3.f0 x.f3.f1 x.f3.f2 x.f3.f3 x.f4.f0 x.f4.f1 x.f4.f2 x.f4.f3 x.f5.f0 x.f5.f1 x.f5.f2 x.f5.f3) (fun k => by simp only [code_May.j0]; rw [if_neg (by decide)]; rfl) ?_
  refine ptloop (l := fun k i => code_May.l0 k x.f2 (x.f2.length : Int) i x.f0 x.f1 x.f2 x.f3.f0 x.f3.f1 x.f3.f2 x.f3.f3 x.f4.f0 x.f4.f1 x.f4.f2 x.f4.f3 x.f5.f0 x.f5.f1 x.f5.f2 x.f5.f3) hh.p (fun k j hj => ?_) ?_ x.f2.length 0 (by omega)
  · simp only [code_May.l0]
    rw [if_pos (by omega), if_pos (by omega), if_pos (by omega), rd48_at hj, in_at, Option.bind_some]
    rfl
  · refine Ev.step (fun k => ?_) (l1_all hh)
    simp only [code_May.l0]
    rw [if_neg (by omega)]
    rfl
theorem bad_none {regs : Int} : ∀ (l : List S63) (j : Nat), bad regs l j = none → ∀ i ∈ l, mayb regs i = true
  | [], _, _, i, hi => by cases hi
  | a :: l, j, h, i, hi => by
    unfold bad at h
    by_cases ha : mayb regs a = true
    · rw [if_pos ha] at h
      rcases List.mem_cons.1 hi with e | e
      · rw [e]; exact ha
      · exact bad_none l (j + 1) h i e
    · rw [if_neg ha] at h
      cases h
theorem not_wrong {p : S26} (h : wrong p = false) : Head p.f0 p.f1 p.f2 p.f3 ∧ outsOk p.f1 p.f3 = true ∧ ∀ i ∈ p.f2, mayb p.f1 i = true := by
  unfold wrong chk at h
  by_cases hH : Head p.f0 p.f1 p.f2 p.f3
  · rw [if_pos hH] at h
    by_cases hO : outsOk p.f1 p.f3 = true
    · rw [if_pos hO] at h
      refine ⟨hH, hO, ?_⟩
      unfold codeOf at h
      rw [List.drop_zero] at h
      cases hb : bad p.f1 p.f2 0 with
      | none => exact bad_none _ _ hb
      | some m => rw [hb] at h; cases h
    · rw [if_neg hO] at h; cases h
  · rw [if_neg hH] at h; cases h
theorem may_const {regs : Int} {i : S63} (h : mayb regs i = true) : -512 ≤ i.f4 ∧ i.f4 ≤ 512 := by
  have h := of_decide_eq_true h
  unfold MayP ConstP at h
  obtain ⟨_, _, _, _, _, h1, h2, h3⟩ := h
  by_cases e1 : i.f0 = 5 ∨ i.f0 = 6
  · have := h1 e1; omega
  by_cases e2 : i.f0 = 7 ∨ i.f0 = 8
  · have := h2 e2; omega
  have := h3 ⟨e1, e2⟩
  omega
theorem mayv_fine (h : mayv x = 0) : Rng x ∧ (∀ p ∈ x.f2, PIn p) ∧ wrong x.f3 = false ∧ wrong x.f4 = false ∧ wrong x.f5 = false := by
  unfold mayv at h
  by_cases hR : Rng x
  · rw [if_pos hR] at h
    by_cases hP : x.f2.all (fun p => decide (PIn p)) = true
    · rw [if_pos hP] at h
      refine ⟨hR, fun p hp => of_decide_eq_true (List.all_eq_true.1 hP p hp), ?_⟩
      cases h3 : wrong x.f3 <;> rw [h3] at h <;> cases h4 : wrong x.f4 <;> rw [h4] at h <;> cases h5 : wrong x.f5 <;> rw [h5] at h <;> first | exact ⟨rfl, rfl, rfl⟩ | (exact absurd h (by decide))
    · rw [if_neg hP] at h; exact absurd h (by decide)
  · rw [if_neg hR] at h; exact absurd h (by decide)
theorem fine_of (h : mayv x = 0) : Fine x := by
  obtain ⟨hR, hP, h3, h4, h5⟩ := mayv_fine h
  obtain ⟨H3, _, I3⟩ := not_wrong h3
  obtain ⟨H4, _, I4⟩ := not_wrong h4
  obtain ⟨H5, _, I5⟩ := not_wrong h5
  unfold Head at H3 H4 H5
  unfold Rng at hR
  exact ⟨⟨by omega, by omega, by omega, by omega, by omega, by omega, by omega⟩, hP, fun i hi => by have := may_const (I3 i hi); omega, fun i hi => by have := may_const (I4 i hi); omega, fun i hi => by have := may_const (I5 i hi); omega⟩
end
end Go.Proofs.Ytccbdcbeinkjgaa.PlainRef
end

section
namespace Go.Proofs.Ytccbdcbeinkjgaa.XA
open Go.Proofs.Ytccbdcbeinkjgaa.Lift Go.RowKit Go.Proofs.YtccbdcbeinkjgaaW.PrintWords Go.Proofs.YtccbdcbeinkjgaaW.PrintLast Go.Proofs.YtccbdcbeinkjgaaW.PrintMore
attribute [local go_sem] max2_int min2_int max_two min_two max_three min_three max_four min_four
set_option linter.unusedVariables false
set_option linter.unusedSimpArgs false

/-! ### bytes_HasPrefix: function 13 -/
def bytes_HasPrefix.f (l0 : List Int) (l1 : List Int) : Option (Bool) := if (l0.length : Int) ≥ (l1.length : Int) then (if 0 ≤ (l1.length : Int) then (if (l1.length : Int) ≤ (l0.length : Int) then ((bytes_Equal.f (l0.take ((l1.length : Int) : Int).toNat) l1).bind fun qA => (some qA)) else (none)) else (none)) else (some false)
end Go.Proofs.Ytccbdcbeinkjgaa.XA
end

section
namespace Go.Proofs.Ytccbdcbeinkjgaa.XA
open Go.Proofs.Ytccbdcbeinkjgaa.Lift Go.RowKit Go.Proofs.YtccbdcbeinkjgaaW.PrintWords Go.Proofs.YtccbdcbeinkjgaaW.PrintLast Go.Proofs.YtccbdcbeinkjgaaW.PrintMore
attribute [local go_sem] max2_int min2_int max_two min_two max_three min_three max_four min_four
set_option linter.unusedVariables false
set_option linter.unusedSimpArgs false

/-! ### swagelaw17_CodeBegins: function 3 -/
mutual
def swagelaw17_CodeBegins.j0 : Nat → Bool → Int → Int → List (S48) → Int → Int → List (S63) → List Int → Int → Int → List (S63) → List Int → Int → Int → List (S63) → List Int → Int → Int → List (S48) → Int → Int → List (S63) → List Int → Int → Int → List (S63) → List Int → Int → Int → List (S63) → List Int → Option (Bool)
 | 0, _, _, _, _, _, _, _, _, _, _, _, _, _, _, _, _, _, _, _, _, _, _, _, _, _, _, _, _, _, _, _ => none
 | k + 1, x16, qA, qB, qC, qD, qE, qF, qG, qH, qI, qJ, qK, qL, qM, qN, qO, qP, qQ, qR, qS, qT, qU, qV, qW, qX, qY, qZ, qa, qb, qc, qd => if x16 = true then (some true) else ((code_Encode.f k qA qB qC qD qE qF qG qH qI qJ qK qL qM qN qO).bind fun bt542 => ((code_Encode.f k qP qQ qR qS qT qU qV qW qX qY qZ qa qb qc qd).bind fun bt546 => (if bt542.2 = 0 then (swagelaw17_CodeBegins.j1 k bt542.1 bt546.1 (bt546.2 != 0) qA qB qC qD qE qF qG qH qI qJ qK qL qM qN qO qP qQ qR qS qT qU qV qW qX qY qZ qa qb qc qd) else (swagelaw17_CodeBegins.j1 k bt542.1 bt546.1 true qA qB qC qD qE qF qG qH qI qJ qK qL qM qN qO qP qQ qR qS qT qU qV qW qX qY qZ qa qb qc qd))))
def swagelaw17_CodeBegins.j1 : Nat → List Int → List Int → Bool → Int → Int → List (S48) → Int → Int → List (S63) → List Int → Int → Int → List (S63) → List Int → Int → Int → List (S63) → List Int → Int → Int → List (S48) → Int → Int → List (S63) → List Int → Int → Int → List (S63) → List Int → Int → Int → List (S63) → List Int → Option (Bool)
 | 0, _, _, _, _, _, _, _, _, _, _, _, _, _, _, _, _, _, _, _, _, _, _, _, _, _, _, _, _, _, _, _, _, _ => none
 | k + 1, x5, x7, x32, qA, qB, qC, qD, qE, qF, qG, qH, qI, qJ, qK, qL, qM, qN, qO, qP, qQ, qR, qS, qT, qU, qV, qW, qX, qY, qZ, qa, qb, qc, qd => if x32 = true then (some true) else ((bytes_HasPrefix.f x5 x7).bind fun q8 => ((code_Same.f k qA qB qC qD qE qF qG qH qI qJ qK qL qM qN qO qP qQ qR qS qT qU qV qW qX qY qZ qa qb qc qd).bind fun q9 => (if (q8 == q9) = true then ((bytes_HasPrefix.f x7 x5).bind fun jA => ((code_Same.f k qA qB qC qD qE qF qG qH qI qJ qK qL qM qN qO qP qQ qR qS qT qU qV qW qX qY qZ qa qb qc qd).bind fun jB => (some (jA == jB)))) else (some false))))
end
def swagelaw17_CodeBegins.f (k : Nat) (qo : Int) (qp : Int) (qq : List (S48)) (qr : Int) (qs : Int) (qt : List (S63)) (qu : List Int) (qv : Int) (qw : Int) (qx : List (S63)) (qe : List Int) (qf : Int) (qg : Int) (qh : List (S63)) (qi : List Int) (qy : Int) (qz : Int) (q0 : List (S48)) (q1 : Int) (q2 : Int) (q3 : List (S63)) (q4 : List Int) (q5 : Int) (q6 : Int) (q7 : List (S63)) (qj : List Int) (qk : Int) (ql : Int) (qm : List (S63)) (qn : List Int) : Option (Bool) := (swagelaw17_works.f k).bind fun jC => (if jC = true then ((swagelaw17_long.f qo qp qq qr qs qt qu qv qw qx qe qf qg qh qi).bind fun jD => (if jD = true then (swagelaw17_CodeBegins.j0 k true qo qp qq qr qs qt qu qv qw qx qe qf qg qh qi qy qz q0 q1 q2 q3 q4 q5 q6 q7 qj qk ql qm qn) else ((swagelaw17_long.f qy qz q0 q1 q2 q3 q4 q5 q6 q7 qj qk ql qm qn).bind fun jE => (swagelaw17_CodeBegins.j0 k jE qo qp qq qr qs qt qu qv qw qx qe qf qg qh qi qy qz q0 q1 q2 q3 q4 q5 q6 q7 qj qk ql qm qn)))) else (some false))
theorem swagelaw17_CodeBegins.mono_l : ∀ k, (∀ y0 y1 y2 y3 y4 y5 y6 y7 y8 y9 y10 y11 y12 y13 y14 y15 y16 y17 y18 y19 y20 y21 y22 y23 y24 y25 y26 y27 y28 y29 y30, LeO (swagelaw17_CodeBegins.j0 k y0 y1 y2 y3 y4 y5 y6 y7 y8 y9 y10 y11 y12 y13 y14 y15 y16 y17 y18 y19 y20 y21 y22 y23 y24 y25 y26 y27 y28 y29 y30) (swagelaw17_CodeBegins.j0 (k + 1) y0 y1 y2 y3 y4 y5 y6 y7 y8 y9 y10 y11 y12 y13 y14 y15 y16 y17 y18 y19 y20 y21 y22 y23 y24 y25 y26 y27 y28 y29 y30)) ∧ (∀ y0 y1 y2 y3 y4 y5 y6 y7 y8 y9 y10 y11 y12 y13 y14 y15 y16 y17 y18 y19 y20 y21 y22 y23 y24 y25 y26 y27 y28 y29 y30 y31 y32, LeO (swagelaw17_CodeBegins.j1 k y0 y1 y2 y3 y4 y5 y6 y7 y8 y9 y10 y11 y12 y13 y14 y15 y16 y17 y18 y19 y20 y21 y22 y23 y24 y25 y26 y27 y28 y29 y30 y31 y32) (swagelaw17_CodeBegins.j1 (k + 1) y0 y1 y2 y3 y4 y5 y6 y7 y8 y9 y10 y11 y12 y13 y14 y15 y16 y17 y18 y19 y20 y21 y22 y23 y24 y25 y26 y27 y28 y29 y30 y31 y32))
 | 0 => ⟨fun _ _ _ _ _ _ _ _ _ _ _ _ _ _ _ _ _ _ _ _ _ _ _ _ _ _ _ _ _ _ _ r h => by simp [swagelaw17_CodeBegins.j0] at h, fun _ _ _ _ _ _ _ _ _ _ _ _ _ _ _ _ _ _ _ _ _ _ _ _ _ _ _ _ _ _ _ _ _ r h => by simp [swagelaw17_CodeBegins.j1] at h⟩
 | k + 1 => by
  obtain ⟨ih0, ih1⟩ := swagelaw17_CodeBegins.mono_l k
  refine ⟨?_, ?_⟩
  ·intro y0 y1 y2 y3 y4 y5 y6 y7 y8 y9 y10 y11 y12 y13 y14 y15 y16 y17 y18 y19 y20 y21 y22 y23 y24 y25 y26 y27 y28 y29 y30
   unfold swagelaw17_CodeBegins.j0
   have im0 := @code_Encode.mono; have im1 := @code_Same.mono; have im2 := @swagelaw17_works.mono; exact zM
  ·intro y0 y1 y2 y3 y4 y5 y6 y7 y8 y9 y10 y11 y12 y13 y14 y15 y16 y17 y18 y19 y20 y21 y22 y23 y24 y25 y26 y27 y28 y29 y30 y31 y32
   unfold swagelaw17_CodeBegins.j1
   have im0 := @code_Encode.mono; have im1 := @code_Same.mono; have im2 := @swagelaw17_works.mono; exact zM
theorem swagelaw17_CodeBegins.mono : ∀ a0 a1 a2 a3 a4 a5 a6 a7 a8 a9 a10 a11 a12 a13 a14 a15 a16 a17 a18 a19 a20 a21 a22 a23 a24 a25 a26 a27 a28 a29 k, LeO (swagelaw17_CodeBegins.f k a0 a1 a2 a3 a4 a5 a6 a7 a8 a9 a10 a11 a12 a13 a14 a15 a16 a17 a18 a19 a20 a21 a22 a23 a24 a25 a26 a27 a28 a29) (swagelaw17_CodeBegins.f (k + 1) a0 a1 a2 a3 a4 a5 a6 a7 a8 a9 a10 a11 a12 a13 a14 a15 a16 a17 a18 a19 a20 a21 a22 a23 a24 a25 a26 a27 a28 a29) := by
 intro a0 a1 a2 a3 a4 a5 a6 a7 a8 a9 a10 a11 a12 a13 a14 a15 a16 a17 a18 a19 a20 a21 a22 a23 a24 a25 a26 a27 a28 a29 k
 obtain ⟨ih0, ih1⟩ := swagelaw17_CodeBegins.mono_l k
 unfold swagelaw17_CodeBegins.f
 have im0 := @code_Encode.mono; have im1 := @code_Same.mono; have im2 := @swagelaw17_works.mono; exact zM
end Go.Proofs.Ytccbdcbeinkjgaa.XA
end

section
namespace Go.Proofs.Ytccbdcbeinkjgaa.SaidCodeBegins
open Go.RowKit Go.Proofs.YtccbdcbeinkjgaaW.PrintWords Go.Proofs.YtccbdcbeinkjgaaW.PrintLast Go.Proofs.Ytccbdcbeinkjgaa.Opn Go.Proofs.Ytccbdcbeinkjgaa.XA
set_option linter.unusedVariables false
/-- What is known of whatever is read at this type. -/
def wfS48 (x : S48) : Prop := (Lit.int .i64 x.f0).wf = true ∧ (Lit.int .i64 x.f1).wf = true
theorem opnS48 : Opn Try.prog 48 k48 wfS48 := opn_iso (fun x : S48 => (x.f0, x.f1)) (fun p => ⟨p.1, p.2⟩) (fun _ => rfl) (opn_struct Try.underlying48 (by kernel_rfl) (fs_cons rfl (by kernel_rfl) (opn_int Try.underlying3) (fs_one rfl (by kernel_rfl) (opn_int Try.underlying3))))
/-- What is known of whatever is read at this type. -/
def wfS63 (x : S63) : Prop := (Lit.int .i64 x.f0).wf = true ∧ (Lit.int .i64 x.f1).wf = true ∧ (Lit.int .i64 x.f2).wf = true ∧ (Lit.int .i64 x.f3).wf = true ∧ (Lit.int .i64 x.f4).wf = true
theorem opnS63 : Opn Try.prog 63 k63 wfS63 := opn_iso (fun x : S63 => (x.f0, x.f1, x.f2, x.f3, x.f4)) (fun p => ⟨p.1, p.2.1, p.2.2.1, p.2.2.2.1, p.2.2.2.2⟩) (fun _ => rfl) (opn_struct Try.underlying63 (by kernel_rfl) (fs_cons rfl (by kernel_rfl) (opn_int Try.underlying3) (fs_cons rfl (by kernel_rfl) (opn_int Try.underlying3) (fs_cons rfl (by kernel_rfl) (opn_int Try.underlying3) (fs_cons rfl (by kernel_rfl) (opn_int Try.underlying3) (fs_one rfl (by kernel_rfl) (opn_int Try.underlying3)))))))
/-- What is known of whatever is read at this type. -/
def wfS26 (x : S26) : Prop := (Lit.int .i64 x.f0).wf = true ∧ (Lit.int .i64 x.f1).wf = true ∧ (x.f2.length * 40 ≤ 140737488351232 ∧ x.f2.length ≤ 9223372036854775807 ∧ ∀ y ∈ x.f2, wfS63 y) ∧ (x.f3.length * 8 ≤ 140737488351232 ∧ x.f3.length ≤ 9223372036854775807 ∧ ∀ y ∈ x.f3, (Lit.int .i64 y).wf = true)
theorem opnS26 : Opn Try.prog 26 k26 wfS26 := opn_iso (fun x : S26 => (x.f0, x.f1, x.f2, x.f3)) (fun p => ⟨p.1, p.2.1, p.2.2.1, p.2.2.2⟩) (fun _ => rfl) (opn_struct Try.underlying26 (by kernel_rfl) (fs_cons rfl (by kernel_rfl) (opn_int Try.underlying3) (fs_cons rfl (by kernel_rfl) (opn_int Try.underlying3) (fs_cons rfl (by kernel_rfl) (opn_slice (B := 40) Try.underlying23 (by kernel_rfl) (by kernel_rfl) (opnS63)) (fs_one rfl (by kernel_rfl) (opn_slice (B := 8) Try.underlying24 (by kernel_rfl) (by kernel_rfl) (opn_int Try.underlying3)))))))
/-- What is known of whatever is read at this type. -/
def wfS28 (x : S28) : Prop := (Lit.int .i64 x.f0).wf = true ∧ (Lit.int .i64 x.f1).wf = true ∧ (x.f2.length * 16 ≤ 140737488351232 ∧ x.f2.length ≤ 9223372036854775807 ∧ ∀ y ∈ x.f2, wfS48 y) ∧ wfS26 x.f3 ∧ wfS26 x.f4 ∧ wfS26 x.f5
theorem opnS28 : Opn Try.prog 28 k28 wfS28 := opn_iso (fun x : S28 => (x.f0, x.f1, x.f2, x.f3, x.f4, x.f5)) (fun p => ⟨p.1, p.2.1, p.2.2.1, p.2.2.2.1, p.2.2.2.2.1, p.2.2.2.2.2⟩) (fun _ => rfl) (opn_struct Try.underlying28 (by kernel_rfl) (fs_cons rfl (by kernel_rfl) (opn_int Try.underlying3) (fs_cons rfl (by kernel_rfl) (opn_int Try.underlying3) (fs_cons rfl (by kernel_rfl) (opn_slice (B := 16) Try.underlying22 (by kernel_rfl) (by kernel_rfl) (opnS48)) (fs_cons rfl (by kernel_rfl) (opnS26) (fs_cons rfl (by kernel_rfl) (opnS26) (fs_one rfl (by kernel_rfl) (opnS26))))))))
/-- THE PURE STATEMENT. -/
def Pure : Prop := ∀ (x0 : S28) (x1 : S28), wfS28 x0 → wfS28 x1 → ∃ k, swagelaw17_CodeBegins.f k x0.f0 x0.f1 x0.f2 x0.f3.f0 x0.f3.f1 x0.f3.f2 x0.f3.f3 x0.f4.f0 x0.f4.f1 x0.f4.f2 x0.f4.f3 x0.f5.f0 x0.f5.f1 x0.f5.f2 x0.f5.f3 x1.f0 x1.f1 x1.f2 x1.f3.f0 x1.f3.f1 x1.f3.f2 x1.f3.f3 x1.f4.f0 x1.f4.f1 x1.f4.f2 x1.f4.f3 x1.f5.f0 x1.f5.f1 x1.f5.f2 x1.f5.f3 = some true
end Go.Proofs.Ytccbdcbeinkjgaa.SaidCodeBegins
end

section
/- Unlike units have unlike bytes. -/
namespace Go.Proofs.Ytccbdcbeinkjgaa.PlainInj
open Go.RowKit Go.Proofs.YtccbdcbeinkjgaaW.PrintWords Go.Proofs.YtccbdcbeinkjgaaW.PrintLast Go.Proofs.YtccbdcbeinkjgaaW.PrintMore Go.Proofs.Ytccbdcbeinkjgaa.XA Go.Proofs.Ytccbdcbeinkjgaa.Evs Go.Proofs.Ytccbdcbeinkjgaa.PlainCode Go.Proofs.Ytccbdcbeinkjgaa.PlainChk Go.Proofs.Ytccbdcbeinkjgaa.PlainEnc Go.Proofs.Ytccbdcbeinkjgaa.PlainRef
set_option linter.unusedVariables false
set_option linter.unusedSimpArgs false
theorem flat_inj {α : Type} {g : α → List Int} {P : α → Prop} {d : Nat} (hd : ∀ x, (g x).length = d) (hg : ∀ a b, P a → P b → g a = g b → a = b) : ∀ (xs ys : List α) (r s : List Int), xs.length = ys.length → (∀ a ∈ xs, P a) → (∀ b ∈ ys, P b) → xs.flatMap g ++ r = ys.flatMap g ++ s → xs = ys ∧ r = s
  | [], [], r, s, _, _, _, h => ⟨rfl, h⟩
  | [], b :: ys, r, s, h, _, _, _ => by simp at h
  | a :: xs, [], r, s, h, _, _, _ => by simp at h
  | a :: xs, b :: ys, r, s, hl, ha, hb, h => by
    rw [List.flatMap_cons, List.flatMap_cons, List.append_assoc, List.append_assoc] at h
    obtain ⟨h1, h2⟩ := List.append_inj h (by rw [hd, hd])
    obtain ⟨e, er⟩ := flat_inj hd hg xs ys r s (by simpa using hl) (fun q hq => ha q (List.mem_cons_of_mem _ hq)) (fun q hq => hb q (List.mem_cons_of_mem _ hq)) h2
    exact ⟨by rw [hg a b (ha a List.mem_cons_self) (hb b List.mem_cons_self) h1, e], er⟩
def OkB (x : Int) : Prop := 0 ≤ x ∧ x < 256
def OkI (i : S63) : Prop := OkB i.f0 ∧ OkB i.f1 ∧ OkB i.f2 ∧ OkB i.f3 ∧ -512 ≤ i.f4 ∧ i.f4 ≤ 512
theorem ob_inj (a b : Int) (ha : OkB a) (hb : OkB b) (h : ob a = ob b) : a = b := by
  unfold ob at h
  unfold OkB at ha hb
  have := List.head_eq_of_cons_eq h
  omega
theorem qb_inj (a b : S48) (ha : PIn a) (hb : PIn b) (h : qb a = qb b) : a = b := by
  unfold qb at h
  unfold PIn at ha hb
  simp only [List.cons.injEq, and_true] at h
  cases a with | mk a0 a1 => cases b with | mk b0 b1 =>
  simp only [S48.mk.injEq]
  simp only at ha hb h
  omega
theorem ib_inj (a b : S63) (ha : OkI a) (hb : OkI b) (h : ib a = ib b) : a = b := by
  unfold ib two at h
  unfold OkI OkB at ha hb
  simp only [List.cons_append, List.nil_append, List.cons.injEq, and_true] at h
  cases a with | mk a0 a1 a2 a3 a4 => cases b with | mk b0 b1 b2 b3 b4 =>
  simp only [S63.mk.injEq]
  simp only at ha hb h
  omega
/-- A program that may be. -/
structure OkP (p : S26) : Prop where
  a : OkB p.f0
  b : OkB p.f1
  c : p.f2.length ≤ 16384
  d : p.f3.length ≤ 128
  i : ∀ i ∈ p.f2, OkI i
  o : ∀ x ∈ p.f3, OkB x
theorem pb_inj {p q : S26} (hp : OkP p) (hq : OkP q) {r s : List Int} (h : pb p.f0 p.f1 p.f2 p.f3 ++ r = pb q.f0 q.f1 q.f2 q.f3 ++ s) : (p.f0 = q.f0 ∧ p.f1 = q.f1 ∧ p.f2 = q.f2 ∧ p.f3 = q.f3) ∧ r = s := by
  have pa := hp.a; have pb' := hp.b; have pc := hp.c; have pd := hp.d
  have qa := hq.a; have qb' := hq.b; have qc := hq.c; have qd := hq.d
  unfold OkB at pa pb' qa qb'
  unfold pb two at h
  simp only [List.cons_append, List.nil_append, List.append_assoc, List.cons.injEq] at h
  obtain ⟨h0, h1, h2, h3, h⟩ := h
  obtain ⟨e2, h⟩ := flat_inj (g := ib) (P := OkI) (d := 6) (fun _ => rfl) ib_inj _ _ _ _ (by omega) hp.i hq.i h
  simp only [List.cons.injEq] at h
  obtain ⟨h4, h⟩ := h
  obtain ⟨e3, h⟩ := flat_inj (g := ob) (P := OkB) (d := 1) (fun _ => rfl) ob_inj _ _ _ _ (by omega) hp.o hq.o h
  exact ⟨⟨by omega, by omega, e2, e3⟩, h⟩
theorem okp_of {p : S26} (h : wrong p = false) : OkP p := by
  obtain ⟨hH, hO, hI⟩ := not_wrong h
  unfold Head at hH
  unfold outsOk at hO
  refine ⟨by unfold OkB; omega, by unfold OkB; omega, by omega, by omega, fun i hi => ?_, fun y hy => ?_⟩
  · have hc := may_const (hI i hi)
    have hm := of_decide_eq_true (hI i hi)
    unfold MayP at hm
    obtain ⟨m0, m1, m2, m3, m4, _⟩ := hm
    have hb : OkB i.f3 := by
      unfold OkB
      by_cases e : i.f0 = 3 ∨ i.f0 = 4
      · have := m3 e; omega
      · have := m4 e; omega
    exact ⟨by unfold OkB; omega, by unfold OkB; omega, by unfold OkB; omega, hb, hc.1, hc.2⟩
  · have := of_decide_eq_true (List.all_eq_true.1 hO y hy)
    unfold OkB
    omega
theorem told_inj {x y : S28} (hx : mayv x = 0) (hy : mayv y = 0) {r : List Int} (h : told x = told y ++ r) : usame x y = true := by
  obtain ⟨xR, xP, x3, x4, x5⟩ := mayv_fine hx
  obtain ⟨yR, yP, y3, y4, y5⟩ := mayv_fine hy
  unfold Rng at xR yR
  unfold told body at h
  simp only [List.cons_append, List.nil_append, List.append_assoc, List.cons.injEq, true_and] at h
  obtain ⟨h0, h1, h2, h⟩ := h
  obtain ⟨e2, h⟩ := flat_inj (g := qb) (P := PIn) (d := 2) (fun _ => rfl) qb_inj _ _ _ _ (by omega) xP yP h
  obtain ⟨⟨a0, a1, a2, a3⟩, h⟩ := pb_inj (okp_of x3) (okp_of y3) h
  obtain ⟨⟨b0, b1, b2, b3⟩, h⟩ := pb_inj (okp_of x4) (okp_of y4) h
  obtain ⟨⟨c0, c1, c2, c3⟩, h⟩ := pb_inj (okp_of x5) (okp_of y5) h
  unfold usame psame
  simp only [Bool.and_eq_true, decide_eq_true_eq]
  exact ⟨by omega, by omega, e2, ⟨a0, a1, a2, a3⟩, ⟨b0, b1, b2, b3⟩, c0, c1, c2, c3⟩
theorem told_same {x y : S28} (h : usame x y = true) : told x = told y := by
  unfold usame psame at h
  simp only [Bool.and_eq_true, decide_eq_true_eq] at h
  obtain ⟨h0, h1, h2, ⟨a0, a1, a2, a3⟩, ⟨b0, b1, b2, b3⟩, c0, c1, c2, c3⟩ := h
  unfold told body
  rw [h0, h1, h2, a0, a1, a2, a3, b0, b1, b2, b3, c0, c1, c2, c3]
theorem bytes_told (x : S28) : Bytes (told x) := bytes_app (bytes_body x) (bytes_two _)
end Go.Proofs.Ytccbdcbeinkjgaa.PlainInj
end

section
namespace Go.Proofs.Ytccbdcbeinkjgaa.SaidCodeBack
open Go.RowKit Go.Proofs.YtccbdcbeinkjgaaW.PrintWords Go.Proofs.YtccbdcbeinkjgaaW.PrintLast Go.Proofs.Ytccbdcbeinkjgaa.Opn Go.Proofs.Ytccbdcbeinkjgaa.XA
set_option linter.unusedVariables false
/-- What is known of whatever is read at this type. -/
def wfS48 (x : S48) : Prop := (Lit.int .i64 x.f0).wf = true ∧ (Lit.int .i64 x.f1).wf = true
theorem opnS48 : Opn Try.prog 48 k48 wfS48 := opn_iso (fun x : S48 => (x.f0, x.f1)) (fun p => ⟨p.1, p.2⟩) (fun _ => rfl) (opn_struct Try.underlying48 (by kernel_rfl) (fs_cons rfl (by kernel_rfl) (opn_int Try.underlying3) (fs_one rfl (by kernel_rfl) (opn_int Try.underlying3))))
/-- What is known of whatever is read at this type. -/
def wfS63 (x : S63) : Prop := (Lit.int .i64 x.f0).wf = true ∧ (Lit.int .i64 x.f1).wf = true ∧ (Lit.int .i64 x.f2).wf = true ∧ (Lit.int .i64 x.f3).wf = true ∧ (Lit.int .i64 x.f4).wf = true
theorem opnS63 : Opn Try.prog 63 k63 wfS63 := opn_iso (fun x : S63 => (x.f0, x.f1, x.f2, x.f3, x.f4)) (fun p => ⟨p.1, p.2.1, p.2.2.1, p.2.2.2.1, p.2.2.2.2⟩) (fun _ => rfl) (opn_struct Try.underlying63 (by kernel_rfl) (fs_cons rfl (by kernel_rfl) (opn_int Try.underlying3) (fs_cons rfl (by kernel_rfl) (opn_int Try.underlying3) (fs_cons rfl (by kernel_rfl) (opn_int Try.underlying3) (fs_cons rfl (by kernel_rfl) (opn_int Try.underlying3) (fs_one rfl (by kernel_rfl) (opn_int Try.underlying3)))))))
/-- What is known of whatever is read at this type. -/
def wfS26 (x : S26) : Prop := (Lit.int .i64 x.f0).wf = true ∧ (Lit.int .i64 x.f1).wf = true ∧ (x.f2.length * 40 ≤ 140737488351232 ∧ x.f2.length ≤ 9223372036854775807 ∧ ∀ y ∈ x.f2, wfS63 y) ∧ (x.f3.length * 8 ≤ 140737488351232 ∧ x.f3.length ≤ 9223372036854775807 ∧ ∀ y ∈ x.f3, (Lit.int .i64 y).wf = true)
theorem opnS26 : Opn Try.prog 26 k26 wfS26 := opn_iso (fun x : S26 => (x.f0, x.f1, x.f2, x.f3)) (fun p => ⟨p.1, p.2.1, p.2.2.1, p.2.2.2⟩) (fun _ => rfl) (opn_struct Try.underlying26 (by kernel_rfl) (fs_cons rfl (by kernel_rfl) (opn_int Try.underlying3) (fs_cons rfl (by kernel_rfl) (opn_int Try.underlying3) (fs_cons rfl (by kernel_rfl) (opn_slice (B := 40) Try.underlying23 (by kernel_rfl) (by kernel_rfl) (opnS63)) (fs_one rfl (by kernel_rfl) (opn_slice (B := 8) Try.underlying24 (by kernel_rfl) (by kernel_rfl) (opn_int Try.underlying3)))))))
/-- What is known of whatever is read at this type. -/
def wfS28 (x : S28) : Prop := (Lit.int .i64 x.f0).wf = true ∧ (Lit.int .i64 x.f1).wf = true ∧ (x.f2.length * 16 ≤ 140737488351232 ∧ x.f2.length ≤ 9223372036854775807 ∧ ∀ y ∈ x.f2, wfS48 y) ∧ wfS26 x.f3 ∧ wfS26 x.f4 ∧ wfS26 x.f5
theorem opnS28 : Opn Try.prog 28 k28 wfS28 := opn_iso (fun x : S28 => (x.f0, x.f1, x.f2, x.f3, x.f4, x.f5)) (fun p => ⟨p.1, p.2.1, p.2.2.1, p.2.2.2.1, p.2.2.2.2.1, p.2.2.2.2.2⟩) (fun _ => rfl) (opn_struct Try.underlying28 (by kernel_rfl) (fs_cons rfl (by kernel_rfl) (opn_int Try.underlying3) (fs_cons rfl (by kernel_rfl) (opn_int Try.underlying3) (fs_cons rfl (by kernel_rfl) (opn_slice (B := 16) Try.underlying22 (by kernel_rfl) (by kernel_rfl) (opnS48)) (fs_cons rfl (by kernel_rfl) (opnS26) (fs_cons rfl (by kernel_rfl) (opnS26) (fs_one rfl (by kernel_rfl) (opnS26))))))))
/-- THE PURE STATEMENT. -/
def Pure : Prop := ∀ (x0 : S28) (x1 : List Int), wfS28 x0 → (x1.length * 1 ≤ 140737488351232 ∧ x1.length ≤ 9223372036854775807 ∧ ∀ y ∈ x1, (Lit.int .u8 y).wf = true) → ∃ k, swagelaw17_CodeBack.f k x0.f0 x0.f1 x0.f2 x0.f3.f0 x0.f3.f1 x0.f3.f2 x0.f3.f3 x0.f4.f0 x0.f4.f1 x0.f4.f2 x0.f4.f3 x0.f5.f0 x0.f5.f1 x0.f5.f2 x0.f5.f3 x1 = some true
end Go.Proofs.Ytccbdcbeinkjgaa.SaidCodeBack
end
