/- Part 21 of the proof of the law CodeDecodes for every input: words, walks and plain laws. No condition. -/
import Derived.DataReads
import Derived.ChangeArms
import Derived.SizedLaws
import Derived.WideShapes
import Derived.ChangeSlices
import Derived.Laws.Strings
import Derived.Test.YtccbdcbeinkjgaaKCodeDecodes20
set_option linter.unusedVariables false
set_option linter.unusedSimpArgs false
set_option maxHeartbeats 8000000
set_option maxRecDepth 100000
section
namespace Go.Proofs.Ytccbdcbeinkjgaa.Opn
open Go.ChangeShapes Go.WideShapes Go.Proofs.YtccbdcbeinkjgaaW.PrintWords
structure Opn {α : Type} (P : Program) (t : TypeId) (d : Kd α) (wf : α → Prop) : Prop where
  get : ∀ {H : Type} {enc : TypeId × Value → H} {w : World} {base : Nat} {spare : Nat → Bool} {held : Bool} {fuel : Nat} {cs : List Value} {x : DataW H × List MemPlace},
    DataW.trod enc P w base spare held fuel t cs = some x → (∀ n ∈ DataW.weights P t x.1, n ≤ reachBytes) → ∃ a : α, d.K w a cs ∧ wf a
section
variable {P : Program} {t : TypeId}
theorem opn_int {k : IntKind} (ht : P.underlying t = some (.int k)) : Opn P t (Kd.int k) (fun n => (Lit.int k n).wf = true) :=
  ⟨fun h _ => by
    obtain ⟨n, rfl, rfl, hw⟩ := DataW.trod_int ht h
    exact ⟨n, rfl, hw⟩⟩
theorem choose_list {α : Type} {Q : Nat → α → Prop} : ∀ n : Nat, (∀ i, i < n → ∃ x, Q i x) → ∃ xs : List α, xs.length = n ∧ ∀ i x, xs[i]? = some x → Q i x := by
  intro n h
  induction n with
  | zero => exact ⟨[], rfl, fun i x hx => by simp at hx⟩
  | succ n ih =>
    obtain ⟨xs, hl, hq⟩ := ih (fun i hi => h i (by omega))
    obtain ⟨y, hy⟩ := h n (by omega)
    refine ⟨xs ++ [y], by simp [hl], fun i x hx => ?_⟩
    by_cases hi : i < n
    · rw [List.getElem?_append_left (by omega)] at hx
      exact hq i x hx
    · rw [List.getElem?_append_right (by omega)] at hx
      have : i = n := by
        have := (List.getElem?_eq_some_iff.1 hx).1
        simp at this
        omega
      subst this
      rw [hl, Nat.sub_self] at hx
      simp at hx
      subst hx
      exact hy
theorem opn_slice {α : Type} {e : TypeId} {d : Kd α} {wf : α → Prop} {B : Nat} (ht : P.underlying t = some (.slice e)) (hC : P.cellsOf e = d.sz) (hB : P.bytesOf e = B) (ho : Opn P e d wf) :
    Opn P t (Kd.slice e d) (fun xs => xs.length * B ≤ 140737488351232 ∧ xs.length ≤ 9223372036854775807 ∧ ∀ x ∈ xs, wf x) :=
  ⟨fun {H enc w base spare held fuel cs x} h hz => by
    rcases DataW.trod_slice ht h with ⟨rfl, rfl⟩ | ⟨a, len, cap, elems, rest, n, rfl, rfl, rfl, hb, hl, hm, hlen, hel, _, _⟩
    · refine ⟨[], ⟨none, 0, rfl, by simp, Kd.C_nil d w⟩, by simp⟩
    · have hw : ∀ n ∈ DataW.weightsAll P e (elems.map (·.1)), n ≤ reachBytes := fun n hn => hz n (by simp only [DataW.weights, ht]; exact List.mem_cons_of_mem _ (List.mem_append_left _ hn))
      have hwi : ∀ (i : Nat) (y : DataW H × List MemPlace), elems[i]? = some y → ∀ n ∈ DataW.weights P e y.1, n ≤ reachBytes := by
        have : ∀ (l : List (DataW H)) (d : DataW H), d ∈ l → ∀ n ∈ DataW.weights P e d, n ∈ DataW.weightsAll P e l := by
          intro l
          induction l with
          | nil => intro d hd; simp at hd
          | cons z l ih =>
            intro d hd n hn
            simp only [DataW.weightsAll, List.mem_append]
            rcases List.mem_cons.1 hd with rfl | hd
            · exact Or.inl hn
            · exact Or.inr (ih d hd n hn)
        intro i y hy n hn
        exact hw n (this _ y.1 (List.mem_map.2 ⟨y, List.mem_of_getElem? hy, rfl⟩) n hn)
      have hx : ∀ i, i < len → ∃ x : α, (∃ c, c.length = d.sz ∧ d.K w x c ∧ ∀ j u, c[j]? = some u → w.cell? (a.add (i * d.sz + j)) = some u) ∧ wf x := by
        intro i hi
        have h1 := hel i hi
        rw [List.getElem?_eq_getElem (by omega)] at h1
        obtain ⟨c, hc, hd⟩ := Option.bind_eq_some_iff.1 h1
        obtain ⟨x, hK, hwf⟩ := ho.get hd (hwi i _ (List.getElem?_eq_getElem (by omega)))
        obtain ⟨_, hcl, hcell⟩ := World.cells?_some hc
        refine ⟨x, ⟨c, by rw [hcl, hC], hK, fun j u hj => ?_⟩, hwf⟩
        have hj' : j < P.cellsOf e := by rw [← hcl]; exact (List.getElem?_eq_some_iff.1 hj).1
        rw [← hC, ← add_add, hcell j hj', hj]
      obtain ⟨xs, hxl, hq⟩ := choose_list len hx
      refine ⟨xs, ⟨some a, cap, by rw [hxl], by omega, ?_⟩, ?_, by unfold maxLen at hm; omega, fun x hx => ?_⟩
      · refine ⟨rfl, by unfold maxLen at hm; omega, fun _ => ⟨a, rfl, fun j p hj => ?_⟩⟩
        exact (hq j p hj).1
      · have := hz ((elems.map (·.1)).length + (rest.map (·.1)).length |> (· * P.bytesOf e)) (by simp only [DataW.weights, ht]; exact List.mem_cons_self)
        simp only [List.length_map, hB] at this
        rw [hxl, ← hlen]
        exact Nat.le_trans (Nat.mul_le_mul_right _ (Nat.le_add_right _ _)) this
      · obtain ⟨i, hi⟩ := List.mem_iff_getElem?.1 hx
        exact (hq i x hi).2⟩
structure OpnFs {α : Type} (P : Program) (fs : List Field) (off : Nat) (d : Kd α) (wf : α → Prop) : Prop where
  get : ∀ {H : Type} {enc : TypeId × Value → H} {w : World} {base : Nat} {spare : Nat → Bool} {held : Bool} {fuel : Nat} {cs : List Value} {xs : List (DataW H × List MemPlace)},
    cs.length = off + d.sz → xs.length = fs.length →
    (∀ (i : Nat) (f : Field), fs[i]? = some f → DataW.trod enc P w base spare held fuel f.type ((cs.drop f.offset).take (P.cellsOf f.type)) = xs[i]?) →
    (∀ n ∈ DataW.weightsEach P (fs.map (·.type)) (xs.map (·.1)), n ≤ reachBytes) → ∃ a : α, d.K w a (cs.drop off) ∧ wf a
end
section
variable {H : Type} {enc : TypeId × Value → H} {P : Program} {w : World} {base : Nat} {spare : Nat → Bool} {held : Bool} {t : TypeId}
theorem opened {α : Type} {d : Kd α} {wf : α → Prop} (ho : Opn P t d wf) {v : Value} {dd : DataW H} {ps : List MemPlace} {ts : List TypeId} {ds : List (DataW H)} {j : Nat}
    (hsz : (DataW.weightsEach P ts ds).all (· ≤ reachBytes) = true) (ht : ts[j]? = some t) (hd : ds[j]? = some dd) (h : DataW.Trod enc P w base spare held t v dd ps) : ∃ a : α, d.K w a v.cells.toList ∧ wf a := by
  obtain ⟨fuel, hf⟩ := h
  exact ho.get hf (fun n hn => by simpa using List.all_eq_true.1 hsz n (DataW.weights_mem_each ht hd n hn))
theorem trod_lt {v : Value} {d : DataW H} {ps : List MemPlace} (h : DataW.Trod enc P w base spare held t v d ps) : ∀ x ∈ ps, x.block < w.heap.size := by
  obtain ⟨m, hm⟩ := h
  exact DataW.trod_lt m _ _ _ hm
end
end Go.Proofs.Ytccbdcbeinkjgaa.Opn
end
section
namespace Go.Proofs.Ytccbdcbeinkjgaa.SaidCodeDecodes
open Go.RowKit Go.Proofs.YtccbdcbeinkjgaaW.PrintWords Go.Proofs.YtccbdcbeinkjgaaW.PrintLast Go.Proofs.Ytccbdcbeinkjgaa.Opn Go.Proofs.Ytccbdcbeinkjgaa.XA
def Pure : Prop := ∀ (x0 : List Int), (x0.length * 1 ≤ 140737488351232 ∧ x0.length ≤ 9223372036854775807 ∧ ∀ y ∈ x0, (Lit.int .u8 y).wf = true) → ∃ k, sL_CodeDecodes.f k x0 = some true
end Go.Proofs.Ytccbdcbeinkjgaa.SaidCodeDecodes
end
section
namespace Go.Proofs.Ytccbdcbeinkjgaa.XA
open Go.Proofs.Ytccbdcbeinkjgaa.Lift Go.RowKit Go.Proofs.YtccbdcbeinkjgaaW.PrintWords Go.Proofs.YtccbdcbeinkjgaaW.PrintLast Go.Proofs.YtccbdcbeinkjgaaW.PrintMore
attribute [local go_sem] max2_int min2_int max_two min_two max_three min_three max_four min_four
def sL_copied.f (qF : Int) (qG : Int) (qH : List (S48)) (qI : Int) (qJ : Int) (qK : List (S63)) (qL : List Int) (qM : Int) (qN : Int) (qO : List (S63)) (qA : List Int) (qB : Int) (qC : Int) (qD : List (S63)) (qE : List Int) : Option (Int × Int × (List (S48)) × Int × Int × (List (S63)) × List Int × Int × Int × (List (S63)) × List Int × Int × Int × (List (S63)) × List Int) := (api_Point_36.f qH).bind fun qP => ((sP_Copy.f qI qJ qK qL).bind fun bt580 => ((sP_Copy.f qM qN qO qA).bind fun bt588 => ((sP_Copy.f qB qC qD qE).bind fun bt596 => (some (qF, qG, qP, bt580.1, bt580.2.1, bt580.2.2.1, bt580.2.2.2, bt588.1, bt588.2.1, bt588.2.2.1, bt588.2.2.2, bt596.1, bt596.2.1, bt596.2.2.1, bt596.2.2.2)))))
def swageref06_In.f (qA : Int) (qB : Int) : Option (Bool) := if qA ≥ (-16) then (if qA ≤ 16 then (if qB ≥ (-16) then (some (decide (qB ≤ 16))) else (some false)) else (some false)) else (some false)
end Go.Proofs.Ytccbdcbeinkjgaa.XA
end
section
namespace Go.Proofs.Ytccbdcbeinkjgaa.XA
open Go.Proofs.Ytccbdcbeinkjgaa.Lift Go.RowKit Go.Proofs.YtccbdcbeinkjgaaW.PrintWords Go.Proofs.YtccbdcbeinkjgaaW.PrintLast Go.Proofs.YtccbdcbeinkjgaaW.PrintMore
attribute [local go_sem] max2_int min2_int max_two min_two max_three min_three max_four min_four
mutual
def sP_May.j0 : Nat → Int → Bool → Int → Int → Int → Int → Int → Option (Bool)
 | 0, _, _, _, _, _, _, _ => none
 | k + 1, x1, x34, qB, qD, qE, qC, qA => if x34 = true then (some false) else (if qB = 3 then (sP_May.j1 k x1 true qB qD qE qC qA) else (sP_May.j1 k x1 (qB == 4) qB qD qE qC qA))
def sP_May.j1 : Nat → Int → Bool → Int → Int → Int → Int → Int → Option (Bool)
 | 0, _, _, _, _, _, _, _ => none
 | k + 1, x1, x42, qB, qD, qE, qC, qA => if x42 = true then (if qC ≥ 0 then (if qC < x1 then (some (qA == 0)) else (some false)) else (some false)) else (if qC = 0 then (if qB = 5 then (sP_May.j2 k true qB qD qE qC qA) else (sP_May.j2 k (qB == 6) qB qD qE qC qA)) else (some false))
def sP_May.j2 : Nat → Bool → Int → Int → Int → Int → Int → Option (Bool)
 | 0, _, _, _, _, _, _ => none
 | k + 1, x67, qB, qD, qE, qC, qA => if x67 = true then (if qA = 0 then (some false) else (if qA ≥ (-512) then (some (decide (qA ≤ 512))) else (some false))) else (if qB = 7 then (if qA ≥ 1 then (some (decide (qA ≤ 64))) else (some false)) else (if qB = 8 then (if qA ≥ 1 then (some (decide (qA ≤ 64))) else (some false)) else (some (qA == 0))))
end
def sP_May.f (k : Nat) (qF : Int) (qG : Int) (qH : Int) (qI : Int) (qJ : Int) (a1 : Int) : Option (Bool) := if qF < 1 then (sP_May.j0 k a1 true qF qG qH qI qJ) else (if qF > 8 then (sP_May.j0 k a1 true qF qG qH qI qJ) else (if qG < 0 then (sP_May.j0 k a1 true qF qG qH qI qJ) else (if qG ≥ a1 then (sP_May.j0 k a1 true qF qG qH qI qJ) else (if qH < 0 then (sP_May.j0 k a1 true qF qG qH qI qJ) else (sP_May.j0 k a1 (decide (qH ≥ a1)) qF qG qH qI qJ)))))
theorem sP_May.mono_l : ∀ k, (∀ y0 y1 y2 y3 y4 y5 y6, LeO (sP_May.j0 k y0 y1 y2 y3 y4 y5 y6) (sP_May.j0 (k + 1) y0 y1 y2 y3 y4 y5 y6)) ∧ (∀ y0 y1 y2 y3 y4 y5 y6, LeO (sP_May.j1 k y0 y1 y2 y3 y4 y5 y6) (sP_May.j1 (k + 1) y0 y1 y2 y3 y4 y5 y6)) ∧ (∀ y0 y1 y2 y3 y4 y5, LeO (sP_May.j2 k y0 y1 y2 y3 y4 y5) (sP_May.j2 (k + 1) y0 y1 y2 y3 y4 y5))
 | 0 => ⟨fun _ _ _ _ _ _ _ r h => by simp [sP_May.j0] at h, fun _ _ _ _ _ _ _ r h => by simp [sP_May.j1] at h, fun _ _ _ _ _ _ r h => by simp [sP_May.j2] at h⟩
 | k + 1 => by
  obtain ⟨ih0, ih1, ih2⟩ := sP_May.mono_l k
  refine ⟨?_, ?_, ?_⟩
  ·intro y0 y1 y2 y3 y4 y5 y6
   unfold sP_May.j0
   exact zM
  ·intro y0 y1 y2 y3 y4 y5 y6
   unfold sP_May.j1
   exact zM
  ·intro y0 y1 y2 y3 y4 y5
   unfold sP_May.j2
   exact zM
theorem sP_May.mono : ∀ a0 a1 a2 a3 a4 a5 k, LeO (sP_May.f k a0 a1 a2 a3 a4 a5) (sP_May.f (k + 1) a0 a1 a2 a3 a4 a5) := by
 intro a0 a1 a2 a3 a4 a5 k
 obtain ⟨ih0, ih1, ih2⟩ := sP_May.mono_l k
 unfold sP_May.f
 exact zM
end Go.Proofs.Ytccbdcbeinkjgaa.XA
end
section
namespace Go.Proofs.Ytccbdcbeinkjgaa.XA
open Go.Proofs.Ytccbdcbeinkjgaa.Lift Go.RowKit Go.Proofs.YtccbdcbeinkjgaaW.PrintWords Go.Proofs.YtccbdcbeinkjgaaW.PrintLast Go.Proofs.YtccbdcbeinkjgaaW.PrintMore
attribute [local go_sem] max2_int min2_int max_two min_two max_three min_three max_four min_four
mutual
def sP_Check.j0 : Nat → Bool → Int → Int → List (S63) → List Int → Option (Int × Bool)
 | 0, _, _, _, _, _ => none
 | k + 1, x38, qD, qC, qA, qB => if x38 = true then (some ((-1), true)) else (sP_Check.l0 k 0 qD qC qA qB)
def sP_Check.l0 : Nat → Int → Int → Int → List (S63) → List Int → Option (Int × Bool)
 | 0, _, _, _, _, _ => none
 | k + 1, x4, qD, qC, qA, qB => if x4 < (qB.length : Int) then (if 0 ≤ x4 then (if (rd qB x4) < 0 then (some ((-1), true)) else (if (rd qB x4) ≥ qC then (some ((-1), true)) else (sP_Check.l0 k (wrap64 (x4 + 1)) qD qC qA qB))) else (none)) else (sP_Check.l1 k 0 qD qC qA qB)
def sP_Check.l1 : Nat → Int → Int → Int → List (S63) → List Int → Option (Int × Bool)
 | 0, _, _, _, _, _ => none
 | k + 1, x5, qD, qC, qA, qB => if x5 < (qA.length : Int) then (if 0 ≤ x5 then ((sP_May.f k ((rd_T63 qA x5).f0) ((rd_T63 qA x5).f1) ((rd_T63 qA x5).f2) ((rd_T63 qA x5).f3) ((rd_T63 qA x5).f4) qC).bind fun qI => (if qI = true then (sP_Check.l1 k (wrap64 (x5 + 1)) qD qC qA qB) else (some (x5, true)))) else (none)) else (some (0, false))
end
def sP_Check.f (k : Nat) (qE : Int) (qF : Int) (qH : List (S63)) (qG : List Int) : Option (Int × Bool) := if qE < 1 then (sP_Check.j0 k true qE qF qH qG) else (if qE > qF then (sP_Check.j0 k true qE qF qH qG) else (if qF > 128 then (sP_Check.j0 k true qE qF qH qG) else (if (qH.length : Int) > 16384 then (sP_Check.j0 k true qE qF qH qG) else (if (qG.length : Int) < 1 then (sP_Check.j0 k true qE qF qH qG) else (sP_Check.j0 k (decide (128 < qG.length)) qE qF qH qG)))))
theorem sP_Check.mono_l : ∀ k, (∀ y0 y1 y2 y3 y4, LeO (sP_Check.j0 k y0 y1 y2 y3 y4) (sP_Check.j0 (k + 1) y0 y1 y2 y3 y4)) ∧ (∀ y0 y1 y2 y3 y4, LeO (sP_Check.l0 k y0 y1 y2 y3 y4) (sP_Check.l0 (k + 1) y0 y1 y2 y3 y4)) ∧ (∀ y0 y1 y2 y3 y4, LeO (sP_Check.l1 k y0 y1 y2 y3 y4) (sP_Check.l1 (k + 1) y0 y1 y2 y3 y4))
 | 0 => ⟨fun _ _ _ _ _ r h => by simp [sP_Check.j0] at h, fun _ _ _ _ _ r h => by simp [sP_Check.l0] at h, fun _ _ _ _ _ r h => by simp [sP_Check.l1] at h⟩
 | k + 1 => by
  obtain ⟨ih0, ih1, ih2⟩ := sP_Check.mono_l k
  refine ⟨?_, ?_, ?_⟩
  ·intro y0 y1 y2 y3 y4
   unfold sP_Check.j0
   have im0 := @sP_May.mono; exact zM
  ·intro y0 y1 y2 y3 y4
   unfold sP_Check.l0
   have im0 := @sP_May.mono; exact zM
  ·intro y0 y1 y2 y3 y4
   unfold sP_Check.l1
   have im0 := @sP_May.mono; exact zM
theorem sP_Check.mono : ∀ a0 a1 a2 a3 k, LeO (sP_Check.f k a0 a1 a2 a3) (sP_Check.f (k + 1) a0 a1 a2 a3) := by
 intro a0 a1 a2 a3 k
 obtain ⟨ih0, ih1, ih2⟩ := sP_Check.mono_l k
 unfold sP_Check.f
 have im0 := @sP_May.mono; exact zM
end Go.Proofs.Ytccbdcbeinkjgaa.XA
end
section
namespace Go.Proofs.Ytccbdcbeinkjgaa.XA
open Go.Proofs.Ytccbdcbeinkjgaa.Lift Go.RowKit Go.Proofs.YtccbdcbeinkjgaaW.PrintWords Go.Proofs.YtccbdcbeinkjgaaW.PrintLast Go.Proofs.YtccbdcbeinkjgaaW.PrintMore
attribute [local go_sem] max2_int min2_int max_two min_two max_three min_three max_four min_four
def sP_Right.f (k : Nat) (qA : Int) (qB : Int) (qC : List (S63)) (qD : List Int) : Option (Bool) := (sP_Check.f k qA qB qC qD).bind fun bt834 => (some (!bt834.2))
theorem sP_Right.mono : ∀ a0 a1 a2 a3 k, LeO (sP_Right.f k a0 a1 a2 a3) (sP_Right.f (k + 1) a0 a1 a2 a3) := by
 intro a0 a1 a2 a3 k
 unfold sP_Right.f
 have im0 := @sP_Check.mono; exact zM
end Go.Proofs.Ytccbdcbeinkjgaa.XA
end
section
namespace Go.Proofs.Ytccbdcbeinkjgaa.XA
open Go.Proofs.Ytccbdcbeinkjgaa.Lift Go.RowKit Go.Proofs.YtccbdcbeinkjgaaW.PrintWords Go.Proofs.YtccbdcbeinkjgaaW.PrintLast Go.Proofs.YtccbdcbeinkjgaaW.PrintMore
attribute [local go_sem] max2_int min2_int max_two min_two max_three min_three max_four min_four
mutual
def sR_May.j0 : Nat → Bool → Int → Int → List (S48) → Int → Int → List (S63) → List Int → Int → Int → List (S63) → List Int → Int → Int → List (S63) → List Int → Option (Int)
 | 0, _, _, _, _, _, _, _, _, _, _, _, _, _, _, _, _ => none
 | k + 1, x27, qU, qV, qA, qB, qC, qD, qE, qF, qG, qH, qI, qJ, qK, qL, qM => if x27 = true then (some 2) else (sR_May.l0 k 0 qU qV qA qB qC qD qE qF qG qH qI qJ qK qL qM)
def sR_May.l0 : Nat → Int → Int → Int → List (S48) → Int → Int → List (S63) → List Int → Int → Int → List (S63) → List Int → Int → Int → List (S63) → List Int → Option (Int)
 | 0, _, _, _, _, _, _, _, _, _, _, _, _, _, _, _, _ => none
 | k + 1, x3, qU, qV, qA, qB, qC, qD, qE, qF, qG, qH, qI, qJ, qK, qL, qM => if x3 < (qA.length : Int) then (if 0 ≤ x3 then ((swageref06_In.f ((rd_T48 qA x3).f0) ((rd_T48 qA x3).f1)).bind fun qe => (if qe = true then (sR_May.l0 k (wrap64 (x3 + 1)) qU qV qA qB qC qD qE qF qG qH qI qJ qK qL qM) else (some 2))) else (none)) else ((sP_Right.f k qB qC qD qE).bind fun qf => (if qf = true then ((sP_Right.f k qF qG qH qI).bind fun qg => (if qg = true then ((sP_Right.f k qJ qK qL qM).bind fun qh => (if qh = true then (some 0) else (some 80))) else (some 80))) else (some 80)))
end
def sR_May.f (k : Nat) (qN : Int) (qO : Int) (qW : List (S48)) (qX : Int) (qY : Int) (qZ : List (S63)) (qa : List Int) (qb : Int) (qc : Int) (qd : List (S63)) (qP : List Int) (qQ : Int) (qR : Int) (qS : List (S63)) (qT : List Int) : Option (Int) := if qN < 1 then (sR_May.j0 k true qN qO qW qX qY qZ qa qb qc qd qP qQ qR qS qT) else (if qO < 1 then (sR_May.j0 k true qN qO qW qX qY qZ qa qb qc qd qP qQ qR qS qT) else (if qN > 8 then (sR_May.j0 k true qN qO qW qX qY qZ qa qb qc qd qP qQ qR qS qT) else (if qO > 8 then (sR_May.j0 k true qN qO qW qX qY qZ qa qb qc qd qP qQ qR qS qT) else (sR_May.j0 k (decide (255 < qW.length)) qN qO qW qX qY qZ qa qb qc qd qP qQ qR qS qT))))
theorem sR_May.mono_l : ∀ k, (∀ y0 y1 y2 y3 y4 y5 y6 y7 y8 y9 y10 y11 y12 y13 y14 y15, LeO (sR_May.j0 k y0 y1 y2 y3 y4 y5 y6 y7 y8 y9 y10 y11 y12 y13 y14 y15) (sR_May.j0 (k + 1) y0 y1 y2 y3 y4 y5 y6 y7 y8 y9 y10 y11 y12 y13 y14 y15)) ∧ (∀ y0 y1 y2 y3 y4 y5 y6 y7 y8 y9 y10 y11 y12 y13 y14 y15, LeO (sR_May.l0 k y0 y1 y2 y3 y4 y5 y6 y7 y8 y9 y10 y11 y12 y13 y14 y15) (sR_May.l0 (k + 1) y0 y1 y2 y3 y4 y5 y6 y7 y8 y9 y10 y11 y12 y13 y14 y15))
 | 0 => ⟨fun _ _ _ _ _ _ _ _ _ _ _ _ _ _ _ _ r h => by simp [sR_May.j0] at h, fun _ _ _ _ _ _ _ _ _ _ _ _ _ _ _ _ r h => by simp [sR_May.l0] at h⟩
 | k + 1 => by
  obtain ⟨ih0, ih1⟩ := sR_May.mono_l k
  refine ⟨?_, ?_⟩
  ·intro y0 y1 y2 y3 y4 y5 y6 y7 y8 y9 y10 y11 y12 y13 y14 y15
   unfold sR_May.j0
   have im0 := @sP_Right.mono; exact zM
  ·intro y0 y1 y2 y3 y4 y5 y6 y7 y8 y9 y10 y11 y12 y13 y14 y15
   unfold sR_May.l0
   have im0 := @sP_Right.mono; exact zM
theorem sR_May.mono : ∀ a0 a1 a2 a3 a4 a5 a6 a7 a8 a9 a10 a11 a12 a13 a14 k, LeO (sR_May.f k a0 a1 a2 a3 a4 a5 a6 a7 a8 a9 a10 a11 a12 a13 a14) (sR_May.f (k + 1) a0 a1 a2 a3 a4 a5 a6 a7 a8 a9 a10 a11 a12 a13 a14) := by
 intro a0 a1 a2 a3 a4 a5 a6 a7 a8 a9 a10 a11 a12 a13 a14 k
 obtain ⟨ih0, ih1⟩ := sR_May.mono_l k
 unfold sR_May.f
 have im0 := @sP_Right.mono; exact zM
end Go.Proofs.Ytccbdcbeinkjgaa.XA
end
section
namespace Go.Proofs.Ytccbdcbeinkjgaa.XA
open Go.Proofs.Ytccbdcbeinkjgaa.Lift Go.RowKit Go.Proofs.YtccbdcbeinkjgaaW.PrintWords Go.Proofs.YtccbdcbeinkjgaaW.PrintLast Go.Proofs.YtccbdcbeinkjgaaW.PrintMore
attribute [local go_sem] max2_int min2_int max_two min_two max_three min_three max_four min_four
mutual
def sR_program.l0 : Nat → List Int → Int → Int → Int → List (S63) → List Int → Option (List Int)
 | 0, _, _, _, _, _, _ => none
 | k + 1, x3, x4, qC, qD, qA, qB => if x4 < (qA.length : Int) then (if 0 ≤ x4 then ((some (([((rd_T63 qA x4).f0) % 256, ((rd_T63 qA x4).f1) % 256, ((rd_T63 qA x4).f2) % 256, ((rd_T63 qA x4).f3) % 256] : List Int) : List Int)).bind fun y857 => (if x3.length + y857.length < 140737488355328 then ((some (x3 ++ y857 : List Int)).bind fun y860 => ((sR_two.f ((rd_T63 qA x4).f4)).bind fun qE => (if y860.length + qE.length < 140737488355328 then (sR_program.l0 k (y860 ++ qE) (wrap64 (x4 + 1)) qC qD qA qB) else (none)))) else (none))) else (none)) else (if x3.length < 140737488355328 then (sR_program.l1 k (x3 ++ [((qB.length : Int)) % 256]) 0 qC qD qA qB) else (none))
def sR_program.l1 : Nat → List Int → Int → Int → Int → List (S63) → List Int → Option (List Int)
 | 0, _, _, _, _, _, _ => none
 | k + 1, x3, x6, qC, qD, qA, qB => if x6 < (qB.length : Int) then (if 0 ≤ x6 then (if x3.length < 140737488355328 then (sR_program.l1 k (x3 ++ [(rd qB x6) % 256]) (wrap64 (x6 + 1)) qC qD qA qB) else (none)) else (none)) else (some x3)
end
def sR_program.f (k : Nat) (qF : Int) (qG : Int) (qH : List (S63)) (qJ : List Int) : Option (List Int) := (some (([(qF) % 256, (qG) % 256] : List Int) : List Int)).bind fun y846 => ((sR_two.f (qH.length : Int)).bind fun qI => (if y846.length + qI.length < 140737488355328 then (sR_program.l0 k (y846 ++ qI) 0 qF qG qH qJ) else (none)))
theorem sR_program.mono_l : ∀ k, (∀ y0 y1 y2 y3 y4 y5, LeO (sR_program.l0 k y0 y1 y2 y3 y4 y5) (sR_program.l0 (k + 1) y0 y1 y2 y3 y4 y5)) ∧ (∀ y0 y1 y2 y3 y4 y5, LeO (sR_program.l1 k y0 y1 y2 y3 y4 y5) (sR_program.l1 (k + 1) y0 y1 y2 y3 y4 y5))
 | 0 => ⟨fun _ _ _ _ _ _ r h => by simp [sR_program.l0] at h, fun _ _ _ _ _ _ r h => by simp [sR_program.l1] at h⟩
 | k + 1 => by
  obtain ⟨ih0, ih1⟩ := sR_program.mono_l k
  refine ⟨?_, ?_⟩
  ·intro y0 y1 y2 y3 y4 y5
   unfold sR_program.l0
   exact zM
  ·intro y0 y1 y2 y3 y4 y5
   unfold sR_program.l1
   exact zM
theorem sR_program.mono : ∀ a0 a1 a2 a3 k, LeO (sR_program.f k a0 a1 a2 a3) (sR_program.f (k + 1) a0 a1 a2 a3) := by
 intro a0 a1 a2 a3 k
 obtain ⟨ih0, ih1⟩ := sR_program.mono_l k
 unfold sR_program.f
 exact zM
end Go.Proofs.Ytccbdcbeinkjgaa.XA
end
section
namespace Go.Proofs.Ytccbdcbeinkjgaa.XA
open Go.Proofs.Ytccbdcbeinkjgaa.Lift Go.RowKit Go.Proofs.YtccbdcbeinkjgaaW.PrintWords Go.Proofs.YtccbdcbeinkjgaaW.PrintLast Go.Proofs.YtccbdcbeinkjgaaW.PrintMore
attribute [local go_sem] max2_int min2_int max_two min_two max_three min_three max_four min_four
def sR_Encode.l0 : Nat → List Int → Int → Int → Int → List (S48) → Int → Int → List (S63) → List Int → Int → Int → List (S63) → List Int → Int → Int → List (S63) → List Int → Option (List Int)
 | 0, _, _, _, _, _, _, _, _, _, _, _, _, _, _, _, _, _ => none
 | k + 1, x3, x4, qN, qO, qA, qB, qC, qD, qE, qF, qG, qH, qI, qJ, qK, qL, qM => if x4 < (qA.length : Int) then (if 0 ≤ x4 then ((some (([(Int.tmod (wrap64 (((rd_T48 qA x4).f0) + 256)) 256) % 256, (Int.tmod (wrap64 (((rd_T48 qA x4).f1) + 256)) 256) % 256] : List Int) : List Int)).bind fun y883 => (if x3.length + y883.length < 140737488355328 then (sR_Encode.l0 k (x3 ++ y883) (wrap64 (x4 + 1)) qN qO qA qB qC qD qE qF qG qH qI qJ qK qL qM) else (none))) else (none)) else ((sR_program.f k qB qC qD qE).bind fun qP => (if x3.length + qP.length < 140737488355328 then ((some (x3 ++ qP : List Int)).bind fun y892 => ((sR_program.f k qF qG qH qI).bind fun qQ => (if y892.length + qQ.length < 140737488355328 then ((some (y892 ++ qQ : List Int)).bind fun y898 => ((sR_program.f k qJ qK qL qM).bind fun qR => (if y898.length + qR.length < 140737488355328 then ((some (y898 ++ qR : List Int)).bind fun y904 => ((sR_check.f k y904).bind fun qb => ((sR_two.f qb).bind fun qS => (if y904.length + qS.length < 140737488355328 then (some (y904 ++ qS)) else (none))))) else (none)))) else (none)))) else (none)))
def sR_Encode.f (k : Nat) (qT : Int) (qU : Int) (qV : List (S48)) (qc : Int) (qd : Int) (qe : List (S63)) (qf : List Int) (qg : Int) (qh : Int) (qi : List (S63)) (qW : List Int) (qX : Int) (qY : Int) (qZ : List (S63)) (qa : List Int) : Option (List Int) := sR_Encode.l0 k (([65, 78, 86, 49, (qT) % 256, (qU) % 256, ((qV.length : Int)) % 256] : List Int)) 0 qT qU qV qc qd qe qf qg qh qi qW qX qY qZ qa
theorem sR_Encode.mono_l : ∀ k, (∀ y0 y1 y2 y3 y4 y5 y6 y7 y8 y9 y10 y11 y12 y13 y14 y15 y16, LeO (sR_Encode.l0 k y0 y1 y2 y3 y4 y5 y6 y7 y8 y9 y10 y11 y12 y13 y14 y15 y16) (sR_Encode.l0 (k + 1) y0 y1 y2 y3 y4 y5 y6 y7 y8 y9 y10 y11 y12 y13 y14 y15 y16))
 | 0 => fun _ _ _ _ _ _ _ _ _ _ _ _ _ _ _ _ _ r h => by simp [sR_Encode.l0] at h
 | k + 1 => by
  have ih0 := sR_Encode.mono_l k
  ·intro y0 y1 y2 y3 y4 y5 y6 y7 y8 y9 y10 y11 y12 y13 y14 y15 y16
   unfold sR_Encode.l0
   have im0 := @sR_check.mono; have im1 := @sR_program.mono; exact zM
theorem sR_Encode.mono : ∀ a0 a1 a2 a3 a4 a5 a6 a7 a8 a9 a10 a11 a12 a13 a14 k, LeO (sR_Encode.f k a0 a1 a2 a3 a4 a5 a6 a7 a8 a9 a10 a11 a12 a13 a14) (sR_Encode.f (k + 1) a0 a1 a2 a3 a4 a5 a6 a7 a8 a9 a10 a11 a12 a13 a14) := by
 intro a0 a1 a2 a3 a4 a5 a6 a7 a8 a9 a10 a11 a12 a13 a14 k
 have ih0 := sR_Encode.mono_l k
 unfold sR_Encode.f
 have im0 := @sR_check.mono; have im1 := @sR_program.mono; exact zM
def sL_CodeEncodes.j0 : Nat → List Int → Int → Bool → Int → Int → List (S48) → Int → Int → List (S63) → List Int → Int → Int → List (S63) → List Int → Int → Int → List (S63) → List Int → Option (Bool)
 | 0, _, _, _, _, _, _, _, _, _, _, _, _, _, _, _, _, _, _ => none
 | k + 1, x4, x6, x34, qQ, qR, qS, qT, qU, qV, qW, qX, qY, qZ, qa, qb, qc, qd, qe => if x34 = true then (some false) else (if x6 = 0 then ((sR_Encode.f k qQ qR qS qT qU qV qW qX qY qZ qa qb qc qd qe).bind fun qf => ((slices_Equal_byte_byte.f k x4 qf).bind fun qg => (some qg))) else (some ((x4.length : Int) == 0)))
def sL_CodeEncodes.f (k : Nat) (qF : Int) (qG : Int) (qH : List (S48)) (qI : Int) (qJ : Int) (qK : List (S63)) (qL : List Int) (qM : Int) (qN : Int) (qO : List (S63)) (qA : List Int) (qB : Int) (qC : Int) (qD : List (S63)) (qE : List Int) : Option (Bool) := (sL_works.f k).bind fun qh => (if qh = true then ((sL_long.f qF qG qH qI qJ qK qL qM qN qO qA qB qC qD qE).bind fun qi => (if qi = true then (some true) else ((sL_copied.f qF qG qH qI qJ qK qL qM qN qO qA qB qC qD qE).bind fun bt917 => ((code_Encode.f k bt917.1 bt917.2.1 bt917.2.2.1 bt917.2.2.2.1 bt917.2.2.2.2.1 bt917.2.2.2.2.2.1 bt917.2.2.2.2.2.2.1 bt917.2.2.2.2.2.2.2.1 bt917.2.2.2.2.2.2.2.2.1 bt917.2.2.2.2.2.2.2.2.2.1 bt917.2.2.2.2.2.2.2.2.2.2.1 bt917.2.2.2.2.2.2.2.2.2.2.2.1 bt917.2.2.2.2.2.2.2.2.2.2.2.2.1 bt917.2.2.2.2.2.2.2.2.2.2.2.2.2.1 bt917.2.2.2.2.2.2.2.2.2.2.2.2.2.2).bind fun bt947 => ((sR_May.f k qF qG qH qI qJ qK qL qM qN qO qA qB qC qD qE).bind fun qP => (if bt947.2 = qP then ((code_May.f k bt917.1 bt917.2.1 bt917.2.2.1 bt917.2.2.2.1 bt917.2.2.2.2.1 bt917.2.2.2.2.2.1 bt917.2.2.2.2.2.2.1 bt917.2.2.2.2.2.2.2.1 bt917.2.2.2.2.2.2.2.2.1 bt917.2.2.2.2.2.2.2.2.2.1 bt917.2.2.2.2.2.2.2.2.2.2.1 bt917.2.2.2.2.2.2.2.2.2.2.2.1 bt917.2.2.2.2.2.2.2.2.2.2.2.2.1 bt917.2.2.2.2.2.2.2.2.2.2.2.2.2.1 bt917.2.2.2.2.2.2.2.2.2.2.2.2.2.2).bind fun qj => (if qj = qP then ((sL_same.f k bt917.1 bt917.2.1 bt917.2.2.1 bt917.2.2.2.1 bt917.2.2.2.2.1 bt917.2.2.2.2.2.1 bt917.2.2.2.2.2.2.1 bt917.2.2.2.2.2.2.2.1 bt917.2.2.2.2.2.2.2.2.1 bt917.2.2.2.2.2.2.2.2.2.1 bt917.2.2.2.2.2.2.2.2.2.2.1 bt917.2.2.2.2.2.2.2.2.2.2.2.1 bt917.2.2.2.2.2.2.2.2.2.2.2.2.1 bt917.2.2.2.2.2.2.2.2.2.2.2.2.2.1 bt917.2.2.2.2.2.2.2.2.2.2.2.2.2.2 qF qG qH qI qJ qK qL qM qN qO qA qB qC qD qE).bind fun qk => (sL_CodeEncodes.j0 k bt947.1 qP (!qk) qF qG qH qI qJ qK qL qM qN qO qA qB qC qD qE)) else (sL_CodeEncodes.j0 k bt947.1 qP true qF qG qH qI qJ qK qL qM qN qO qA qB qC qD qE))) else (sL_CodeEncodes.j0 k bt947.1 qP true qF qG qH qI qJ qK qL qM qN qO qA qB qC qD qE))))))) else (some false))
theorem sL_CodeEncodes.mono_l : ∀ k, (∀ y0 y1 y2 y3 y4 y5 y6 y7 y8 y9 y10 y11 y12 y13 y14 y15 y16 y17, LeO (sL_CodeEncodes.j0 k y0 y1 y2 y3 y4 y5 y6 y7 y8 y9 y10 y11 y12 y13 y14 y15 y16 y17) (sL_CodeEncodes.j0 (k + 1) y0 y1 y2 y3 y4 y5 y6 y7 y8 y9 y10 y11 y12 y13 y14 y15 y16 y17))
 | 0 => fun _ _ _ _ _ _ _ _ _ _ _ _ _ _ _ _ _ _ r h => by simp [sL_CodeEncodes.j0] at h
 | k + 1 => by
  have ih0 := sL_CodeEncodes.mono_l k
  ·intro y0 y1 y2 y3 y4 y5 y6 y7 y8 y9 y10 y11 y12 y13 y14 y15 y16 y17
   unfold sL_CodeEncodes.j0
   have im0 := @code_Encode.mono; have im1 := @code_May.mono; have im2 := @slices_Equal_byte_byte.mono; have im3 := @sL_same.mono; have im4 := @sL_works.mono; have im5 := @sR_Encode.mono; have im6 := @sR_May.mono; exact zM
theorem sL_CodeEncodes.mono : ∀ a0 a1 a2 a3 a4 a5 a6 a7 a8 a9 a10 a11 a12 a13 a14 k, LeO (sL_CodeEncodes.f k a0 a1 a2 a3 a4 a5 a6 a7 a8 a9 a10 a11 a12 a13 a14) (sL_CodeEncodes.f (k + 1) a0 a1 a2 a3 a4 a5 a6 a7 a8 a9 a10 a11 a12 a13 a14) := by
 intro a0 a1 a2 a3 a4 a5 a6 a7 a8 a9 a10 a11 a12 a13 a14 k
 have ih0 := sL_CodeEncodes.mono_l k
 unfold sL_CodeEncodes.f
 have im0 := @code_Encode.mono; have im1 := @code_May.mono; have im2 := @slices_Equal_byte_byte.mono; have im3 := @sL_same.mono; have im4 := @sL_works.mono; have im5 := @sR_Encode.mono; have im6 := @sR_May.mono; exact zM
end Go.Proofs.Ytccbdcbeinkjgaa.XA
end
section
namespace Go.Proofs.Ytccbdcbeinkjgaa.SaidCodeEncodes
open Go.RowKit Go.Proofs.YtccbdcbeinkjgaaW.PrintWords Go.Proofs.YtccbdcbeinkjgaaW.PrintLast Go.Proofs.Ytccbdcbeinkjgaa.Opn Go.Proofs.Ytccbdcbeinkjgaa.XA
def wfS48 (x : S48) : Prop := (Lit.int .i64 x.f0).wf = true ∧ (Lit.int .i64 x.f1).wf = true
def wfS63 (x : S63) : Prop := (Lit.int .i64 x.f0).wf = true ∧ (Lit.int .i64 x.f1).wf = true ∧ (Lit.int .i64 x.f2).wf = true ∧ (Lit.int .i64 x.f3).wf = true ∧ (Lit.int .i64 x.f4).wf = true
def wfS26 (x : S26) : Prop := (Lit.int .i64 x.f0).wf = true ∧ (Lit.int .i64 x.f1).wf = true ∧ (x.f2.length * 40 ≤ 140737488351232 ∧ x.f2.length ≤ 9223372036854775807 ∧ ∀ y ∈ x.f2, wfS63 y) ∧ (x.f3.length * 8 ≤ 140737488351232 ∧ x.f3.length ≤ 9223372036854775807 ∧ ∀ y ∈ x.f3, (Lit.int .i64 y).wf = true)
def wfS28 (x : S28) : Prop := (Lit.int .i64 x.f0).wf = true ∧ (Lit.int .i64 x.f1).wf = true ∧ (x.f2.length * 16 ≤ 140737488351232 ∧ x.f2.length ≤ 9223372036854775807 ∧ ∀ y ∈ x.f2, wfS48 y) ∧ wfS26 x.f3 ∧ wfS26 x.f4 ∧ wfS26 x.f5
def Pure : Prop := ∀ (x0 : S28), wfS28 x0 → ∃ k, sL_CodeEncodes.f k x0.f0 x0.f1 x0.f2 x0.f3.f0 x0.f3.f1 x0.f3.f2 x0.f3.f3 x0.f4.f0 x0.f4.f1 x0.f4.f2 x0.f4.f3 x0.f5.f0 x0.f5.f1 x0.f5.f2 x0.f5.f3 = some true
end Go.Proofs.Ytccbdcbeinkjgaa.SaidCodeEncodes
end
section
namespace Go.Proofs.Ytccbdcbeinkjgaa.Evs
open Go.Proofs.YtccbdcbeinkjgaaW.PrintWords
section
variable {β : Type} {c : Prop} [Decidable c] {f g : Nat → Option β} {r : β}
theorem ev_pos (hc : c) (h : Ev f r) : Ev (fun n => if c then f n else g n) r := Ev.congr (fun _ => if_pos hc) h
theorem ev_neg (hc : ¬ c) (h : Ev g r) : Ev (fun n => if c then f n else g n) r := Ev.congr (fun _ => if_neg hc) h
end
end Go.Proofs.Ytccbdcbeinkjgaa.Evs
end
section
namespace Go.Proofs.Ytccbdcbeinkjgaa.XA
open Go.Proofs.Ytccbdcbeinkjgaa.Lift Go.RowKit Go.Proofs.YtccbdcbeinkjgaaW.PrintWords Go.Proofs.YtccbdcbeinkjgaaW.PrintLast Go.Proofs.YtccbdcbeinkjgaaW.PrintMore
attribute [local go_sem] max2_int min2_int max_two min_two max_three min_three max_four min_four
def sL_CodeSames.j0 : Nat → Bool → Int → Int → List (S48) → Int → Int → List (S63) → List Int → Int → Int → List (S63) → List Int → Int → Int → List (S63) → List Int → Int → Int → List (S48) → Int → Int → List (S63) → List Int → Int → Int → List (S63) → List Int → Int → Int → List (S63) → List Int → Option (Bool)
 | 0, _, _, _, _, _, _, _, _, _, _, _, _, _, _, _, _, _, _, _, _, _, _, _, _, _, _, _, _, _, _, _ => none
 | k + 1, x12, qA, qB, qC, qD, qE, qF, qG, qH, qI, qJ, qK, qL, qM, qN, qO, qP, qQ, qR, qS, qT, qU, qV, qW, qX, qY, qZ, qa, qb, qc, qd => if x12 = true then (some true) else ((code_Same.f k qA qB qC qD qE qF qG qH qI qJ qK qL qM qN qO qP qQ qR qS qT qU qV qW qX qY qZ qa qb qc qd).bind fun q8 => ((sR_Same.f k qA qB qC qD qE qF qG qH qI qJ qK qL qM qN qO qP qQ qR qS qT qU qV qW qX qY qZ qa qb qc qd).bind fun q9 => (if (q8 == q9) = true then ((code_Same.f k qP qQ qR qS qT qU qV qW qX qY qZ qa qb qc qd qA qB qC qD qE qF qG qH qI qJ qK qL qM qN qO).bind fun jA => ((sR_Same.f k qA qB qC qD qE qF qG qH qI qJ qK qL qM qN qO qP qQ qR qS qT qU qV qW qX qY qZ qa qb qc qd).bind fun jB => (if (jA == jB) = true then ((sL_copied.f qA qB qC qD qE qF qG qH qI qJ qK qL qM qN qO).bind fun bt1225 => ((code_Same.f k qA qB qC qD qE qF qG qH qI qJ qK qL qM qN qO bt1225.1 bt1225.2.1 bt1225.2.2.1 bt1225.2.2.2.1 bt1225.2.2.2.2.1 bt1225.2.2.2.2.2.1 bt1225.2.2.2.2.2.2.1 bt1225.2.2.2.2.2.2.2.1 bt1225.2.2.2.2.2.2.2.2.1 bt1225.2.2.2.2.2.2.2.2.2.1 bt1225.2.2.2.2.2.2.2.2.2.2.1 bt1225.2.2.2.2.2.2.2.2.2.2.2.1 bt1225.2.2.2.2.2.2.2.2.2.2.2.2.1 bt1225.2.2.2.2.2.2.2.2.2.2.2.2.2.1 bt1225.2.2.2.2.2.2.2.2.2.2.2.2.2.2).bind fun jC => (some jC))) else (some false)))) else (some false))))
def sL_CodeSames.f (k : Nat) (qo : Int) (qp : Int) (qq : List (S48)) (qr : Int) (qs : Int) (qt : List (S63)) (qu : List Int) (qv : Int) (qw : Int) (qx : List (S63)) (qe : List Int) (qf : Int) (qg : Int) (qh : List (S63)) (qi : List Int) (qy : Int) (qz : Int) (q0 : List (S48)) (q1 : Int) (q2 : Int) (q3 : List (S63)) (q4 : List Int) (q5 : Int) (q6 : Int) (q7 : List (S63)) (qj : List Int) (qk : Int) (ql : Int) (qm : List (S63)) (qn : List Int) : Option (Bool) := (sL_works.f k).bind fun jD => (if jD = true then ((sL_long.f qo qp qq qr qs qt qu qv qw qx qe qf qg qh qi).bind fun jE => (if jE = true then (sL_CodeSames.j0 k true qo qp qq qr qs qt qu qv qw qx qe qf qg qh qi qy qz q0 q1 q2 q3 q4 q5 q6 q7 qj qk ql qm qn) else ((sL_long.f qy qz q0 q1 q2 q3 q4 q5 q6 q7 qj qk ql qm qn).bind fun jF => (sL_CodeSames.j0 k jF qo qp qq qr qs qt qu qv qw qx qe qf qg qh qi qy qz q0 q1 q2 q3 q4 q5 q6 q7 qj qk ql qm qn)))) else (some false))
theorem sL_CodeSames.mono_l : ∀ k, (∀ y0 y1 y2 y3 y4 y5 y6 y7 y8 y9 y10 y11 y12 y13 y14 y15 y16 y17 y18 y19 y20 y21 y22 y23 y24 y25 y26 y27 y28 y29 y30, LeO (sL_CodeSames.j0 k y0 y1 y2 y3 y4 y5 y6 y7 y8 y9 y10 y11 y12 y13 y14 y15 y16 y17 y18 y19 y20 y21 y22 y23 y24 y25 y26 y27 y28 y29 y30) (sL_CodeSames.j0 (k + 1) y0 y1 y2 y3 y4 y5 y6 y7 y8 y9 y10 y11 y12 y13 y14 y15 y16 y17 y18 y19 y20 y21 y22 y23 y24 y25 y26 y27 y28 y29 y30))
 | 0 => fun _ _ _ _ _ _ _ _ _ _ _ _ _ _ _ _ _ _ _ _ _ _ _ _ _ _ _ _ _ _ _ r h => by simp [sL_CodeSames.j0] at h
 | k + 1 => by
  have ih0 := sL_CodeSames.mono_l k
  ·intro y0 y1 y2 y3 y4 y5 y6 y7 y8 y9 y10 y11 y12 y13 y14 y15 y16 y17 y18 y19 y20 y21 y22 y23 y24 y25 y26 y27 y28 y29 y30
   unfold sL_CodeSames.j0
   have im0 := @code_Same.mono; have im1 := @sL_works.mono; have im2 := @sR_Same.mono; exact zM
theorem sL_CodeSames.mono : ∀ a0 a1 a2 a3 a4 a5 a6 a7 a8 a9 a10 a11 a12 a13 a14 a15 a16 a17 a18 a19 a20 a21 a22 a23 a24 a25 a26 a27 a28 a29 k, LeO (sL_CodeSames.f k a0 a1 a2 a3 a4 a5 a6 a7 a8 a9 a10 a11 a12 a13 a14 a15 a16 a17 a18 a19 a20 a21 a22 a23 a24 a25 a26 a27 a28 a29) (sL_CodeSames.f (k + 1) a0 a1 a2 a3 a4 a5 a6 a7 a8 a9 a10 a11 a12 a13 a14 a15 a16 a17 a18 a19 a20 a21 a22 a23 a24 a25 a26 a27 a28 a29) := by
 intro a0 a1 a2 a3 a4 a5 a6 a7 a8 a9 a10 a11 a12 a13 a14 a15 a16 a17 a18 a19 a20 a21 a22 a23 a24 a25 a26 a27 a28 a29 k
 have ih0 := sL_CodeSames.mono_l k
 unfold sL_CodeSames.f
 have im0 := @code_Same.mono; have im1 := @sL_works.mono; have im2 := @sR_Same.mono; exact zM
end Go.Proofs.Ytccbdcbeinkjgaa.XA
end
section
namespace Go.Proofs.Ytccbdcbeinkjgaa.SaidCodeSames
open Go.RowKit Go.Proofs.YtccbdcbeinkjgaaW.PrintWords Go.Proofs.YtccbdcbeinkjgaaW.PrintLast Go.Proofs.Ytccbdcbeinkjgaa.Opn Go.Proofs.Ytccbdcbeinkjgaa.XA
def wfS48 (x : S48) : Prop := (Lit.int .i64 x.f0).wf = true ∧ (Lit.int .i64 x.f1).wf = true
def wfS63 (x : S63) : Prop := (Lit.int .i64 x.f0).wf = true ∧ (Lit.int .i64 x.f1).wf = true ∧ (Lit.int .i64 x.f2).wf = true ∧ (Lit.int .i64 x.f3).wf = true ∧ (Lit.int .i64 x.f4).wf = true
def wfS26 (x : S26) : Prop := (Lit.int .i64 x.f0).wf = true ∧ (Lit.int .i64 x.f1).wf = true ∧ (x.f2.length * 40 ≤ 140737488351232 ∧ x.f2.length ≤ 9223372036854775807 ∧ ∀ y ∈ x.f2, wfS63 y) ∧ (x.f3.length * 8 ≤ 140737488351232 ∧ x.f3.length ≤ 9223372036854775807 ∧ ∀ y ∈ x.f3, (Lit.int .i64 y).wf = true)
def wfS28 (x : S28) : Prop := (Lit.int .i64 x.f0).wf = true ∧ (Lit.int .i64 x.f1).wf = true ∧ (x.f2.length * 16 ≤ 140737488351232 ∧ x.f2.length ≤ 9223372036854775807 ∧ ∀ y ∈ x.f2, wfS48 y) ∧ wfS26 x.f3 ∧ wfS26 x.f4 ∧ wfS26 x.f5
def Pure : Prop := ∀ (x0 : S28) (x1 : S28), wfS28 x0 → wfS28 x1 → ∃ k, sL_CodeSames.f k x0.f0 x0.f1 x0.f2 x0.f3.f0 x0.f3.f1 x0.f3.f2 x0.f3.f3 x0.f4.f0 x0.f4.f1 x0.f4.f2 x0.f4.f3 x0.f5.f0 x0.f5.f1 x0.f5.f2 x0.f5.f3 x1.f0 x1.f1 x1.f2 x1.f3.f0 x1.f3.f1 x1.f3.f2 x1.f3.f3 x1.f4.f0 x1.f4.f1 x1.f4.f2 x1.f4.f3 x1.f5.f0 x1.f5.f1 x1.f5.f2 x1.f5.f3 = some true
end Go.Proofs.Ytccbdcbeinkjgaa.SaidCodeSames
end
section
namespace Go.Proofs.Ytccbdcbeinkjgaa.PlainCode
open Go.RowKit Go.Proofs.YtccbdcbeinkjgaaW.PrintWords Go.Proofs.YtccbdcbeinkjgaaW.PrintLast Go.Proofs.YtccbdcbeinkjgaaW.PrintMore Go.Proofs.Ytccbdcbeinkjgaa.XA Go.Proofs.Ytccbdcbeinkjgaa.Evs
theorem wrapNext {j n : Nat} (h : j < n) (hn : n ≤ 4611686018427387904) : wrap64 ((j : Int) + 1) = ((j + 1 : Nat) : Int) := by unfold wrap64; omega
deriving instance DecidableEq for S48
deriving instance DecidableEq for S63
theorem eqloop {α : Type} [DecidableEq α] {l : Nat → Int → Option Bool} {x y : List α} {R : Bool} (d : α) (hlen : x.length = y.length) (hb : x.length ≤ 4611686018427387904)
    (hstep : ∀ (k j : Nat), j < x.length → l (k + 1) (j : Int) = if x.getD j d = y.getD j d then l k (wrap64 ((j : Int) + 1)) else some false)
    (hend : ∃ K, ∀ k, K ≤ k → l k (x.length : Int) = some R) :
    ∀ m j : Nat, j + m = x.length → ∃ K, ∀ k, K ≤ k → l k (j : Int) = some (decide (x.drop j = y.drop j) && R) := by
  intro m
  induction m with
  | zero =>
    intro j hj
    obtain rfl : j = x.length := by omega
    obtain ⟨K, h⟩ := hend
    refine ⟨K, fun k hk => ?_⟩
    rw [h k hk, List.drop_length, List.drop_eq_nil_of_le (by omega)]
    simp
  | succ m ih =>
    intro j hj
    have hlt : j < x.length := by omega
    have hlt2 : j < y.length := by omega
    obtain ⟨K, h⟩ := ih (j + 1) (by omega)
    refine ⟨K + 1, fun k hk => ?_⟩
    obtain ⟨k, rfl⟩ : ∃ q, k = q + 1 := ⟨k - 1, by omega⟩
    rw [hstep k j hlt, List.drop_eq_getElem_cons hlt, List.drop_eq_getElem_cons hlt2, List.getD_eq_getElem?_getD, List.getD_eq_getElem?_getD, List.getElem?_eq_getElem hlt, List.getElem?_eq_getElem hlt2]
    simp only [Option.getD_some, List.cons.injEq]
    by_cases he : x[j] = y[j]
    · rw [if_pos he, wrapNext hlt hb, h k (by omega)]
      simp [he]
    · rw [if_neg he]
      simp [he]
theorem s48_ne (p q : S48) : ((!(p.f0 == q.f0) || (!(p.f1 == q.f1))) = true) = ¬ p = q := by
  cases p with | mk p0 p1 => cases q with | mk q0 q1 =>
  simp only [S48.mk.injEq, Bool.or_eq_true, Bool.not_eq_true', beq_eq_false_iff_ne, ne_eq, eq_iff_iff]
  by_cases h0 : p0 = q0 <;> by_cases h1 : p1 = q1 <;> simp [h0, h1]
theorem s63_ne (p q : S63) : ((!(p.f0 == q.f0) || (!(p.f1 == q.f1) || (!(p.f2 == q.f2) || (!(p.f3 == q.f3) || (!(p.f4 == q.f4)))))) = true) = ¬ p = q := by
  cases p with | mk p0 p1 p2 p3 p4 => cases q with | mk q0 q1 q2 q3 q4 =>
  simp only [S63.mk.injEq, Bool.or_eq_true, Bool.not_eq_true', beq_eq_false_iff_ne, ne_eq, eq_iff_iff]
  by_cases h0 : p0 = q0 <;> by_cases h1 : p1 = q1 <;> by_cases h2 : p2 = q2 <;> by_cases h3 : p3 = q3 <;> by_cases h4 : p4 = q4 <;> simp [h0, h1, h2, h3, h4]
theorem ints_ev {x y : List Int} (hb : x.length ≤ 4611686018427387904) : Ev (fun k => slices_Equal_int_int.f k x y) (decide (x = y)) := by
  unfold slices_Equal_int_int.f
  by_cases hl : (x.length : Int) = (y.length : Int)
  · refine ev_pos hl ?_
    have := eqloop (l := fun k i => slices_Equal_int_int.l0 k x y (x.length : Int) i) (x := x) (y := y) (R := true) 0 (by omega) hb
      (fun k j hj => by
        simp only [slices_Equal_int_int.l0]
        rw [if_pos (by omega), if_pos (by omega), if_pos (by omega), if_pos (by omega)]
        rfl)
      ⟨1, fun k hk => by obtain ⟨k, rfl⟩ : ∃ q, k = q + 1 := ⟨k - 1, by omega⟩; simp only [slices_Equal_int_int.l0]; rw [if_neg (by omega)]⟩ x.length 0 (by omega)
    simp only [List.drop_zero, Bool.and_true] at this
    exact this
  · refine ev_neg hl ?_
    have hne : x ≠ y := fun h => hl (by rw [h])
    rw [decide_eq_false hne]
    exact Ev.now _
def psame (a0 a1 : Int) (c : List S63) (o : List Int) (b0 b1 : Int) (d : List S63) (p : List Int) : Bool := decide (a0 = b0) && (decide (a1 = b1) && (decide (c = d) && decide (o = p)))
section
variable {a0 a1 b0 b1 : Int} {c d : List S63} {o p : List Int}
theorem rsame_l1 (hl : o.length = p.length) (ho : o.length ≤ 4611686018427387904) : Ev (fun k => sP_Same.l1 k 0 a0 a1 c o b0 b1 d p) (decide (o = p)) := by
  have := eqloop (l := fun k i => sP_Same.l1 k i a0 a1 c o b0 b1 d p) (x := o) (y := p) (R := true) 0 hl ho
    (fun k j hj => by
      simp only [sP_Same.l1]
      rw [if_pos (by omega), if_pos (by omega), if_pos (by omega)]
      rfl)
    ⟨1, fun k hk => by obtain ⟨k, rfl⟩ : ∃ q, k = q + 1 := ⟨k - 1, by omega⟩; simp only [sP_Same.l1]; rw [if_neg (by omega)]⟩ o.length 0 (by omega)
  simp only [List.drop_zero, Bool.and_true] at this
  exact this
theorem rsame_l0 (hl : o.length = p.length) (hc2 : c.length = d.length) (hc : c.length ≤ 4611686018427387904) (ho : o.length ≤ 4611686018427387904) : Ev (fun k => sP_Same.l0 k 0 a0 a1 c o b0 b1 d p) (decide (c = d) && decide (o = p)) := by
  obtain ⟨K, hK⟩ := rsame_l1 (a0 := a0) (a1 := a1) (b0 := b0) (b1 := b1) (c := c) (d := d) hl ho
  have := eqloop (l := fun k i => sP_Same.l0 k i a0 a1 c o b0 b1 d p) (x := c) (y := d) (R := decide (o = p)) z63 hc2 hc
    (fun k j hj => by
      simp only [sP_Same.l0, s63_ne]
      rw [if_pos (by omega), if_pos (by omega), if_pos (by omega)]
      show (if ¬ c.getD j z63 = d.getD j z63 then _ else _) = _
      rw [ite_not])
    ⟨K + 1, fun k hk => by obtain ⟨k, rfl⟩ : ∃ q, k = q + 1 := ⟨k - 1, by omega⟩; simp only [sP_Same.l0]; rw [if_neg (by omega)]; exact hK k (by omega)⟩ c.length 0 (by omega)
  simp only [List.drop_zero] at this
  exact this
theorem rsame_ev (hc : c.length ≤ 4611686018427387904) (ho : o.length ≤ 4611686018427387904) : Ev (fun k => sP_Same.f k a0 a1 c o b0 b1 d p) (psame a0 a1 c o b0 b1 d p) := by
  have hj : Ev (fun k => sP_Same.j0 k true a0 a1 c o b0 b1 d p) false := ⟨1, fun k hk => by obtain ⟨k, rfl⟩ : ∃ q, k = q + 1 := ⟨k - 1, by omega⟩; simp only [sP_Same.j0]; rw [if_pos trivial]⟩
  unfold sP_Same.f psame
  by_cases h0 : a0 = b0
  · refine ev_pos h0 ?_
    by_cases h1 : a1 = b1
    · refine ev_pos h1 ?_
      rw [decide_eq_true h0, decide_eq_true h1, Bool.true_and, Bool.true_and]
      by_cases h2 : (c.length : Int) = (d.length : Int)
      · refine ev_pos h2 ?_
        by_cases h3 : (o.length : Int) = (p.length : Int)
        · obtain ⟨K, hK⟩ := rsame_l0 (a0 := a0) (a1 := a1) (b0 := b0) (b1 := b1) (c := c) (d := d) (o := o) (p := p) (by omega) (by omega) hc ho
          refine ⟨K + 1, fun k hk => ?_⟩
          obtain ⟨k, rfl⟩ : ∃ q, k = q + 1 := ⟨k - 1, by omega⟩
          simp only [sP_Same.j0]
          rw [if_neg (by simpa using h3)]
          exact hK k (by omega)
        · have hne : o ≠ p := fun h => h3 (by rw [h])
          rw [decide_eq_false hne, Bool.and_false, show ((o.length : Int) != (p.length : Int)) = true by simpa using h3]
          exact hj
      · refine ev_neg h2 ?_
        have hne : c ≠ d := fun h => h2 (by rw [h])
        rw [decide_eq_false hne, Bool.false_and]
        exact hj
    · refine ev_neg h1 ?_
      rw [decide_eq_false h1, Bool.false_and, Bool.and_false]
      exact hj
  · refine ev_neg h0 ?_
    rw [decide_eq_false h0, Bool.false_and]
    exact hj
end
def usame (a b : S28) : Bool := decide (a.f0 = b.f0) && (decide (a.f1 = b.f1) && (decide (a.f2 = b.f2) && (psame a.f3.f0 a.f3.f1 a.f3.f2 a.f3.f3 b.f3.f0 b.f3.f1 b.f3.f2 b.f3.f3 && (psame a.f4.f0 a.f4.f1 a.f4.f2 a.f4.f3 b.f4.f0 b.f4.f1 b.f4.f2 b.f4.f3 && psame a.f5.f0 a.f5.f1 a.f5.f2 a.f5.f3 b.f5.f0 b.f5.f1 b.f5.f2 b.f5.f3))))
structure Held (a : S28) : Prop where
  p : a.f2.length ≤ 4611686018427387904
  c3 : a.f3.f2.length ≤ 4611686018427387904
  o3 : a.f3.f3.length ≤ 4611686018427387904
  c4 : a.f4.f2.length ≤ 4611686018427387904
  o4 : a.f4.f3.length ≤ 4611686018427387904
  c5 : a.f5.f2.length ≤ 4611686018427387904
  o5 : a.f5.f3.length ≤ 4611686018427387904
theorem three_ev {f g h : Nat → Option Bool} {x y z : Bool} (hf : Ev f x) (hg : Ev g y) (hh : Ev h z) : Ev (fun k => (f k).bind fun s => if s = true then (g k).bind fun t => (if t = true then (h k).bind fun u => some u else some false) else some false) (x && (y && z)) := by
  refine Ev.bind hf ?_
  cases x
  · exact ev_neg (by decide) (Ev.now _)
  · refine ev_pos rfl (Ev.bind hg ?_)
    cases y
    · exact ev_neg (by decide) (Ev.now _)
    · exact ev_pos rfl (Ev.bind hh (Ev.now _))
theorem ref_ev {a b : S28} (ha : Held a) : Ev (fun k => sR_Same.f k a.f0 a.f1 a.f2 a.f3.f0 a.f3.f1 a.f3.f2 a.f3.f3 a.f4.f0 a.f4.f1 a.f4.f2 a.f4.f3 a.f5.f0 a.f5.f1 a.f5.f2 a.f5.f3 b.f0 b.f1 b.f2 b.f3.f0 b.f3.f1 b.f3.f2 b.f3.f3 b.f4.f0 b.f4.f1 b.f4.f2 b.f4.f3 b.f5.f0 b.f5.f1 b.f5.f2 b.f5.f3) (usame a b) := by
  have hj : Ev (fun k => sR_Same.j0 k true a.f0 a.f1 a.f2 a.f3.f0 a.f3.f1 a.f3.f2 a.f3.f3 a.f4.f0 a.f4.f1 a.f4.f2 a.f4.f3 a.f5.f0 a.f5.f1 a.f5.f2 a.f5.f3 b.f0 b.f1 b.f2 b.f3.f0 b.f3.f1 b.f3.f2 b.f3.f3 b.f4.f0 b.f4.f1 b.f4.f2 b.f4.f3 b.f5.f0 b.f5.f1 b.f5.f2 b.f5.f3) false := ⟨1, fun k hk => by obtain ⟨k, rfl⟩ : ∃ q, k = q + 1 := ⟨k - 1, by omega⟩; simp only [sR_Same.j0]; rw [if_pos trivial]⟩
  unfold sR_Same.f usame
  by_cases h0 : a.f0 = b.f0
  · refine ev_pos h0 ?_
    by_cases h1 : a.f1 = b.f1
    · refine ev_pos h1 ?_
      rw [decide_eq_true h0, decide_eq_true h1, Bool.true_and, Bool.true_and]
      by_cases h2 : (a.f2.length : Int) = (b.f2.length : Int)
      · obtain ⟨K, hK⟩ := three_ev (rsame_ev (a0 := a.f3.f0) (a1 := a.f3.f1) (b0 := b.f3.f0) (b1 := b.f3.f1) (d := b.f3.f2) (p := b.f3.f3) ha.c3 ha.o3) (rsame_ev (a0 := a.f4.f0) (a1 := a.f4.f1) (b0 := b.f4.f0) (b1 := b.f4.f1) (d := b.f4.f2) (p := b.f4.f3) ha.c4 ha.o4) (rsame_ev (a0 := a.f5.f0) (a1 := a.f5.f1) (b0 := b.f5.f0) (b1 := b.f5.f1) (d := b.f5.f2) (p := b.f5.f3) ha.c5 ha.o5)
        have := eqloop (l := fun k i => sR_Same.l0 k i a.f0 a.f1 a.f2 a.f3.f0 a.f3.f1 a.f3.f2 a.f3.f3 a.f4.f0 a.f4.f1 a.f4.f2 a.f4.f3 a.f5.f0 a.f5.f1 a.f5.f2 a.f5.f3 b.f0 b.f1 b.f2 b.f3.f0 b.f3.f1 b.f3.f2 b.f3.f3 b.f4.f0 b.f4.f1 b.f4.f2 b.f4.f3 b.f5.f0 b.f5.f1 b.f5.f2 b.f5.f3) (x := a.f2) (y := b.f2) z48 (by omega) ha.p
          (fun k j hj => by
            simp only [sR_Same.l0, s48_ne]
            rw [if_pos (by omega), if_pos (by omega), if_pos (by omega)]
            show (if ¬ a.f2.getD j z48 = b.f2.getD j z48 then _ else _) = _
            rw [ite_not])
          ⟨K + 1, fun k hk => by obtain ⟨k, rfl⟩ : ∃ q, k = q + 1 := ⟨k - 1, by omega⟩; simp only [sR_Same.l0]; rw [if_neg (by omega)]; exact hK k (by omega)⟩ a.f2.length 0 (by omega)
        simp only [List.drop_zero] at this
        obtain ⟨K2, h2'⟩ := this
        refine ⟨K2 + 1, fun k hk => ?_⟩
        obtain ⟨k, rfl⟩ : ∃ q, k = q + 1 := ⟨k - 1, by omega⟩
        simp only [sR_Same.j0]
        rw [if_neg (by simpa using h2)]
        exact h2' k (by omega)
      · have hne : a.f2 ≠ b.f2 := fun h => h2 (by rw [h])
        rw [decide_eq_false hne, Bool.false_and, show ((a.f2.length : Int) != (b.f2.length : Int)) = true by simpa using h2]
        exact hj
    · refine ev_neg h1 ?_
      rw [decide_eq_false h1, Bool.false_and, Bool.and_false]
      exact hj
  · refine ev_neg h0 ?_
    rw [decide_eq_false h0, Bool.false_and]
    exact hj
theorem usame_self (a : S28) : usame a a = true := by simp [usame, psame]
end Go.Proofs.Ytccbdcbeinkjgaa.PlainCode
end
section
namespace Go.Proofs.Ytccbdcbeinkjgaa.PlainChk
open Go.RowKit Go.Proofs.YtccbdcbeinkjgaaW.PrintWords Go.Proofs.YtccbdcbeinkjgaaW.PrintLast Go.Proofs.Ytccbdcbeinkjgaa.XA Go.Proofs.Ytccbdcbeinkjgaa.Evs Go.Proofs.Ytccbdcbeinkjgaa.PlainCode
def ConstP (op c : Int) : Prop := (op = 5 ∨ op = 6 → ¬ c = 0 ∧ -512 ≤ c ∧ c ≤ 512) ∧ (op = 7 ∨ op = 8 → 1 ≤ c ∧ c ≤ 64) ∧ (¬ (op = 5 ∨ op = 6) ∧ ¬ (op = 7 ∨ op = 8) → c = 0)
instance (op c : Int) : Decidable (ConstP op c) := by unfold ConstP; exact inferInstance
def asks (op a b : Int) : List Int := if op = 3 ∨ op = 4 then [a, b] else if 1 ≤ op ∧ op ≤ 8 then [a] else []
def MayP (op t a b c regs : Int) : Prop := (1 ≤ op ∧ op ≤ 8) ∧ (0 ≤ t ∧ t < regs) ∧ (0 ≤ a ∧ a < regs) ∧ (op = 3 ∨ op = 4 → 0 ≤ b ∧ b < regs) ∧ (¬ (op = 3 ∨ op = 4) → b = 0) ∧ ConstP op c
instance (op t a b c regs : Int) : Decidable (MayP op t a b c regs) := by unfold MayP; exact inferInstance
def mayb (regs : Int) (i : S63) : Bool := decide (MayP i.f0 i.f1 i.f2 i.f3 i.f4 regs)
def bad (regs : Int) : List S63 → Nat → Option Nat
  | [], _ => none
  | i :: l, j => if mayb regs i = true then bad regs l (j + 1) else some j
def outsOk (regs : Int) (l : List Int) : Bool := l.all fun r => decide (0 ≤ r ∧ r < regs)
def Head (ins regs : Int) (code : List S63) (outs : List Int) : Prop := (1 ≤ ins ∧ ins ≤ regs) ∧ regs ≤ 128 ∧ code.length ≤ 16384 ∧ 1 ≤ outs.length ∧ outs.length ≤ 128
instance (ins regs : Int) (code : List S63) (outs : List Int) : Decidable (Head ins regs code outs) := by unfold Head; exact inferInstance
def codeOf (regs : Int) (code : List S63) (j : Nat) : Int × Bool := match bad regs (code.drop j) j with
  | none => (0, false)
  | some m => ((m : Int), true)
def chk (ins regs : Int) (code : List S63) (outs : List Int) : Int × Bool := if Head ins regs code outs then (if outsOk regs outs = true then codeOf regs code 0 else (-1, true)) else (-1, true)
end Go.Proofs.Ytccbdcbeinkjgaa.PlainChk
end
section
namespace Go.Proofs.Ytccbdcbeinkjgaa.PlainEnc
open Go.RowKit Go.Proofs.YtccbdcbeinkjgaaW.PrintWords Go.Proofs.YtccbdcbeinkjgaaW.PrintLast Go.Proofs.YtccbdcbeinkjgaaW.PrintMore Go.Proofs.Ytccbdcbeinkjgaa.XA Go.Proofs.Ytccbdcbeinkjgaa.Evs Go.Proofs.Ytccbdcbeinkjgaa.PlainCode Go.Proofs.Ytccbdcbeinkjgaa.PlainChk
theorem rd_at {l : List Int} {j : Nat} (h : j < l.length) : rd l (j : Int) = l[j] := by
  show l.getD j _ = _
  rw [List.getD_eq_getElem?_getD, List.getElem?_eq_getElem h]; rfl
def two (n : Int) : List Int := [(n / 256) % 256, n % 256]
def ib (i : S63) : List Int := [i.f0 % 256, i.f1 % 256, i.f2 % 256, i.f3 % 256] ++ two i.f4
def ob (x : Int) : List Int := [x % 256]
def qb (p : S48) : List Int := [p.f0 % 256, p.f1 % 256]
def pb (a0 a1 : Int) (c : List S63) (o : List Int) : List Int := ([a0 % 256, a1 % 256] ++ two (c.length : Int)) ++ c.flatMap ib ++ [(o.length : Int) % 256] ++ o.flatMap ob
def body (x : S28) : List Int := ([65, 78, 86, 49, x.f0 % 256, x.f1 % 256, (x.f2.length : Int) % 256] ++ x.f2.flatMap qb) ++ pb x.f3.f0 x.f3.f1 x.f3.f2 x.f3.f3 ++ pb x.f4.f0 x.f4.f1 x.f4.f2 x.f4.f3 ++ pb x.f5.f0 x.f5.f1 x.f5.f2 x.f5.f3
structure Short (x : S28) : Prop where
  p : x.f2.length ≤ 255
  c3 : x.f3.f2.length ≤ 16384
  o3 : x.f3.f3.length ≤ 128
  c4 : x.f4.f2.length ≤ 16384
  o4 : x.f4.f3.length ≤ 128
  c5 : x.f5.f2.length ≤ 16384
  o5 : x.f5.f3.length ≤ 128
def ckv : Nat → Int → List Int → Int
  | _, s, [] => s
  | j, s, x :: r => ckv (j + 1) ((s + ((j : Int) + 1) * x) % 65521) r
theorem ckv_rng : ∀ (l : List Int) (j : Nat) (s : Int), 0 ≤ s → s < 65521 → 0 ≤ ckv j s l ∧ ckv j s l < 65521
  | [], j, s, h0, h1 => ⟨h0, h1⟩
  | x :: r, j, s, h0, h1 => ckv_rng r (j + 1) _ (Int.emod_nonneg _ (by decide)) (Int.emod_lt_of_pos _ (by decide))
theorem ck_step {s x : Int} {j : Nat} (hj : j < 1099511627776) (hs : 0 ≤ s) (hs1 : s < 65521) (hx : 0 ≤ x) (hx1 : x < 256) :
    Int.tmod (wrap64 (s + (wrap64 ((Int.tmod (wrap64 ((j : Int) + 1)) 65521) * (wrap64 x))))) 65521 = (s + ((j : Int) + 1) * x) % 65521 ∧ Int.tmod (wrap64 (s + (wrap64 ((wrap64 ((j : Int) + 1)) * (wrap64 x))))) 65521 = (s + ((j : Int) + 1) * x) % 65521 := by
  have w1 : wrap64 ((j : Int) + 1) = (j : Int) + 1 := by unfold wrap64; omega
  have w2 : wrap64 x = x := by unfold wrap64; omega
  rw [w1, w2, Int.tmod_eq_emod_of_nonneg (a := (j : Int) + 1) (by omega)]
  have hm0 : 0 ≤ ((j : Int) + 1) % 65521 := Int.emod_nonneg _ (by decide)
  have hm1 : ((j : Int) + 1) % 65521 < 65521 := Int.emod_lt_of_pos _ (by decide)
  have p0 : 0 ≤ ((j : Int) + 1) % 65521 * x := Int.mul_nonneg hm0 hx
  have p1 : ((j : Int) + 1) % 65521 * x ≤ 65521 * 256 := Int.mul_le_mul (by omega) (by omega) hx (by decide)
  have q0 : 0 ≤ ((j : Int) + 1) * x := Int.mul_nonneg (by omega) hx
  have q1 : ((j : Int) + 1) * x ≤ 1099511627776 * 256 := Int.mul_le_mul (by omega) (by omega) hx (by decide)
  have w3 : wrap64 (((j : Int) + 1) % 65521 * x) = ((j : Int) + 1) % 65521 * x := by unfold wrap64; omega
  have w4 : wrap64 (((j : Int) + 1) * x) = ((j : Int) + 1) * x := by unfold wrap64; omega
  have w5 : wrap64 (s + ((j : Int) + 1) % 65521 * x) = s + ((j : Int) + 1) % 65521 * x := by unfold wrap64; omega
  have w6 : wrap64 (s + ((j : Int) + 1) * x) = s + ((j : Int) + 1) * x := by unfold wrap64; omega
  rw [w3, w4, w5, w6, Int.tmod_eq_emod_of_nonneg (by omega), Int.tmod_eq_emod_of_nonneg (by omega)]
  refine ⟨?_, rfl⟩
  rw [Int.add_emod s, Int.mul_emod, Int.emod_emod, ← Int.mul_emod, ← Int.add_emod]
def Bytes (l : List Int) : Prop := ∀ x ∈ l, 0 ≤ x ∧ x < 256
theorem check_evl {l : List Int} (hl : l.length < 1099511627776) (hb : Bytes l) : ∀ (m j : Nat) (s : Int), j + m = l.length → 0 ≤ s → s < 65521 → Ev (fun k => code_check.l0 k s l (l.length : Int) (j : Int)) (ckv j s (l.drop j)) ∧ Ev (fun k => sR_check.l0 k l s (j : Int)) (ckv j s (l.drop j)) := by
  intro m
  induction m with
  | zero =>
    intro j s hj h0 h1
    obtain rfl : j = l.length := by omega
    rw [List.drop_length]
    exact ⟨Ev.step (fun k => by simp only [code_check.l0]; rw [if_neg (by omega)]) (Ev.now s), Ev.step (fun k => by simp only [sR_check.l0]; rw [if_neg (by omega)]) (Ev.now s)⟩
  | succ m ih =>
    intro j s hj h0 h1
    have hlt : j < l.length := by omega
    have hx := hb l[j] (List.getElem_mem hlt)
    have hs := ck_step (x := l[j]) (j := j) (by omega) h0 h1 hx.1 hx.2
    rw [List.drop_eq_getElem_cons hlt]
    obtain ⟨i1, i2⟩ := ih (j + 1) ((s + ((j : Int) + 1) * l[j]) % 65521) (by omega) (Int.emod_nonneg _ (by decide)) (Int.emod_lt_of_pos _ (by decide))
    refine ⟨Ev.step (fun k => ?_) i1, Ev.step (fun k => ?_) i2⟩
    · simp only [code_check.l0]
      rw [if_pos (by omega), if_pos (by omega), if_pos (by omega), rd_at hlt, hs.1, wrapNext hlt (by omega)]
    · simp only [sR_check.l0]
      rw [if_pos (by omega), if_pos (by omega), rd_at hlt, hs.2, wrapNext hlt (by omega)]
def ck (l : List Int) : Int := ckv 0 0 l
theorem check_ev' {l : List Int} (hl : l.length < 1099511627776) (hb : Bytes l) : Ev (fun k => code_check.f k l) (ck l) := (check_evl hl hb l.length 0 0 (by omega) (by decide) (by decide)).1
theorem refcheck_ev' {l : List Int} (hl : l.length < 1099511627776) (hb : Bytes l) : Ev (fun k => sR_check.f k l) (ck l) := (check_evl hl hb l.length 0 0 (by omega) (by decide) (by decide)).2
def told (x : S28) : List Int := body x ++ two (ck (body x))
section
variable {x : S28} {v : List Int × Int}
end
end Go.Proofs.Ytccbdcbeinkjgaa.PlainEnc
end
section
namespace Go.Proofs.Ytccbdcbeinkjgaa.PlainRef
open Go.RowKit Go.Proofs.YtccbdcbeinkjgaaW.PrintWords Go.Proofs.YtccbdcbeinkjgaaW.PrintLast Go.Proofs.YtccbdcbeinkjgaaW.PrintMore Go.Proofs.Ytccbdcbeinkjgaa.XA Go.Proofs.Ytccbdcbeinkjgaa.Evs Go.Proofs.Ytccbdcbeinkjgaa.PlainCode Go.Proofs.Ytccbdcbeinkjgaa.PlainChk Go.Proofs.Ytccbdcbeinkjgaa.PlainEnc
theorem two_at' {n : Int} (h0 : -65536 ≤ n) (h1 : n ≤ 4611686018427387904) : sR_two.f n = some (two n) := by
  unfold sR_two.f two
  have w : wrap64 (n + 65536) = n + 65536 := by unfold wrap64; omega
  rw [w, Int.tmod_eq_emod_of_nonneg (a := n + 65536) (by omega)]
  have m0 : 0 ≤ (n + 65536) % 65536 := by omega
  have w2 : wrap64 (Int.tdiv ((n + 65536) % 65536) 256) = (n + 65536) % 65536 / 256 := by
    rw [Int.tdiv_eq_ediv_of_nonneg m0]; unfold wrap64; omega
  rw [w2, Int.tmod_eq_emod_of_nonneg m0]
  have e1 : (n + 65536) % 65536 / 256 % 256 = n / 256 % 256 := by omega
  have e2 : (n + 65536) % 65536 % 256 % 256 = n % 256 := by omega
  rw [e1, e2]
def PIn (p : S48) : Prop := (-16 ≤ p.f0 ∧ p.f0 ≤ 16) ∧ (-16 ≤ p.f1 ∧ p.f1 ≤ 16)
instance (p : S48) : Decidable (PIn p) := by unfold PIn; exact inferInstance
structure Fine (x : S28) : Prop where
  s : Short x
  p : ∀ p ∈ x.f2, PIn p
  i3 : ∀ i ∈ x.f3.f2, -65536 ≤ i.f4 ∧ i.f4 ≤ 65536
  i4 : ∀ i ∈ x.f4.f2, -65536 ≤ i.f4 ∧ i.f4 ≤ 65536
  i5 : ∀ i ∈ x.f5.f2, -65536 ≤ i.f4 ∧ i.f4 ≤ 65536
section
variable {x : S28}
def Rng (x : S28) : Prop := 1 ≤ x.f0 ∧ 1 ≤ x.f1 ∧ x.f0 ≤ 8 ∧ x.f1 ≤ 8 ∧ x.f2.length ≤ 255
instance (x : S28) : Decidable (Rng x) := by unfold Rng; exact inferInstance
def wrong (p : S26) : Bool := (chk p.f0 p.f1 p.f2 p.f3).2
def mayv (x : S28) : Int := if Rng x then (if x.f2.all (fun p => decide (PIn p)) = true then (if wrong x.f3 = true then 80 else (if wrong x.f4 = true then 80 else (if wrong x.f5 = true then 80 else 0))) else 2) else 2
theorem bad_none {regs : Int} : ∀ (l : List S63) (j : Nat), bad regs l j = none → ∀ i ∈ l, mayb regs i = true
  | [], _, _, i, hi => by cases hi
  | a :: l, j, h, i, hi => by
    unfold bad at h
    by_cases ha : mayb regs a = true
    · rw [if_pos ha] at h
      rcases List.mem_cons.1 hi with e | e
      · rw [e]; exact ha
      · exact bad_none l (j + 1) h i e
    · rw [if_neg ha] at h
      cases h
theorem not_wrong {p : S26} (h : wrong p = false) : Head p.f0 p.f1 p.f2 p.f3 ∧ outsOk p.f1 p.f3 = true ∧ ∀ i ∈ p.f2, mayb p.f1 i = true := by
  unfold wrong chk at h
  by_cases hH : Head p.f0 p.f1 p.f2 p.f3
  · rw [if_pos hH] at h
    by_cases hO : outsOk p.f1 p.f3 = true
    · rw [if_pos hO] at h
      refine ⟨hH, hO, ?_⟩
      unfold codeOf at h
      rw [List.drop_zero] at h
      cases hb : bad p.f1 p.f2 0 with
      | none => exact bad_none _ _ hb
      | some m => rw [hb] at h; cases h
    · rw [if_neg hO] at h; cases h
  · rw [if_neg hH] at h; cases h
theorem may_const {regs : Int} {i : S63} (h : mayb regs i = true) : -512 ≤ i.f4 ∧ i.f4 ≤ 512 := by
  have h := of_decide_eq_true h
  unfold MayP ConstP at h
  obtain ⟨_, _, _, _, _, h1, h2, h3⟩ := h
  by_cases e1 : i.f0 = 5 ∨ i.f0 = 6
  · have := h1 e1; omega
  by_cases e2 : i.f0 = 7 ∨ i.f0 = 8
  · have := h2 e2; omega
  have := h3 ⟨e1, e2⟩
  omega
theorem mayv_fine (h : mayv x = 0) : Rng x ∧ (∀ p ∈ x.f2, PIn p) ∧ wrong x.f3 = false ∧ wrong x.f4 = false ∧ wrong x.f5 = false := by
  unfold mayv at h
  by_cases hR : Rng x
  · rw [if_pos hR] at h
    by_cases hP : x.f2.all (fun p => decide (PIn p)) = true
    · rw [if_pos hP] at h
      refine ⟨hR, fun p hp => of_decide_eq_true (List.all_eq_true.1 hP p hp), ?_⟩
      cases h3 : wrong x.f3 <;> rw [h3] at h <;> cases h4 : wrong x.f4 <;> rw [h4] at h <;> cases h5 : wrong x.f5 <;> rw [h5] at h <;> first | exact ⟨rfl, rfl, rfl⟩ | (exact absurd h (by decide))
    · rw [if_neg hP] at h; exact absurd h (by decide)
  · rw [if_neg hR] at h; exact absurd h (by decide)
theorem fine_of (h : mayv x = 0) : Fine x := by
  obtain ⟨hR, hP, h3, h4, h5⟩ := mayv_fine h
  obtain ⟨H3, _, I3⟩ := not_wrong h3
  obtain ⟨H4, _, I4⟩ := not_wrong h4
  obtain ⟨H5, _, I5⟩ := not_wrong h5
  unfold Head at H3 H4 H5
  unfold Rng at hR
  exact ⟨⟨by omega, by omega, by omega, by omega, by omega, by omega, by omega⟩, hP, fun i hi => by have := may_const (I3 i hi); omega, fun i hi => by have := may_const (I4 i hi); omega, fun i hi => by have := may_const (I5 i hi); omega⟩
theorem bytes_eq_ev {x y : List Int} (hb : x.length ≤ 4611686018427387904) : Ev (fun k => slices_Equal_byte_byte.f k x y) (decide (x = y)) := by
  unfold slices_Equal_byte_byte.f
  by_cases hl : (x.length : Int) = (y.length : Int)
  · refine ev_pos hl ?_
    have := eqloop (l := fun k i => slices_Equal_byte_byte.l0 k x y (x.length : Int) i) (x := x) (y := y) (R := true) 0 (by omega) hb
      (fun k j hj => by
        simp only [slices_Equal_byte_byte.l0]
        rw [if_pos (by omega), if_pos (by omega), if_pos (by omega), if_pos (by omega)]
        rfl)
      ⟨1, fun k hk => by obtain ⟨k, rfl⟩ : ∃ q, k = q + 1 := ⟨k - 1, by omega⟩; simp only [slices_Equal_byte_byte.l0]; rw [if_neg (by omega)]⟩ x.length 0 (by omega)
    simp only [List.drop_zero, Bool.and_true] at this
    exact this
  · refine ev_neg hl ?_
    have hne : x ≠ y := fun h => hl (by rw [h])
    rw [decide_eq_false hne]
    exact Ev.now _
end
end Go.Proofs.Ytccbdcbeinkjgaa.PlainRef
end
section
namespace Go.Proofs.Ytccbdcbeinkjgaa.XA
open Go.Proofs.Ytccbdcbeinkjgaa.Lift Go.RowKit Go.Proofs.YtccbdcbeinkjgaaW.PrintWords Go.Proofs.YtccbdcbeinkjgaaW.PrintLast Go.Proofs.YtccbdcbeinkjgaaW.PrintMore
attribute [local go_sem] max2_int min2_int max_two min_two max_three min_three max_four min_four
def bytes_HasPrefix.f (l0 : List Int) (l1 : List Int) : Option (Bool) := if (l0.length : Int) ≥ (l1.length : Int) then (if 0 ≤ (l1.length : Int) then (if (l1.length : Int) ≤ (l0.length : Int) then ((bytes_Equal.f (l0.take ((l1.length : Int) : Int).toNat) l1).bind fun qA => (some qA)) else (none)) else (none)) else (some false)
end Go.Proofs.Ytccbdcbeinkjgaa.XA
end
section
namespace Go.Proofs.Ytccbdcbeinkjgaa.XA
open Go.Proofs.Ytccbdcbeinkjgaa.Lift Go.RowKit Go.Proofs.YtccbdcbeinkjgaaW.PrintWords Go.Proofs.YtccbdcbeinkjgaaW.PrintLast Go.Proofs.YtccbdcbeinkjgaaW.PrintMore
attribute [local go_sem] max2_int min2_int max_two min_two max_three min_three max_four min_four
mutual
def sL_CodeBegins.j0 : Nat → Bool → Int → Int → List (S48) → Int → Int → List (S63) → List Int → Int → Int → List (S63) → List Int → Int → Int → List (S63) → List Int → Int → Int → List (S48) → Int → Int → List (S63) → List Int → Int → Int → List (S63) → List Int → Int → Int → List (S63) → List Int → Option (Bool)
 | 0, _, _, _, _, _, _, _, _, _, _, _, _, _, _, _, _, _, _, _, _, _, _, _, _, _, _, _, _, _, _, _ => none
 | k + 1, x16, qA, qB, qC, qD, qE, qF, qG, qH, qI, qJ, qK, qL, qM, qN, qO, qP, qQ, qR, qS, qT, qU, qV, qW, qX, qY, qZ, qa, qb, qc, qd => if x16 = true then (some true) else ((code_Encode.f k qA qB qC qD qE qF qG qH qI qJ qK qL qM qN qO).bind fun bt542 => ((code_Encode.f k qP qQ qR qS qT qU qV qW qX qY qZ qa qb qc qd).bind fun bt546 => (if bt542.2 = 0 then (sL_CodeBegins.j1 k bt542.1 bt546.1 (bt546.2 != 0) qA qB qC qD qE qF qG qH qI qJ qK qL qM qN qO qP qQ qR qS qT qU qV qW qX qY qZ qa qb qc qd) else (sL_CodeBegins.j1 k bt542.1 bt546.1 true qA qB qC qD qE qF qG qH qI qJ qK qL qM qN qO qP qQ qR qS qT qU qV qW qX qY qZ qa qb qc qd))))
def sL_CodeBegins.j1 : Nat → List Int → List Int → Bool → Int → Int → List (S48) → Int → Int → List (S63) → List Int → Int → Int → List (S63) → List Int → Int → Int → List (S63) → List Int → Int → Int → List (S48) → Int → Int → List (S63) → List Int → Int → Int → List (S63) → List Int → Int → Int → List (S63) → List Int → Option (Bool)
 | 0, _, _, _, _, _, _, _, _, _, _, _, _, _, _, _, _, _, _, _, _, _, _, _, _, _, _, _, _, _, _, _, _, _ => none
 | k + 1, x5, x7, x32, qA, qB, qC, qD, qE, qF, qG, qH, qI, qJ, qK, qL, qM, qN, qO, qP, qQ, qR, qS, qT, qU, qV, qW, qX, qY, qZ, qa, qb, qc, qd => if x32 = true then (some true) else ((bytes_HasPrefix.f x5 x7).bind fun q8 => ((code_Same.f k qA qB qC qD qE qF qG qH qI qJ qK qL qM qN qO qP qQ qR qS qT qU qV qW qX qY qZ qa qb qc qd).bind fun q9 => (if (q8 == q9) = true then ((bytes_HasPrefix.f x7 x5).bind fun jA => ((code_Same.f k qA qB qC qD qE qF qG qH qI qJ qK qL qM qN qO qP qQ qR qS qT qU qV qW qX qY qZ qa qb qc qd).bind fun jB => (some (jA == jB)))) else (some false))))
end
def sL_CodeBegins.f (k : Nat) (qo : Int) (qp : Int) (qq : List (S48)) (qr : Int) (qs : Int) (qt : List (S63)) (qu : List Int) (qv : Int) (qw : Int) (qx : List (S63)) (qe : List Int) (qf : Int) (qg : Int) (qh : List (S63)) (qi : List Int) (qy : Int) (qz : Int) (q0 : List (S48)) (q1 : Int) (q2 : Int) (q3 : List (S63)) (q4 : List Int) (q5 : Int) (q6 : Int) (q7 : List (S63)) (qj : List Int) (qk : Int) (ql : Int) (qm : List (S63)) (qn : List Int) : Option (Bool) := (sL_works.f k).bind fun jC => (if jC = true then ((sL_long.f qo qp qq qr qs qt qu qv qw qx qe qf qg qh qi).bind fun jD => (if jD = true then (sL_CodeBegins.j0 k true qo qp qq qr qs qt qu qv qw qx qe qf qg qh qi qy qz q0 q1 q2 q3 q4 q5 q6 q7 qj qk ql qm qn) else ((sL_long.f qy qz q0 q1 q2 q3 q4 q5 q6 q7 qj qk ql qm qn).bind fun jE => (sL_CodeBegins.j0 k jE qo qp qq qr qs qt qu qv qw qx qe qf qg qh qi qy qz q0 q1 q2 q3 q4 q5 q6 q7 qj qk ql qm qn)))) else (some false))
theorem sL_CodeBegins.mono_l : ∀ k, (∀ y0 y1 y2 y3 y4 y5 y6 y7 y8 y9 y10 y11 y12 y13 y14 y15 y16 y17 y18 y19 y20 y21 y22 y23 y24 y25 y26 y27 y28 y29 y30, LeO (sL_CodeBegins.j0 k y0 y1 y2 y3 y4 y5 y6 y7 y8 y9 y10 y11 y12 y13 y14 y15 y16 y17 y18 y19 y20 y21 y22 y23 y24 y25 y26 y27 y28 y29 y30) (sL_CodeBegins.j0 (k + 1) y0 y1 y2 y3 y4 y5 y6 y7 y8 y9 y10 y11 y12 y13 y14 y15 y16 y17 y18 y19 y20 y21 y22 y23 y24 y25 y26 y27 y28 y29 y30)) ∧ (∀ y0 y1 y2 y3 y4 y5 y6 y7 y8 y9 y10 y11 y12 y13 y14 y15 y16 y17 y18 y19 y20 y21 y22 y23 y24 y25 y26 y27 y28 y29 y30 y31 y32, LeO (sL_CodeBegins.j1 k y0 y1 y2 y3 y4 y5 y6 y7 y8 y9 y10 y11 y12 y13 y14 y15 y16 y17 y18 y19 y20 y21 y22 y23 y24 y25 y26 y27 y28 y29 y30 y31 y32) (sL_CodeBegins.j1 (k + 1) y0 y1 y2 y3 y4 y5 y6 y7 y8 y9 y10 y11 y12 y13 y14 y15 y16 y17 y18 y19 y20 y21 y22 y23 y24 y25 y26 y27 y28 y29 y30 y31 y32))
 | 0 => ⟨fun _ _ _ _ _ _ _ _ _ _ _ _ _ _ _ _ _ _ _ _ _ _ _ _ _ _ _ _ _ _ _ r h => by simp [sL_CodeBegins.j0] at h, fun _ _ _ _ _ _ _ _ _ _ _ _ _ _ _ _ _ _ _ _ _ _ _ _ _ _ _ _ _ _ _ _ _ r h => by simp [sL_CodeBegins.j1] at h⟩
 | k + 1 => by
  obtain ⟨ih0, ih1⟩ := sL_CodeBegins.mono_l k
  refine ⟨?_, ?_⟩
  ·intro y0 y1 y2 y3 y4 y5 y6 y7 y8 y9 y10 y11 y12 y13 y14 y15 y16 y17 y18 y19 y20 y21 y22 y23 y24 y25 y26 y27 y28 y29 y30
   unfold sL_CodeBegins.j0
   have im0 := @code_Encode.mono; have im1 := @code_Same.mono; have im2 := @sL_works.mono; exact zM
  ·intro y0 y1 y2 y3 y4 y5 y6 y7 y8 y9 y10 y11 y12 y13 y14 y15 y16 y17 y18 y19 y20 y21 y22 y23 y24 y25 y26 y27 y28 y29 y30 y31 y32
   unfold sL_CodeBegins.j1
   have im0 := @code_Encode.mono; have im1 := @code_Same.mono; have im2 := @sL_works.mono; exact zM
theorem sL_CodeBegins.mono : ∀ a0 a1 a2 a3 a4 a5 a6 a7 a8 a9 a10 a11 a12 a13 a14 a15 a16 a17 a18 a19 a20 a21 a22 a23 a24 a25 a26 a27 a28 a29 k, LeO (sL_CodeBegins.f k a0 a1 a2 a3 a4 a5 a6 a7 a8 a9 a10 a11 a12 a13 a14 a15 a16 a17 a18 a19 a20 a21 a22 a23 a24 a25 a26 a27 a28 a29) (sL_CodeBegins.f (k + 1) a0 a1 a2 a3 a4 a5 a6 a7 a8 a9 a10 a11 a12 a13 a14 a15 a16 a17 a18 a19 a20 a21 a22 a23 a24 a25 a26 a27 a28 a29) := by
 intro a0 a1 a2 a3 a4 a5 a6 a7 a8 a9 a10 a11 a12 a13 a14 a15 a16 a17 a18 a19 a20 a21 a22 a23 a24 a25 a26 a27 a28 a29 k
 obtain ⟨ih0, ih1⟩ := sL_CodeBegins.mono_l k
 unfold sL_CodeBegins.f
 have im0 := @code_Encode.mono; have im1 := @code_Same.mono; have im2 := @sL_works.mono; exact zM
end Go.Proofs.Ytccbdcbeinkjgaa.XA
end
section
namespace Go.Proofs.Ytccbdcbeinkjgaa.SaidCodeBegins
open Go.RowKit Go.Proofs.YtccbdcbeinkjgaaW.PrintWords Go.Proofs.YtccbdcbeinkjgaaW.PrintLast Go.Proofs.Ytccbdcbeinkjgaa.Opn Go.Proofs.Ytccbdcbeinkjgaa.XA
def wfS48 (x : S48) : Prop := (Lit.int .i64 x.f0).wf = true ∧ (Lit.int .i64 x.f1).wf = true
def wfS63 (x : S63) : Prop := (Lit.int .i64 x.f0).wf = true ∧ (Lit.int .i64 x.f1).wf = true ∧ (Lit.int .i64 x.f2).wf = true ∧ (Lit.int .i64 x.f3).wf = true ∧ (Lit.int .i64 x.f4).wf = true
def wfS26 (x : S26) : Prop := (Lit.int .i64 x.f0).wf = true ∧ (Lit.int .i64 x.f1).wf = true ∧ (x.f2.length * 40 ≤ 140737488351232 ∧ x.f2.length ≤ 9223372036854775807 ∧ ∀ y ∈ x.f2, wfS63 y) ∧ (x.f3.length * 8 ≤ 140737488351232 ∧ x.f3.length ≤ 9223372036854775807 ∧ ∀ y ∈ x.f3, (Lit.int .i64 y).wf = true)
def wfS28 (x : S28) : Prop := (Lit.int .i64 x.f0).wf = true ∧ (Lit.int .i64 x.f1).wf = true ∧ (x.f2.length * 16 ≤ 140737488351232 ∧ x.f2.length ≤ 9223372036854775807 ∧ ∀ y ∈ x.f2, wfS48 y) ∧ wfS26 x.f3 ∧ wfS26 x.f4 ∧ wfS26 x.f5
def Pure : Prop := ∀ (x0 : S28) (x1 : S28), wfS28 x0 → wfS28 x1 → ∃ k, sL_CodeBegins.f k x0.f0 x0.f1 x0.f2 x0.f3.f0 x0.f3.f1 x0.f3.f2 x0.f3.f3 x0.f4.f0 x0.f4.f1 x0.f4.f2 x0.f4.f3 x0.f5.f0 x0.f5.f1 x0.f5.f2 x0.f5.f3 x1.f0 x1.f1 x1.f2 x1.f3.f0 x1.f3.f1 x1.f3.f2 x1.f3.f3 x1.f4.f0 x1.f4.f1 x1.f4.f2 x1.f4.f3 x1.f5.f0 x1.f5.f1 x1.f5.f2 x1.f5.f3 = some true
end Go.Proofs.Ytccbdcbeinkjgaa.SaidCodeBegins
end
section
namespace Go.Proofs.Ytccbdcbeinkjgaa.PlainInj
open Go.RowKit Go.Proofs.YtccbdcbeinkjgaaW.PrintWords Go.Proofs.YtccbdcbeinkjgaaW.PrintLast Go.Proofs.YtccbdcbeinkjgaaW.PrintMore Go.Proofs.Ytccbdcbeinkjgaa.XA Go.Proofs.Ytccbdcbeinkjgaa.Evs Go.Proofs.Ytccbdcbeinkjgaa.PlainCode Go.Proofs.Ytccbdcbeinkjgaa.PlainChk Go.Proofs.Ytccbdcbeinkjgaa.PlainEnc Go.Proofs.Ytccbdcbeinkjgaa.PlainRef
theorem flat_inj {α : Type} {g : α → List Int} {P : α → Prop} {d : Nat} (hd : ∀ x, (g x).length = d) (hg : ∀ a b, P a → P b → g a = g b → a = b) : ∀ (xs ys : List α) (r s : List Int), xs.length = ys.length → (∀ a ∈ xs, P a) → (∀ b ∈ ys, P b) → xs.flatMap g ++ r = ys.flatMap g ++ s → xs = ys ∧ r = s
  | [], [], r, s, _, _, _, h => ⟨rfl, h⟩
  | [], b :: ys, r, s, h, _, _, _ => by simp at h
  | a :: xs, [], r, s, h, _, _, _ => by simp at h
  | a :: xs, b :: ys, r, s, hl, ha, hb, h => by
    rw [List.flatMap_cons, List.flatMap_cons, List.append_assoc, List.append_assoc] at h
    obtain ⟨h1, h2⟩ := List.append_inj h (by rw [hd, hd])
    obtain ⟨e, er⟩ := flat_inj hd hg xs ys r s (by simpa using hl) (fun q hq => ha q (List.mem_cons_of_mem _ hq)) (fun q hq => hb q (List.mem_cons_of_mem _ hq)) h2
    exact ⟨by rw [hg a b (ha a List.mem_cons_self) (hb b List.mem_cons_self) h1, e], er⟩
def OkB (x : Int) : Prop := 0 ≤ x ∧ x < 256
def OkI (i : S63) : Prop := OkB i.f0 ∧ OkB i.f1 ∧ OkB i.f2 ∧ OkB i.f3 ∧ -512 ≤ i.f4 ∧ i.f4 ≤ 512
theorem ob_inj (a b : Int) (ha : OkB a) (hb : OkB b) (h : ob a = ob b) : a = b := by
  unfold ob at h
  unfold OkB at ha hb
  have := List.head_eq_of_cons_eq h
  omega
theorem qb_inj (a b : S48) (ha : PIn a) (hb : PIn b) (h : qb a = qb b) : a = b := by
  unfold qb at h
  unfold PIn at ha hb
  simp only [List.cons.injEq, and_true] at h
  cases a with | mk a0 a1 => cases b with | mk b0 b1 =>
  simp only [S48.mk.injEq]
  simp only at ha hb h
  omega
theorem ib_inj (a b : S63) (ha : OkI a) (hb : OkI b) (h : ib a = ib b) : a = b := by
  unfold ib two at h
  unfold OkI OkB at ha hb
  simp only [List.cons_append, List.nil_append, List.cons.injEq, and_true] at h
  cases a with | mk a0 a1 a2 a3 a4 => cases b with | mk b0 b1 b2 b3 b4 =>
  simp only [S63.mk.injEq]
  simp only at ha hb h
  omega
structure OkP (p : S26) : Prop where
  a : OkB p.f0
  b : OkB p.f1
  c : p.f2.length ≤ 16384
  d : p.f3.length ≤ 128
  i : ∀ i ∈ p.f2, OkI i
  o : ∀ x ∈ p.f3, OkB x
theorem pb_inj {p q : S26} (hp : OkP p) (hq : OkP q) {r s : List Int} (h : pb p.f0 p.f1 p.f2 p.f3 ++ r = pb q.f0 q.f1 q.f2 q.f3 ++ s) : (p.f0 = q.f0 ∧ p.f1 = q.f1 ∧ p.f2 = q.f2 ∧ p.f3 = q.f3) ∧ r = s := by
  have pa := hp.a; have pb' := hp.b; have pc := hp.c; have pd := hp.d
  have qa := hq.a; have qb' := hq.b; have qc := hq.c; have qd := hq.d
  unfold OkB at pa pb' qa qb'
  unfold pb two at h
  simp only [List.cons_append, List.nil_append, List.append_assoc, List.cons.injEq] at h
  obtain ⟨h0, h1, h2, h3, h⟩ := h
  obtain ⟨e2, h⟩ := flat_inj (g := ib) (P := OkI) (d := 6) (fun _ => rfl) ib_inj _ _ _ _ (by omega) hp.i hq.i h
  simp only [List.cons.injEq] at h
  obtain ⟨h4, h⟩ := h
  obtain ⟨e3, h⟩ := flat_inj (g := ob) (P := OkB) (d := 1) (fun _ => rfl) ob_inj _ _ _ _ (by omega) hp.o hq.o h
  exact ⟨⟨by omega, by omega, e2, e3⟩, h⟩
theorem okp_of {p : S26} (h : wrong p = false) : OkP p := by
  obtain ⟨hH, hO, hI⟩ := not_wrong h
  unfold Head at hH
  unfold outsOk at hO
  refine ⟨by unfold OkB; omega, by unfold OkB; omega, by omega, by omega, fun i hi => ?_, fun y hy => ?_⟩
  · have hc := may_const (hI i hi)
    have hm := of_decide_eq_true (hI i hi)
    unfold MayP at hm
    obtain ⟨m0, m1, m2, m3, m4, _⟩ := hm
    have hb : OkB i.f3 := by
      unfold OkB
      by_cases e : i.f0 = 3 ∨ i.f0 = 4
      · have := m3 e; omega
      · have := m4 e; omega
    exact ⟨by unfold OkB; omega, by unfold OkB; omega, by unfold OkB; omega, hb, hc.1, hc.2⟩
  · have := of_decide_eq_true (List.all_eq_true.1 hO y hy)
    unfold OkB
    omega
theorem told_inj {x y : S28} (hx : mayv x = 0) (hy : mayv y = 0) {r : List Int} (h : told x = told y ++ r) : usame x y = true := by
  obtain ⟨xR, xP, x3, x4, x5⟩ := mayv_fine hx
  obtain ⟨yR, yP, y3, y4, y5⟩ := mayv_fine hy
  unfold Rng at xR yR
  unfold told body at h
  simp only [List.cons_append, List.nil_append, List.append_assoc, List.cons.injEq, true_and] at h
  obtain ⟨h0, h1, h2, h⟩ := h
  obtain ⟨e2, h⟩ := flat_inj (g := qb) (P := PIn) (d := 2) (fun _ => rfl) qb_inj _ _ _ _ (by omega) xP yP h
  obtain ⟨⟨a0, a1, a2, a3⟩, h⟩ := pb_inj (okp_of x3) (okp_of y3) h
  obtain ⟨⟨b0, b1, b2, b3⟩, h⟩ := pb_inj (okp_of x4) (okp_of y4) h
  obtain ⟨⟨c0, c1, c2, c3⟩, h⟩ := pb_inj (okp_of x5) (okp_of y5) h
  unfold usame psame
  simp only [Bool.and_eq_true, decide_eq_true_eq]
  exact ⟨by omega, by omega, e2, ⟨a0, a1, a2, a3⟩, ⟨b0, b1, b2, b3⟩, c0, c1, c2, c3⟩
theorem told_same {x y : S28} (h : usame x y = true) : told x = told y := by
  unfold usame psame at h
  simp only [Bool.and_eq_true, decide_eq_true_eq] at h
  obtain ⟨h0, h1, h2, ⟨a0, a1, a2, a3⟩, ⟨b0, b1, b2, b3⟩, c0, c1, c2, c3⟩ := h
  unfold told body
  rw [h0, h1, h2, a0, a1, a2, a3, b0, b1, b2, b3, c0, c1, c2, c3]
end Go.Proofs.Ytccbdcbeinkjgaa.PlainInj
end
section
namespace Go.Proofs.Ytccbdcbeinkjgaa.XA
open Go.Proofs.Ytccbdcbeinkjgaa.Lift Go.RowKit Go.Proofs.YtccbdcbeinkjgaaW.PrintWords Go.Proofs.YtccbdcbeinkjgaaW.PrintLast Go.Proofs.YtccbdcbeinkjgaaW.PrintMore
attribute [local go_sem] max2_int min2_int max_two min_two max_three min_three max_four min_four
attribute [local go_sem high] eqA43
mutual
def sL_CodeBack.j0 : Nat → List Int → Bool → Int → Int → List (S48) → Int → Int → List (S63) → List Int → Int → Int → List (S63) → List Int → Int → Int → List (S63) → List Int → Option (Bool)
 | 0, _, _, _, _, _, _, _, _, _, _, _, _, _, _, _, _, _ => none
 | k + 1, x1, x19, qA, qB, qC, qD, qE, qF, qG, qH, qI, qJ, qK, qL, qM, qN, qO => if x19 = true then (some true) else ((sL_copied.f qA qB qC qD qE qF qG qH qI qJ qK qL qM qN qO).bind fun bt1342 => ((code_Encode.f k bt1342.1 bt1342.2.1 bt1342.2.2.1 bt1342.2.2.2.1 bt1342.2.2.2.2.1 bt1342.2.2.2.2.2.1 bt1342.2.2.2.2.2.2.1 bt1342.2.2.2.2.2.2.2.1 bt1342.2.2.2.2.2.2.2.2.1 bt1342.2.2.2.2.2.2.2.2.2.1 bt1342.2.2.2.2.2.2.2.2.2.2.1 bt1342.2.2.2.2.2.2.2.2.2.2.2.1 bt1342.2.2.2.2.2.2.2.2.2.2.2.2.1 bt1342.2.2.2.2.2.2.2.2.2.2.2.2.2.1 bt1342.2.2.2.2.2.2.2.2.2.2.2.2.2.2).bind fun bt1371 => (if bt1371.2 = 0 then ((code_Decode.f k bt1371.1).bind fun bt1375 => (if (!(bt1375.2.2.2.2.2.2.2.2.2.2.2.2.2.2.2.1 == 0) || (!(bt1375.2.2.2.2.2.2.2.2.2.2.2.2.2.2.2.2 == 0))) = true then (some false) else ((code_Same.f k qA qB qC qD qE qF qG qH qI qJ qK qL qM qN qO bt1375.1 bt1375.2.1 bt1375.2.2.1 bt1375.2.2.2.1 bt1375.2.2.2.2.1 bt1375.2.2.2.2.2.1 bt1375.2.2.2.2.2.2.1 bt1375.2.2.2.2.2.2.2.1 bt1375.2.2.2.2.2.2.2.2.1 bt1375.2.2.2.2.2.2.2.2.2.1 bt1375.2.2.2.2.2.2.2.2.2.2.1 bt1375.2.2.2.2.2.2.2.2.2.2.2.1 bt1375.2.2.2.2.2.2.2.2.2.2.2.2.1 bt1375.2.2.2.2.2.2.2.2.2.2.2.2.2.1 bt1375.2.2.2.2.2.2.2.2.2.2.2.2.2.2.1).bind fun qe => (if qe = true then (sL_CodeBack.j1 k x1) else (some false))))) else (sL_CodeBack.j1 k x1))))
def sL_CodeBack.j1 : Nat → List Int → Option (Bool)
 | 0, _ => none
 | k + 1, x1 => (code_Decode.f k x1).bind fun bt1409 => (if (!(bt1409.2.2.2.2.2.2.2.2.2.2.2.2.2.2.2.1 == 0) || (!(bt1409.2.2.2.2.2.2.2.2.2.2.2.2.2.2.2.2 == 0))) = true then (if bt1409.2.2.2.2.2.2.2.2.2.2.2.2.2.2.2.1 = 170 then (if bt1409.2.2.2.2.2.2.2.2.2.2.2.2.2.2.2.2 ≥ 0 then (some (decide (bt1409.2.2.2.2.2.2.2.2.2.2.2.2.2.2.2.2 ≤ (x1.length : Int)))) else (some false)) else (some false)) else ((code_Encode.f k bt1409.1 bt1409.2.1 bt1409.2.2.1 bt1409.2.2.2.1 bt1409.2.2.2.2.1 bt1409.2.2.2.2.2.1 bt1409.2.2.2.2.2.2.1 bt1409.2.2.2.2.2.2.2.1 bt1409.2.2.2.2.2.2.2.2.1 bt1409.2.2.2.2.2.2.2.2.2.1 bt1409.2.2.2.2.2.2.2.2.2.2.1 bt1409.2.2.2.2.2.2.2.2.2.2.2.1 bt1409.2.2.2.2.2.2.2.2.2.2.2.2.1 bt1409.2.2.2.2.2.2.2.2.2.2.2.2.2.1 bt1409.2.2.2.2.2.2.2.2.2.2.2.2.2.2.1).bind fun bt1442 => (if bt1442.2 = 0 then ((bytes_Equal.f bt1442.1 x1).bind fun qf => (some qf)) else (some false))))
end
def sL_CodeBack.f (k : Nat) (qU : Int) (qV : Int) (qW : List (S48)) (qX : Int) (qY : Int) (qZ : List (S63)) (qa : List Int) (qb : Int) (qc : Int) (qd : List (S63)) (qP : List Int) (qQ : Int) (qR : Int) (qS : List (S63)) (qT : List Int) (l1 : List Int) : Option (Bool) := (sL_works.f k).bind fun qg => (if qg = true then ((sL_long.f qU qV qW qX qY qZ qa qb qc qd qP qQ qR qS qT).bind fun qh => (if qh = true then (sL_CodeBack.j0 k l1 true qU qV qW qX qY qZ qa qb qc qd qP qQ qR qS qT) else (sL_CodeBack.j0 k l1 (decide (20000 < l1.length)) qU qV qW qX qY qZ qa qb qc qd qP qQ qR qS qT))) else (some false))
theorem sL_CodeBack.mono_l : ∀ k, (∀ y0 y1 y2 y3 y4 y5 y6 y7 y8 y9 y10 y11 y12 y13 y14 y15 y16, LeO (sL_CodeBack.j0 k y0 y1 y2 y3 y4 y5 y6 y7 y8 y9 y10 y11 y12 y13 y14 y15 y16) (sL_CodeBack.j0 (k + 1) y0 y1 y2 y3 y4 y5 y6 y7 y8 y9 y10 y11 y12 y13 y14 y15 y16)) ∧ (∀ y0, LeO (sL_CodeBack.j1 k y0) (sL_CodeBack.j1 (k + 1) y0))
 | 0 => ⟨fun _ _ _ _ _ _ _ _ _ _ _ _ _ _ _ _ _ r h => by simp [sL_CodeBack.j0] at h, fun _ r h => by simp [sL_CodeBack.j1] at h⟩
 | k + 1 => by
  obtain ⟨ih0, ih1⟩ := sL_CodeBack.mono_l k
  refine ⟨?_, ?_⟩
  ·intro y0 y1 y2 y3 y4 y5 y6 y7 y8 y9 y10 y11 y12 y13 y14 y15 y16
   unfold sL_CodeBack.j0
   have im0 := @code_Decode.mono; have im1 := @code_Encode.mono; have im2 := @code_Same.mono; have im3 := @sL_works.mono; exact zM
  ·intro y0
   unfold sL_CodeBack.j1
   have im0 := @code_Decode.mono; have im1 := @code_Encode.mono; have im2 := @code_Same.mono; have im3 := @sL_works.mono; exact zM
theorem sL_CodeBack.mono : ∀ a0 a1 a2 a3 a4 a5 a6 a7 a8 a9 a10 a11 a12 a13 a14 a15 k, LeO (sL_CodeBack.f k a0 a1 a2 a3 a4 a5 a6 a7 a8 a9 a10 a11 a12 a13 a14 a15) (sL_CodeBack.f (k + 1) a0 a1 a2 a3 a4 a5 a6 a7 a8 a9 a10 a11 a12 a13 a14 a15) := by
 intro a0 a1 a2 a3 a4 a5 a6 a7 a8 a9 a10 a11 a12 a13 a14 a15 k
 obtain ⟨ih0, ih1⟩ := sL_CodeBack.mono_l k
 unfold sL_CodeBack.f
 have im0 := @code_Decode.mono; have im1 := @code_Encode.mono; have im2 := @code_Same.mono; have im3 := @sL_works.mono; exact zM
end Go.Proofs.Ytccbdcbeinkjgaa.XA
end
section
namespace Go.Proofs.Ytccbdcbeinkjgaa.SaidCodeBack
open Go.RowKit Go.Proofs.YtccbdcbeinkjgaaW.PrintWords Go.Proofs.YtccbdcbeinkjgaaW.PrintLast Go.Proofs.Ytccbdcbeinkjgaa.Opn Go.Proofs.Ytccbdcbeinkjgaa.XA
def wfS48 (x : S48) : Prop := (Lit.int .i64 x.f0).wf = true ∧ (Lit.int .i64 x.f1).wf = true
def wfS63 (x : S63) : Prop := (Lit.int .i64 x.f0).wf = true ∧ (Lit.int .i64 x.f1).wf = true ∧ (Lit.int .i64 x.f2).wf = true ∧ (Lit.int .i64 x.f3).wf = true ∧ (Lit.int .i64 x.f4).wf = true
def wfS26 (x : S26) : Prop := (Lit.int .i64 x.f0).wf = true ∧ (Lit.int .i64 x.f1).wf = true ∧ (x.f2.length * 40 ≤ 140737488351232 ∧ x.f2.length ≤ 9223372036854775807 ∧ ∀ y ∈ x.f2, wfS63 y) ∧ (x.f3.length * 8 ≤ 140737488351232 ∧ x.f3.length ≤ 9223372036854775807 ∧ ∀ y ∈ x.f3, (Lit.int .i64 y).wf = true)
def wfS28 (x : S28) : Prop := (Lit.int .i64 x.f0).wf = true ∧ (Lit.int .i64 x.f1).wf = true ∧ (x.f2.length * 16 ≤ 140737488351232 ∧ x.f2.length ≤ 9223372036854775807 ∧ ∀ y ∈ x.f2, wfS48 y) ∧ wfS26 x.f3 ∧ wfS26 x.f4 ∧ wfS26 x.f5
def Pure : Prop := ∀ (x0 : S28) (x1 : List Int), wfS28 x0 → (x1.length * 1 ≤ 140737488351232 ∧ x1.length ≤ 9223372036854775807 ∧ ∀ y ∈ x1, (Lit.int .u8 y).wf = true) → ∃ k, sL_CodeBack.f k x0.f0 x0.f1 x0.f2 x0.f3.f0 x0.f3.f1 x0.f3.f2 x0.f3.f3 x0.f4.f0 x0.f4.f1 x0.f4.f2 x0.f4.f3 x0.f5.f0 x0.f5.f1 x0.f5.f2 x0.f5.f3 x1 = some true
end Go.Proofs.Ytccbdcbeinkjgaa.SaidCodeBack
end
section
namespace Go.Proofs.Ytccbdcbeinkjgaa.PlainDec
open Go.RowKit Go.Proofs.YtccbdcbeinkjgaaW.PrintWords Go.Proofs.YtccbdcbeinkjgaaW.PrintLast Go.Proofs.YtccbdcbeinkjgaaW.PrintMore Go.Proofs.Ytccbdcbeinkjgaa.XA Go.Proofs.Ytccbdcbeinkjgaa.Evs Go.Proofs.Ytccbdcbeinkjgaa.PlainCode Go.Proofs.Ytccbdcbeinkjgaa.PlainChk Go.Proofs.Ytccbdcbeinkjgaa.PlainEnc Go.Proofs.Ytccbdcbeinkjgaa.PlainRef Go.Proofs.Ytccbdcbeinkjgaa.PlainInj
structure Src (s : List Int) : Prop where
  b : Bytes s
  l : s.length ≤ 1099511627775
def RdS {α : Type} (s : List Int) (n : Nat) (w0 : Bool) (tok : α → List Int) (V : α → Prop) (x : α) (m : Nat) (w : Bool) : Prop :=
  (n ≤ m ∧ m ≤ s.length) ∧ ((w0 = true ∧ w = true ∧ m = n) ∨ (w0 = false ∧ w = false ∧ V x ∧ s.drop n = tok x ++ s.drop m) ∨ (w0 = false ∧ w = true ∧ ∀ y r, V y → (s.drop n).take (m + 1 - n) ≠ (tok y ++ r).take (m + 1 - n)))
def Pre {α : Type} (tok : α → List Int) (V : α → Prop) : Prop := ∀ x y r r', V x → V y → tok x ++ r = tok y ++ r' → x = y ∧ r = r'
theorem begins {L R : List Int} {K : Nat} (h : L.take K = R.take K) : ∃ t, R = L.take K ++ t ∧ (t = [] ∨ K ≤ L.length) := by
  refine ⟨R.drop K, ?_, ?_⟩
  · rw [h, List.take_append_drop]
  · by_cases hk : K ≤ L.length
    · exact .inr hk
    · refine .inl (List.drop_eq_nil_of_le ?_)
      have e := congrArg List.length h
      rw [List.length_take, List.length_take] at e
      omega
section
variable {α β : Type} {s : List Int} {n m p : Nat} {w0 w1 w2 : Bool} {tok1 : α → List Int} {V1 : α → Prop} {x : α} {y : β}
theorem RdS.le (h : RdS s n w0 tok1 V1 x m w1) : m ≤ s.length := h.1.2
theorem RdS.dead (h : RdS s n true tok1 V1 x m w1) : w1 = true ∧ m = n := by
  obtain ⟨_, h | h | h⟩ := h
  · exact h.2
  · exact absurd h.1 (by decide)
  · exact absurd h.1 (by decide)
theorem RdS.live (h : RdS s n w0 tok1 V1 x m false) : w0 = false ∧ V1 x ∧ s.drop n = tok1 x ++ s.drop m := by
  obtain ⟨_, h | h | h⟩ := h
  · exact absurd h.2.1 (by decide)
  · exact ⟨h.1, h.2.2⟩
  · exact absurd h.2.1 (by decide)
theorem RdS.no (h : RdS s n false tok1 V1 x m true) : ∀ y r, V1 y → (s.drop n).take (m + 1 - n) ≠ (tok1 y ++ r).take (m + 1 - n) := by
  obtain ⟨_, h | h | h⟩ := h
  · exact absurd h.1 (by decide)
  · exact absurd h.2.1 (by decide)
  · exact h.2.2
theorem RdS.stop (hn : n ≤ s.length) : RdS s n true tok1 V1 x n true := ⟨⟨Nat.le_refl _, hn⟩, .inl ⟨rfl, rfl, rfl⟩⟩
theorem RdS.any {z : α} (h : RdS s n w0 tok1 V1 x m true) : RdS s n w0 tok1 V1 z m true := by
  obtain ⟨hm, h | h | h⟩ := h
  · exact ⟨hm, .inl h⟩
  · exact absurd h.2.1 (by decide)
  · exact ⟨hm, .inr (.inr h)⟩
theorem no_seq {tok2 : α → β → List Int} {V2 : α → β → Prop} (hp : Pre tok1 V1) (hm : n ≤ m ∧ m ≤ s.length) (hq : m ≤ p ∧ p ≤ s.length) (v : V1 x) (e : s.drop n = tok1 x ++ s.drop m)
    (no2 : ∀ z r, V2 x z → (s.drop m).take (p + 1 - m) ≠ (tok2 x z ++ r).take (p + 1 - m)) (a : α) (z : β) (r : List Int) (va : V1 a) (vz : V2 a z) : (s.drop n).take (p + 1 - n) ≠ (tok1 a ++ (tok2 a z ++ r)).take (p + 1 - n) := by
  intro eq
  have e1 := congrArg List.length e
  rw [List.length_append, List.length_drop, List.length_drop] at e1
  obtain ⟨t, ht, hk⟩ := begins eq
  rw [e, List.take_append, List.take_of_length_le (by omega), List.append_assoc] at ht
  obtain ⟨rfl, er⟩ := hp x a _ _ v va ht.symm
  refine no2 z r vz ?_
  rw [← er, show p + 1 - n - (tok1 x).length = p + 1 - m by omega]
  rcases hk with rfl | hk
  · rw [List.append_nil, List.take_take, Nat.min_self]
  · rw [List.length_drop] at hk
    rw [List.take_left' (by rw [List.length_take, List.length_drop]; omega)]
theorem RdS.seq {tok2 : α → β → List Int} {V2 : α → β → Prop} (hp : Pre tok1 V1) (h1 : RdS s n w0 tok1 V1 x m w1) (h2 : RdS s m w1 (tok2 x) (V2 x) y p w2) :
    RdS s n w0 (fun q : α × β => tok1 q.1 ++ tok2 q.1 q.2) (fun q => V1 q.1 ∧ V2 q.1 q.2) (x, y) p w2 := by
  refine ⟨⟨Nat.le_trans h1.1.1 h2.1.1, h2.1.2⟩, ?_⟩
  obtain ⟨hm, ⟨rfl, rfl, rfl⟩ | ⟨rfl, rfl, v, e⟩ | ⟨rfl, rfl, no⟩⟩ := h1
  · obtain ⟨e1, e2⟩ := h2.dead
    exact .inl ⟨rfl, e1, e2⟩
  · obtain ⟨hq, h2 | ⟨_, rfl, v2, e2⟩ | ⟨_, rfl, no2⟩⟩ := h2
    · exact absurd h2.1 (by decide)
    · exact .inr (.inl ⟨rfl, rfl, ⟨v, v2⟩, by rw [e, e2, List.append_assoc]⟩)
    · refine .inr (.inr ⟨rfl, rfl, fun q r hv => ?_⟩)
      rw [List.append_assoc]
      exact no_seq hp hm hq v e no2 q.1 q.2 r hv.1 hv.2
  · obtain ⟨e1, rfl⟩ := h2.dead
    refine .inr (.inr ⟨rfl, e1, fun q r hv => ?_⟩)
    rw [List.append_assoc]
    exact no q.1 _ hv.1
theorem RdS.map {tok' : β → List Int} {V' : β → Prop} (f : α → β) (h : RdS s n w0 tok1 V1 x m w1) (hv : ∀ x, V1 x → V' (f x) ∧ tok' (f x) = tok1 x) (hs : ∀ y, V' y → ∃ x, V1 x ∧ tok1 x = tok' y ∧ f x = y) (hz : w1 = false → V1 x → y = f x) :
    RdS s n w0 tok' V' y m w1 := by
  obtain ⟨hm, h | ⟨rfl, rfl, v, e⟩ | ⟨rfl, rfl, no⟩⟩ := h
  · exact ⟨hm, .inl h⟩
  · obtain rfl := hz rfl v
    obtain ⟨v', e'⟩ := hv x v
    exact ⟨hm, .inr (.inl ⟨rfl, rfl, v', by rw [e, e']⟩)⟩
  · refine ⟨hm, .inr (.inr ⟨rfl, rfl, fun z r hv' => ?_⟩)⟩
    obtain ⟨x, v, e, _⟩ := hs z hv'
    rw [← e]
    exact no x r v
theorem Pre.map {tok' : β → List Int} {V' : β → Prop} (f : α → β) (h : Pre tok1 V1) (hs : ∀ y, V' y → ∃ x, V1 x ∧ tok1 x = tok' y ∧ f x = y) : Pre tok' V' := by
  intro a b r r' va vb e
  obtain ⟨xa, v1, e1, rfl⟩ := hs a va
  obtain ⟨xb, v2, e2, rfl⟩ := hs b vb
  rw [← e1, ← e2] at e
  obtain ⟨rfl, hr⟩ := h _ _ _ _ v1 v2 e
  exact ⟨rfl, hr⟩
theorem Pre.seq {tok2 : α → β → List Int} {V2 : α → β → Prop} (h1 : Pre tok1 V1) (h2 : ∀ x, V1 x → Pre (tok2 x) (V2 x)) : Pre (fun q : α × β => tok1 q.1 ++ tok2 q.1 q.2) (fun q => V1 q.1 ∧ V2 q.1 q.2) := by
  rintro ⟨a1, a2⟩ ⟨b1, b2⟩ r r' ⟨va1, va2⟩ ⟨vb1, vb2⟩ e
  simp only [List.append_assoc] at e va1 va2 vb1 vb2
  obtain ⟨rfl, e1⟩ := h1 _ _ _ _ va1 vb1 e
  obtain ⟨rfl, e2⟩ := h2 _ va1 _ _ _ _ va2 vb2 e1
  exact ⟨rfl, e2⟩
end
theorem pre_one {V : Int → Prop} : Pre (fun x : Int => [x]) V := by
  intro x y r r' _ _ e
  simp only [List.cons_append, List.nil_append, List.cons.injEq] at e
  exact e
section
variable {s : List Int} {n : Nat}
theorem byte_dead (good : Int → Bool) (s : List Int) (a : Int) : byteF good s a true = some (0, a, true) := by unfold byteF; rw [if_pos rfl]
theorem byte_any (hs : Src s) (good : Int → Bool) (hn : n ≤ s.length) (w0 : Bool) : ∃ x m w, byteF good s (n : Int) w0 = some (x, ((m : Nat) : Int), w) ∧ (0 ≤ x ∧ x < 256) ∧ RdS s n w0 (fun x => [x]) (fun x => good x = true ∧ 0 ≤ x ∧ x < 256) x m w := by
  cases w0
  · by_cases h : n = s.length
    · subst h
      refine ⟨0, s.length, true, ?_, by decide, ⟨Nat.le_refl _, hn⟩, .inr (.inr ⟨rfl, rfl, fun y r _ e => ?_⟩)⟩
      · unfold byteF
        rw [if_neg (by decide), if_pos rfl]
      · rw [List.drop_length, show s.length + 1 - s.length = 1 by omega] at e
        cases e
    · have hlt : n < s.length := by omega
      have hb := hs.b s[n] (List.getElem_mem hlt)
      have hl := hs.l
      have hr := rd_at hlt
      have key : byteF good s (n : Int) false = if good s[n] = true then some (s[n], (n : Int) + 1, false) else some (0, (n : Int), true) := by
        unfold byteF
        rw [if_neg (by decide), if_neg (by omega), if_pos (by rw [hr]; omega), hr]
      by_cases hg : good s[n] = true
      · rw [if_pos hg] at key
        exact ⟨s[n], n + 1, false, key, hb, ⟨by omega, hlt⟩, .inr (.inl ⟨rfl, rfl, ⟨hg, hb⟩, List.drop_eq_getElem_cons hlt⟩)⟩
      · rw [if_neg hg] at key
        refine ⟨0, n, true, key, by decide, ⟨Nat.le_refl _, hn⟩, .inr (.inr ⟨rfl, rfl, fun y r hy e => ?_⟩)⟩
        rw [List.drop_eq_getElem_cons hlt, show n + 1 - n = 1 by omega] at e
        simp only [List.cons_append, List.nil_append, List.take_succ_cons, List.cons.injEq] at e
        rw [e.1] at hg
        exact hg hy.1
  · exact ⟨0, n, true, byte_dead good s n, by decide, RdS.stop hn⟩
def Wi (lo hi x : Int) : Prop := (lo ≤ x ∧ x ≤ hi) ∧ 0 ≤ x ∧ x < 256
theorem within_any (hs : Src s) (hn : n ≤ s.length) (w0 : Bool) (lo hi : Int) : ∃ x m w, cR_within.f s (n : Int) w0 lo hi = some (x, ((m : Nat) : Int), w) ∧ (0 ≤ x ∧ x < 256) ∧ RdS s n w0 (fun x => [x]) (Wi lo hi) x m w := by
  obtain ⟨x, m, w, e, hx, r⟩ := byte_any hs (fun x => decide (lo ≤ x) && decide (x ≤ hi)) hn w0
  refine ⟨x, m, w, e, hx, r.map id (fun y v => ⟨?_, rfl⟩) (fun y v => ⟨y, ?_, rfl, rfl⟩) (fun _ _ => rfl)⟩
  · simp only [Bool.and_eq_true, decide_eq_true_eq] at v
    exact v
  · simp only [Bool.and_eq_true, decide_eq_true_eq]
    exact v
theorem signed_any (hs : Src s) (hn : n ≤ s.length) (w0 : Bool) : ∃ x m w, cR_signed.f s (n : Int) w0 = some (x, ((m : Nat) : Int), w) ∧ RdS s n w0 (fun x => [x % 256]) (fun x => -16 ≤ x ∧ x ≤ 16) x m w := by
  obtain ⟨x, m, w, e, hx, r⟩ := byte_any hs (fun x => decide (x ≤ 16) || decide (240 ≤ x)) hn w0
  refine ⟨s8 x, m, w, ?_, r.map s8 (fun y v => ?_) (fun y v => ⟨y % 256, ?_, rfl, ?_⟩) (fun _ _ => rfl)⟩
  · unfold cR_signed.f
    rw [e, Option.bind_some]
  · simp only [Bool.or_eq_true, decide_eq_true_eq] at v
    unfold s8
    refine ⟨by split <;> omega, ?_⟩
    congr 1
    split <;> omega
  · simp only [Bool.or_eq_true, decide_eq_true_eq]
    omega
  · unfold s8
    split <;> omega
theorem mayC_rng {op c : Int} (h : mayC op c = true) : -512 ≤ c ∧ c ≤ 512 := by
  unfold mayC at h
  split at h
  · simp only [Bool.and_eq_true, decide_eq_true_eq] at h; omega
  · split at h
    · simp only [Bool.and_eq_true, decide_eq_true_eq] at h; omega
    · simp only [beq_iff_eq] at h; omega
theorem const_any (hs : Src s) (hn : n ≤ s.length) (w0 : Bool) (op : Int) : ∃ x m w, cR_constant.f s (n : Int) w0 op = some (x, ((m : Nat) : Int), w) ∧ RdS s n w0 two (fun c => mayC op c = true) x m w := by
  obtain ⟨h, m1, w1, e1, h1, r1⟩ := byte_any hs (anyLow op) hn w0
  obtain ⟨l, m2, w2, e2, h2, r2⟩ := byte_any hs (fun x => mayC op (both16 h x)) r1.le w1
  refine ⟨both16 h l, m2, w2, ?_, (RdS.seq (tok2 := fun _ x => [x]) (V2 := fun h x => mayC op (both16 h x) = true ∧ 0 ≤ x ∧ x < 256) pre_one r1 r2).map (fun q => both16 q.1 q.2) (fun q v => ⟨v.2.1, ?_⟩) (fun c v => ⟨((c / 256) % 256, c % 256), ⟨⟨?_, by omega⟩, ?_, by omega⟩, rfl, ?_⟩) (fun _ _ => rfl)⟩
  · unfold cR_constant.f
    rw [e1, Option.bind_some, e2, Option.bind_some]
  · obtain ⟨⟨_, a0, a1⟩, _, b0, b1⟩ := v
    skip
    unfold two both16
    simp only [List.cons_append, List.nil_append, List.cons.injEq, and_true]
    split <;> omega
  · have hr := mayC_rng v
    refine List.any_eq_true.2 ⟨(c % 256).toNat, List.mem_range.2 (by omega), ?_⟩
    have e : both16 ((c / 256) % 256) (((c % 256).toNat : Nat) : Int) = c := by unfold both16; split <;> omega
    simp only [e]
    exact v
  · have hr := mayC_rng v
    have e : both16 ((c / 256) % 256) (c % 256) = c := by unfold both16; split <;> omega
    simp only [e]
    exact v
  · have hr := mayC_rng v
    simp only
    unfold both16
    split <;> omega
theorem mayC_iff (op c : Int) : mayC op c = true ↔ ConstP op c := by
  unfold mayC ConstP
  by_cases h1 : op = 5 ∨ op = 6
  · rw [if_pos h1]
    simp only [Bool.and_eq_true, decide_eq_true_eq, Bool.not_eq_true', beq_eq_false_iff_ne, ne_eq]
    omega
  · rw [if_neg h1]
    by_cases h2 : op = 7 ∨ op = 8
    · rw [if_pos h2]
      simp only [Bool.and_eq_true, decide_eq_true_eq]
      omega
    · rw [if_neg h2]
      simp only [beq_iff_eq]
      omega
end
section
variable {α : Type} {g : α → List Int} {P : α → Prop} {s : List Int} {n m p k : Nat} {w0 w1 w2 : Bool} {x : α} {xs : List α}
def Ls (P : α → Prop) (k : Nat) (c : List α) : Prop := c.length = k ∧ ∀ i ∈ c, P i
theorem RdS.nil (hn : n ≤ s.length) : RdS s n w0 (fun c : List α => c.flatMap g) (Ls P 0) [] n w0 := by
  cases w0
  · exact ⟨⟨Nat.le_refl _, hn⟩, .inr (.inl ⟨rfl, rfl, ⟨rfl, fun i hi => by cases hi⟩, rfl⟩)⟩
  · exact RdS.stop hn
theorem RdS.cons (hp : Pre g P) (h1 : RdS s n w0 g P x m w1) (h2 : RdS s m w1 (fun c => c.flatMap g) (Ls P k) xs p w2) : RdS s n w0 (fun c => c.flatMap g) (Ls P (k + 1)) (x :: xs) p w2 := by
  refine (RdS.seq (tok2 := fun _ c => c.flatMap g) (V2 := fun _ => Ls P k) hp h1 h2).map (fun q => q.1 :: q.2) (fun q v => ⟨⟨by rw [List.length_cons, v.2.1], fun i hi => ?_⟩, rfl⟩) (fun c v => ?_) (fun _ _ => rfl)
  · rcases List.mem_cons.1 hi with h | h
    · rw [h]; exact v.1
    · exact v.2.2 i h
  · cases c with
    | nil => exact absurd v.1 (by simp)
    | cons a c => exact ⟨(a, c), ⟨v.2 a List.mem_cons_self, by simpa using v.1, fun i hi => v.2 i (List.mem_cons_of_mem _ hi)⟩, rfl, rfl⟩
theorem pre_ls {d : Nat} (hd : ∀ x, (g x).length = d) (hg : ∀ a b, P a → P b → g a = g b → a = b) : Pre (fun c : List α => c.flatMap g) (Ls P k) :=
  fun x y r r' vx vy e => flat_inj hd hg x y r r' (by rw [vx.1, vy.1]) vx.2 vy.2 e
theorem pre_fix {d : Nat} (hd : ∀ x, (g x).length = d) (hg : ∀ a b, P a → P b → g a = g b → a = b) : Pre g P := fun x y r r' vx vy e => by
  obtain ⟨h1, h2⟩ := List.append_inj e (by rw [hd, hd])
  exact ⟨hg _ _ vx vy h1, h2⟩
end
theorem mayb_ok {regs : Int} (hr : regs ≤ 256) {i : S63} (h : mayb regs i = true) : OkI i := by
  have hc := may_const h
  have hm := of_decide_eq_true h
  unfold MayP at hm
  obtain ⟨m0, m1, m2, m3, m4, _⟩ := hm
  have hb : OkB i.f3 := by
    unfold OkB
    by_cases e : i.f0 = 3 ∨ i.f0 = 4
    · have := m3 e; omega
    · have := m4 e; omega
  exact ⟨by unfold OkB; omega, by unfold OkB; omega, by unfold OkB; omega, hb, hc.1, hc.2⟩
theorem pre_ib {regs : Int} (hr : regs ≤ 256) : Pre ib (fun i => mayb regs i = true) := pre_fix (d := 6) (fun _ => rfl) (fun a b ha hb => ib_inj a b (mayb_ok hr ha) (mayb_ok hr hb))
theorem pre_ibs {regs : Int} (hr : regs ≤ 256) {k : Nat} : Pre (fun c : List S63 => c.flatMap ib) (Ls (fun i => mayb regs i = true) k) := pre_ls (d := 6) (fun _ => rfl) (fun a b ha hb => ib_inj a b (mayb_ok hr ha) (mayb_ok hr hb))
section
variable {s : List Int} {n : Nat}
theorem instr_any (hs : Src s) (hn : n ≤ s.length) (w0 : Bool) {regs : Int} (h0 : 0 ≤ regs) (h1 : regs ≤ 255) : ∃ (op t a b c : Int) (n1 n2 n3 n4 n5 : Nat) (w1 w2 w3 w4 w5 : Bool),
    cR_within.f s (n : Int) w0 1 8 = some (op, (n1 : Int), w1) ∧ cR_within.f s (n1 : Int) w1 0 (wrap64 (regs - 1)) = some (t, (n2 : Int), w2) ∧ cR_within.f s (n2 : Int) w2 0 (wrap64 (regs - 1)) = some (a, (n3 : Int), w3) ∧
    cR_within.f s (n3 : Int) w3 0 (if op = 3 ∨ op = 4 then wrap64 (regs - 1) else 0) = some (b, (n4 : Int), w4) ∧ cR_constant.f s (n4 : Int) w4 op = some (c, (n5 : Int), w5) ∧
    RdS s n w0 ib (fun i => mayb regs i = true) ⟨op, t, a, if op = 3 ∨ op = 4 then b else 0, c⟩ n5 w5 := by
  have hw : wrap64 (regs - 1) = regs - 1 := by unfold wrap64; omega
  rw [hw]
  obtain ⟨op, n1, w1, e1, _, r1⟩ := within_any hs hn w0 1 8
  obtain ⟨t, n2, w2, e2, _, r2⟩ := within_any hs r1.le w1 0 (regs - 1)
  obtain ⟨a, n3, w3, e3, _, r3⟩ := within_any hs r2.le w2 0 (regs - 1)
  obtain ⟨b, n4, w4, e4, _, r4⟩ := within_any hs r3.le w3 0 (if op = 3 ∨ op = 4 then regs - 1 else 0)
  obtain ⟨c, n5, w5, e5, r5⟩ := const_any hs r4.le w4 op
  refine ⟨op, t, a, b, c, n1, n2, n3, n4, n5, w1, w2, w3, w4, w5, e1, e2, e3, e4, e5, ?_⟩
  have p1 : Pre (fun x : Int => [x]) (Wi 1 8) := pre_one
  have s2 := RdS.seq (tok2 := fun _ x => [x]) (V2 := fun _ => Wi 0 (regs - 1)) p1 r1 r2
  have p2 := Pre.seq (tok2 := fun _ x => [x]) (V2 := fun _ => Wi 0 (regs - 1)) p1 (fun _ _ => pre_one)
  have s3 := RdS.seq (tok2 := fun _ x => [x]) (V2 := fun _ => Wi 0 (regs - 1)) p2 s2 r3
  have p3 := Pre.seq (tok2 := fun _ x => [x]) (V2 := fun _ => Wi 0 (regs - 1)) p2 (fun _ _ => pre_one)
  have s4 := RdS.seq (tok2 := fun _ x => [x]) (V2 := fun q => Wi 0 (if q.1.1 = 3 ∨ q.1.1 = 4 then regs - 1 else 0)) p3 s3 r4
  have p4 := Pre.seq (tok2 := fun _ x => [x]) (V2 := fun q => Wi 0 (if q.1.1 = 3 ∨ q.1.1 = 4 then regs - 1 else 0)) p3 (fun _ _ => pre_one)
  have s5 := RdS.seq (tok2 := fun _ => two) (V2 := fun q c => mayC q.1.1.1 c = true) p4 s4 r5
  refine s5.map (fun q => (⟨q.1.1.1.1, q.1.1.1.2, q.1.1.2, q.1.2, q.2⟩ : S63)) (fun q v => ?_) (fun i v => ?_) (fun _ _ => ?_)
  · obtain ⟨⟨⟨⟨v1, v2⟩, v3⟩, v4⟩, v5⟩ := q
    obtain ⟨⟨⟨⟨a1, a2⟩, a3⟩, a4⟩, a5⟩ := v
    simp only at a1 a2 a3 a4 a5 ⊢
    have b4 := a4
    unfold Wi at a1 a2 a3 a4
    refine ⟨decide_eq_true (p := MayP v1 v2 v3 v4 v5 regs) ?_, ?_⟩
    · refine ⟨a1.1, by omega, by omega, fun h => ?_, fun h => ?_, (mayC_iff _ _).1 a5⟩
      · have h' : v1 = 3 ∨ v1 = 4 := h
        rw [if_pos h'] at a4
        show 0 ≤ v4 ∧ v4 < regs
        omega
      · have h' : ¬ (v1 = 3 ∨ v1 = 4) := h
        rw [if_neg h'] at a4
        show v4 = 0
        omega
    · show [v1 % 256, v2 % 256, v3 % 256, v4 % 256] ++ two v5 = ((([v1] ++ [v2]) ++ [v3]) ++ [v4]) ++ two v5
      rw [show v1 % 256 = v1 by omega, show v2 % 256 = v2 by omega, show v3 % 256 = v3 by omega, show v4 % 256 = v4 by omega]
      rfl
  · obtain ⟨i0, i1, i2, i3, i4⟩ := i
    have hm : MayP i0 i1 i2 i3 i4 regs := of_decide_eq_true v
    unfold MayP at hm
    obtain ⟨m0, m1, m2, m3, m4, m5⟩ := hm
    have b4 : Wi 0 (if i0 = 3 ∨ i0 = 4 then regs - 1 else 0) i3 := by
      unfold Wi
      by_cases e : i0 = 3 ∨ i0 = 4
      · rw [if_pos e]; have := m3 e; omega
      · rw [if_neg e]; have := m4 e; omega
    refine ⟨((((i0, i1), i2), i3), i4), ⟨⟨⟨⟨show (1 ≤ i0 ∧ i0 ≤ 8) ∧ 0 ≤ i0 ∧ i0 < 256 by omega, show (0 ≤ i1 ∧ i1 ≤ regs - 1) ∧ 0 ≤ i1 ∧ i1 < 256 by omega⟩, show (0 ≤ i2 ∧ i2 ≤ regs - 1) ∧ 0 ≤ i2 ∧ i2 < 256 by omega⟩, b4⟩, (mayC_iff _ _).2 m5⟩, ?_, rfl⟩
    unfold Wi at b4
    show ((([i0] ++ [i1]) ++ [i2]) ++ [i3]) ++ two i4 = [i0 % 256, i1 % 256, i2 % 256, i3 % 256] ++ two i4
    rw [show i0 % 256 = i0 by omega, show i1 % 256 = i1 by omega, show i2 % 256 = i2 by omega, show i3 % 256 = i3 by omega]
    rfl
  · obtain ⟨⟨⟨⟨a1, a2⟩, a3⟩, a4⟩, a5⟩ := ‹_ ∧ _›
    simp only at a4 ⊢
    by_cases e : op = 3 ∨ op = 4
    · rw [if_pos e]
    · rw [if_neg e] at a4 ⊢
      unfold Wi at a4
      have : b = 0 := by omega
      rw [this]
end
section
variable {s : List Int}
theorem code_ev (hs : Src s) {ins regs cnt : Int} (h0 : 0 ≤ regs) (h1 : regs ≤ 255) (hc : cnt ≤ 65535) : ∀ (m j : Nat) (acc : List S63) (n : Nat) (w0 : Bool), n ≤ s.length → (j : Int) + m = cnt → acc.length + m < 3518437208883 →
    ∃ (c : List S63) (n' : Nat) (w' : Bool), RdS s n w0 (fun c => c.flatMap ib) (Ls (fun i => mayb regs i = true) m) c n' w' ∧
      ∀ v, Ev (fun k => cR_program.j2 k s (n' : Int) w' ins regs (acc ++ c)) v → Ev (fun k => cR_program.l0 k cnt (j : Int) s (n : Int) w0 ins regs acc) v := by
  intro m
  induction m with
  | zero =>
    intro j acc n w0 hn hj hl
    refine ⟨[], n, w0, RdS.nil hn, fun v h => ?_⟩
    rw [List.append_nil] at h
    refine Ev.step (fun k => ?_) h
    simp only [cR_program.l0]
    rw [if_neg (by omega)]
  | succ m ih =>
    intro j acc n w0 hn hj hl
    obtain ⟨op, t, a, b, c, n1, n2, n3, n4, n5, w1, w2, w3, w4, w5, e1, e2, e3, e4, e5, r⟩ := instr_any hs hn w0 h0 h1
    have run : ∀ v, Ev (fun k => if w5 = true then cR_program.j2 k s (n5 : Int) w5 ins regs acc else if acc.length < 3518437208883 then cR_program.l0 k cnt (wrap64 ((j : Int) + 1)) s (n5 : Int) w5 ins regs (acc ++ [(⟨op, t, a, if op = 3 ∨ op = 4 then b else 0, c⟩ : S63)]) else none) v → Ev (fun k => cR_program.l0 k cnt (j : Int) s (n : Int) w0 ins regs acc) v := by
      intro v h
      refine Ev.step (f := fun k => cR_program.j1 k cnt (j : Int) (decide (op = 3 ∨ op = 4)) s (n3 : Int) w3 ins regs acc op t a 0 0) (fun k => ?_) (Ev.step (fun k => ?_) h)
      · simp only [cR_program.l0]
        rw [if_pos (by omega), e1, Option.bind_some, e2, Option.bind_some, e3, Option.bind_some]
        by_cases q : op = 3
        · rw [if_pos q, decide_eq_true (.inl q)]
        · rw [if_neg q]
          congr 1
          by_cases q4 : op = 4
          · rw [decide_eq_true (.inr q4), q4]; rfl
          · rw [decide_eq_false (by omega)]; exact beq_eq_false_iff_ne.2 q4
      · simp only [cR_program.j1]
        by_cases q : op = 3 ∨ op = 4
        · rw [if_pos q] at e4
          rw [if_pos (decide_eq_true q), e4, Option.bind_some, e5, Option.bind_some, if_pos q]
        · rw [if_neg q] at e4
          rw [if_neg (by rw [decide_eq_false q]; decide), e4, Option.bind_some, e5, Option.bind_some, if_neg q]
    cases w5
    · obtain ⟨cs, n', w', r', h'⟩ := ih (j + 1) (acc ++ [(⟨op, t, a, if op = 3 ∨ op = 4 then b else 0, c⟩ : S63)]) n5 false r.le (by omega) (by rw [List.length_append, List.length_cons, List.length_nil]; omega)
      refine ⟨_ :: cs, n', w', RdS.cons (pre_ib (by omega)) r r', fun v h => run v (ev_neg (by decide) (ev_pos (by omega) ?_))⟩
      have hw : wrap64 ((j : Int) + 1) = ((j + 1 : Nat) : Int) := by unfold wrap64; omega
      rw [hw]
      refine h' v ?_
      rw [List.append_assoc]
      exact h
    · refine ⟨[], n5, true, (RdS.cons (k := m) (xs := []) (pre_ib (by omega)) r (RdS.stop r.le)).any, fun v h => run v (ev_pos rfl ?_)⟩
      rw [List.append_nil] at h
      exact h
theorem outs_ev (hs : Src s) {ins regs cnt : Int} {code : List S63} (h0 : 0 ≤ regs) (h1 : regs ≤ 255) (hc : cnt ≤ 65535) : ∀ (m j : Nat) (acc : List Int) (n : Nat) (w0 : Bool), n ≤ s.length → (j : Int) + m = cnt → acc.length + m < 17592186044416 →
    ∃ (o : List Int) (n' : Nat) (w' : Bool), RdS s n w0 (fun c => c.flatMap ob) (Ls (fun x => 0 ≤ x ∧ x < regs) m) o n' w' ∧
      Ev (fun k => cR_program.l1 k cnt (j : Int) s (n : Int) w0 ins regs code acc) (ins, regs, code, acc ++ o, (n' : Int), w') := by
  intro m
  induction m with
  | zero =>
    intro j acc n w0 hn hj hl
    refine ⟨[], n, w0, RdS.nil hn, ?_⟩
    rw [List.append_nil]
    refine Ev.step (fun k => ?_) (Ev.now _)
    simp only [cR_program.l1]
    rw [if_neg (by omega)]
  | succ m ih =>
    intro j acc n w0 hn hj hl
    have hw : wrap64 (regs - 1) = regs - 1 := by unfold wrap64; omega
    obtain ⟨x, n1, w1, e1, _, r1⟩ := within_any hs hn w0 0 (regs - 1)
    have r : RdS s n w0 ob (fun x => 0 ≤ x ∧ x < regs) x n1 w1 := r1.map id (fun y v => by unfold Wi at v; exact ⟨by show 0 ≤ y ∧ y < regs; omega, by show [y % 256] = [y]; rw [show y % 256 = y by omega]⟩) (fun y v => ⟨y, by unfold Wi; omega, by show [y] = [y % 256]; rw [show y % 256 = y by omega], rfl⟩) (fun _ _ => rfl)
    obtain ⟨o, n', w', r', h'⟩ := ih (j + 1) (acc ++ [x]) n1 w1 r.le (by omega) (by rw [List.length_append, List.length_cons, List.length_nil]; omega)
    refine ⟨x :: o, n', w', RdS.cons (pre_fix (d := 1) (fun _ => rfl) (fun a b ha hb h => ob_inj a b (by unfold OkB; omega) (by unfold OkB; omega) h)) r r', ?_⟩
    rw [show acc ++ x :: o = acc ++ [x] ++ o by rw [List.append_assoc]; rfl]
    refine Ev.step (fun k => ?_) h'
    simp only [cR_program.l1]
    rw [if_pos (by omega), hw, e1, Option.bind_some, if_pos (by omega), show wrap64 ((j : Int) + 1) = ((j + 1 : Nat) : Int) by unfold wrap64; omega]
theorem bad_none {regs : Int} : ∀ (l : List S63) (j : Nat), (∀ i ∈ l, mayb regs i = true) → bad regs l j = none
  | [], _, _ => rfl
  | i :: l, j, h => by
    rw [bad, if_pos (h i List.mem_cons_self)]
    exact bad_none l (j + 1) (fun q hq => h q (List.mem_cons_of_mem _ hq))
theorem wrong_of {p : S26} (hH : Head p.f0 p.f1 p.f2 p.f3) (hO : outsOk p.f1 p.f3 = true) (hI : ∀ i ∈ p.f2, mayb p.f1 i = true) : wrong p = false := by
  unfold wrong chk codeOf
  rw [if_pos hH, if_pos hO, List.drop_zero, bad_none _ _ hI]
end
section
variable {s : List Int} {n : Nat}
theorem and255 {x : Int} (h0 : 0 ≤ x) (h1 : x < 4294967296) : Go.bits .and .i64 x 255 = x % 256 := by
  have e32 : (2 : Int) ^ 32 = 4294967296 := by decide
  have h := bits_mask .i64 32 (by decide) (fun n a b => by rw [e32] at b; rw [i64_w]; unfold wrap64; omega) 8 (by decide) x h0 (by rw [e32]; exact h1)
  simpa using h
theorem prog_any (hs : Src s) (hn : n ≤ s.length) (w0 : Bool) : ∃ (p : S26) (n' : Nat) (w' : Bool), Ev (fun k => cR_program.f k s (n : Int) w0) (p.f0, p.f1, p.f2, p.f3, (n' : Int), w') ∧ RdS s n w0 (fun p : S26 => pb p.f0 p.f1 p.f2 p.f3) (fun p => wrong p = false) p n' w' := by
  obtain ⟨ins, n1, w1, e1, b1, r1⟩ := within_any hs hn w0 1 128
  obtain ⟨regs, n2, w2, e2, b2, r2⟩ := within_any hs r1.le w1 ins 128
  obtain ⟨hi, n3, w3, e3, b3, r3⟩ := byte_any hs (fun x => decide (x * 256 ≤ 16384)) r2.le w2
  obtain ⟨lo, n4, w4, e4, b4, r4⟩ := byte_any hs (fun x => decide (hi * 256 + x ≤ 16384)) r3.le w3
  obtain ⟨c, n5, w5, r5, h5⟩ := code_ev hs (ins := ins) (regs := regs) (cnt := hi * 256 + lo) (by omega) (by omega) (by omega) (hi * 256 + lo).toNat 0 [] n4 w4 r4.le (by omega) (by simp only [List.length_nil]; omega)
  obtain ⟨q, n6, w6, e6, b6, r6⟩ := within_any hs r5.le w5 1 128
  obtain ⟨o, n7, w7, r7, h7⟩ := outs_ev hs (ins := ins) (regs := regs) (cnt := q) (code := c) (by omega) (by omega) (by omega) q.toNat 0 [] n6 w6 r6.le (by omega) (by simp only [List.length_nil]; omega)
  rw [List.nil_append] at h7
  have ho := or256 (h := hi) (l := lo) b3.1 (by omega) b4.1 (by omega)
  have hw : wrap64 (hi * 256) = hi * 256 := by unfold wrap64; omega
  refine ⟨⟨ins, regs, c, o⟩, n7, w7, ?_, ?_⟩
  · unfold cR_program.f
    refine Ev.congr (fun k => ?_) (h5 _ (Ev.step (fun k => ?_) h7))
    · rw [e1, Option.bind_some, e2, Option.bind_some]
      unfold cR_program_1.f cR_program_2.f
      rw [e3, Option.bind_some, if_pos (by show 0 ≤ hi ∧ hi ≤ 255; omega), e4, Option.bind_some, hw, ho]
      rfl
    · simp only [cR_program.j2]
      rw [e6, Option.bind_some, List.nil_append]
      rfl
  · have p1 : Pre (fun x : Int => [x]) (Wi 1 128) := pre_one
    have s2 := RdS.seq (tok2 := fun _ x => [x]) (V2 := fun i => Wi i 128) p1 r1 r2
    have p2 := Pre.seq (tok2 := fun _ x => [x]) (V2 := fun i => Wi i 128) p1 (fun _ _ => pre_one)
    have s3 := RdS.seq (tok2 := fun _ x => [x]) (V2 := fun _ x => decide (x * 256 ≤ 16384) = true ∧ 0 ≤ x ∧ x < 256) p2 s2 r3
    have p3 := Pre.seq (tok2 := fun _ x => [x]) (V2 := fun _ x => decide (x * 256 ≤ 16384) = true ∧ 0 ≤ x ∧ x < 256) p2 (fun _ _ => pre_one)
    have s4 := RdS.seq (tok2 := fun _ x => [x]) (V2 := fun q x => decide (q.2 * 256 + x ≤ 16384) = true ∧ 0 ≤ x ∧ x < 256) p3 s3 r4
    have p4 := Pre.seq (tok2 := fun _ x => [x]) (V2 := fun q x => decide (q.2 * 256 + x ≤ 16384) = true ∧ 0 ≤ x ∧ x < 256) p3 (fun _ _ => pre_one)
    have s5 := RdS.seq (tok2 := fun _ c => c.flatMap ib) (V2 := fun q => Ls (fun i => mayb q.1.1.2 i = true) (q.1.2 * 256 + q.2).toNat) p4 s4 r5
    have p5 := Pre.seq (tok2 := fun _ c => c.flatMap ib) (V2 := fun q => Ls (fun i => mayb q.1.1.2 i = true) (q.1.2 * 256 + q.2).toNat) p4 (fun q v => pre_ibs (by have := v.1.1.2; unfold Wi at this; omega))
    have s6 := RdS.seq (tok2 := fun _ x => [x]) (V2 := fun _ => Wi 1 128) p5 s5 r6
    have p6 := Pre.seq (tok2 := fun _ x => [x]) (V2 := fun _ => Wi 1 128) p5 (fun _ _ => pre_one)
    have s7 := RdS.seq (tok2 := fun _ o => o.flatMap ob) (V2 := fun q => Ls (fun x => 0 ≤ x ∧ x < q.1.1.1.1.2) q.2.toNat) p6 s6 r7
    refine s7.map (fun q => (⟨q.1.1.1.1.1.1, q.1.1.1.1.1.2, q.1.1.2, q.2⟩ : S26)) (fun q v => ?_) (fun p v => ?_) (fun _ _ => rfl)
    · obtain ⟨⟨⟨⟨⟨⟨v1, v2⟩, v3⟩, v4⟩, v5⟩, v6⟩, v7⟩ := q
      obtain ⟨⟨⟨⟨⟨⟨a1, a2⟩, a3⟩, a4⟩, a5⟩, a6⟩, a7⟩ := v
      have a1 : (1 ≤ v1 ∧ v1 ≤ 128) ∧ 0 ≤ v1 ∧ v1 < 256 := a1
      have a2 : (v1 ≤ v2 ∧ v2 ≤ 128) ∧ 0 ≤ v2 ∧ v2 < 256 := a2
      have a3 : v3 * 256 ≤ 16384 ∧ 0 ≤ v3 ∧ v3 < 256 := ⟨of_decide_eq_true a3.1, a3.2⟩
      have a4 : v3 * 256 + v4 ≤ 16384 ∧ 0 ≤ v4 ∧ v4 < 256 := ⟨of_decide_eq_true a4.1, a4.2⟩
      have a5 : v5.length = (v3 * 256 + v4).toNat ∧ ∀ i ∈ v5, mayb v2 i = true := a5
      have a6 : (1 ≤ v6 ∧ v6 ≤ 128) ∧ 0 ≤ v6 ∧ v6 < 256 := a6
      have a7 : v7.length = v6.toNat ∧ ∀ x ∈ v7, 0 ≤ x ∧ x < v2 := a7
      refine ⟨wrong_of (p := ⟨v1, v2, v5, v7⟩) ?_ ?_ a5.2, ?_⟩
      · show (1 ≤ v1 ∧ v1 ≤ v2) ∧ v2 ≤ 128 ∧ v5.length ≤ 16384 ∧ 1 ≤ v7.length ∧ v7.length ≤ 128
        omega
      · exact List.all_eq_true.2 fun x hx => decide_eq_true (a7.2 x hx)
      · show pb v1 v2 v5 v7 = (((((([v1] ++ [v2]) ++ [v3]) ++ [v4]) ++ v5.flatMap ib) ++ [v6]) ++ v7.flatMap ob)
        unfold pb two
        rw [show v1 % 256 = v1 by omega, show v2 % 256 = v2 by omega, show ((v5.length : Int) / 256) % 256 = v3 by omega, show (v5.length : Int) % 256 = v4 by omega, show (v7.length : Int) % 256 = v6 by omega]
        rfl
    · obtain ⟨p0, p1', p2', p3'⟩ := p
      obtain ⟨hH, hO, hI⟩ := not_wrong v
      have hH : (1 ≤ p0 ∧ p0 ≤ p1') ∧ p1' ≤ 128 ∧ p2'.length ≤ 16384 ∧ 1 ≤ p3'.length ∧ p3'.length ≤ 128 := hH
      have hO : ∀ x ∈ p3', 0 ≤ x ∧ x < p1' := fun x hx => of_decide_eq_true (List.all_eq_true.1 hO x hx)
      have hI : ∀ i ∈ p2', mayb p1' i = true := hI
      refine ⟨((((((p0, p1'), ((p2'.length : Int) / 256) % 256), (p2'.length : Int) % 256), p2'), (p3'.length : Int) % 256), p3'), ⟨⟨⟨⟨⟨⟨?_, ?_⟩, ?_, ?_⟩, ?_, ?_⟩, ?_, hI⟩, ?_⟩, ?_, hO⟩, ?_, rfl⟩
      · show (1 ≤ p0 ∧ p0 ≤ 128) ∧ 0 ≤ p0 ∧ p0 < 256
        omega
      · show (p0 ≤ p1' ∧ p1' ≤ 128) ∧ 0 ≤ p1' ∧ p1' < 256
        omega
      · exact decide_eq_true (by show ((p2'.length : Int) / 256) % 256 * 256 ≤ 16384; omega)
      · show 0 ≤ ((p2'.length : Int) / 256) % 256 ∧ ((p2'.length : Int) / 256) % 256 < 256
        omega
      · exact decide_eq_true (by show ((p2'.length : Int) / 256) % 256 * 256 + (p2'.length : Int) % 256 ≤ 16384; omega)
      · show 0 ≤ (p2'.length : Int) % 256 ∧ (p2'.length : Int) % 256 < 256
        omega
      · show p2'.length = (((p2'.length : Int) / 256) % 256 * 256 + (p2'.length : Int) % 256).toNat
        omega
      · show (1 ≤ (p3'.length : Int) % 256 ∧ (p3'.length : Int) % 256 ≤ 128) ∧ 0 ≤ (p3'.length : Int) % 256 ∧ (p3'.length : Int) % 256 < 256
        omega
      · show p3'.length = ((p3'.length : Int) % 256).toNat
        omega
      · show (((((([p0] ++ [p1']) ++ [((p2'.length : Int) / 256) % 256]) ++ [(p2'.length : Int) % 256]) ++ p2'.flatMap ib) ++ [(p3'.length : Int) % 256]) ++ p3'.flatMap ob) = pb p0 p1' p2' p3'
        unfold pb two
        rw [show p0 % 256 = p0 by omega, show p1' % 256 = p1' by omega]
        rfl
end
abbrev R18 := Int × Int × (List (S48)) × Int × Int × (List (S63)) × List Int × Int × Int × (List (S63)) × List Int × Int × Int × (List (S63)) × List Int × Int × Int
def bads (a : Int) : R18 := (0, 0, ([] : List (S48)), 0, 0, ([] : List (S63)), ([] : List Int), 0, 0, ([] : List (S63)), ([] : List Int), 0, 0, ([] : List (S63)), ([] : List Int), 170, a)
def goods (u : S28) : R18 := (u.f0, u.f1, u.f2, u.f3.f0, u.f3.f1, u.f3.f2, u.f3.f3, u.f4.f0, u.f4.f1, u.f4.f2, u.f4.f3, u.f5.f0, u.f5.f1, u.f5.f2, u.f5.f3, 0, 0)
section
variable {s : List Int} {n : Nat}
theorem point_any (hs : Src s) (hn : n ≤ s.length) (w0 : Bool) : ∃ (x y : Int) (n1 n2 : Nat) (w1 w2 : Bool), cR_signed.f s (n : Int) w0 = some (x, (n1 : Int), w1) ∧ cR_signed.f s (n1 : Int) w1 = some (y, (n2 : Int), w2) ∧ RdS s n w0 qb PIn ⟨x, y⟩ n2 w2 := by
  obtain ⟨x, n1, w1, e1, r1⟩ := signed_any hs hn w0
  obtain ⟨y, n2, w2, e2, r2⟩ := signed_any hs r1.le w1
  have p1 : Pre (fun x : Int => [x % 256]) (fun x => -16 ≤ x ∧ x ≤ 16) := by
    intro a b r r' va vb e
    simp only [List.cons_append, List.nil_append, List.cons.injEq] at e
    exact ⟨by omega, e.2⟩
  exact ⟨x, y, n1, n2, w1, w2, e1, e2, (RdS.seq (tok2 := fun _ x => [x % 256]) (V2 := fun _ x => -16 ≤ x ∧ x ≤ 16) p1 r1 r2).map (fun q => (⟨q.1, q.2⟩ : S48)) (fun q v => ⟨show PIn (⟨q.1, q.2⟩ : S48) from v, rfl⟩) (fun p v => ⟨(p.f0, p.f1), v, rfl, rfl⟩) (fun _ _ => rfl)⟩
theorem pre_qb : Pre qb PIn := pre_fix (d := 2) (fun _ => rfl) qb_inj
theorem pts_ev (hs : Src s) {K1 K2 cnt : Int} (hc : cnt ≤ 65535) (X0 : List Int) : ∀ (m j : Nat) (acc : List S48) (n : Nat) (w0 : Bool), n ≤ s.length → (j : Int) + m = cnt → acc.length + m < 8796093022208 →
    ∃ (c : List S48) (n' : Nat) (w' : Bool), RdS s n w0 (fun c => c.flatMap qb) (Ls PIn m) c n' w' ∧
      ∀ v, Ev (fun k => code_Decode.l2 k X0 0 s (n' : Int) w' K1 K2 (acc ++ c) 0 0 [] [] 0 0 [] [] 0 0 [] []) v → Ev (fun k => code_Decode.l1 k X0 cnt (j : Int) s (n : Int) w0 K1 K2 acc 0 0 0 0 0 0) v := by
  intro m
  induction m with
  | zero =>
    intro j acc n w0 hn hj hl
    refine ⟨[], n, w0, RdS.nil hn, fun v h => ?_⟩
    rw [List.append_nil] at h
    refine Ev.step (fun k => ?_) h
    simp only [code_Decode.l1]
    rw [if_neg (by omega)]
    rfl
  | succ m ih =>
    intro j acc n w0 hn hj hl
    obtain ⟨x, y, n1, n2, w1, w2, e1, e2, r⟩ := point_any hs hn w0
    obtain ⟨c, n', w', r', h'⟩ := ih (j + 1) (acc ++ [(⟨x, y⟩ : S48)]) n2 w2 r.le (by omega) (by rw [List.length_append, List.length_cons, List.length_nil]; omega)
    refine ⟨⟨x, y⟩ :: c, n', w', RdS.cons pre_qb r r', fun v h => Ev.step (fun k => ?_) (h' v (by rw [List.append_assoc]; exact h))⟩
    simp only [code_Decode.l1]
    rw [if_pos (by omega), e1, Option.bind_some, e2, Option.bind_some, if_pos (by omega), show wrap64 ((j : Int) + 1) = ((j + 1 : Nat) : Int) by unfold wrap64; omega]
theorem mark_ev (hs : Src s) (X0 : List Int) (x16 : List Int) (h16 : Bytes x16) (hl : x16.length < 1000) : ∀ (m j : Nat) (n : Nat) (w0 : Bool), n ≤ s.length → j + m = x16.length →
    ∃ (n' : Nat) (w' : Bool), RdS s n w0 (fun _ : Unit => x16.drop j) (fun _ => True) () n' w' ∧
      ∀ v, Ev (fun k => code_Decode.l0 k X0 x16 (x16.length : Int) (x16.length : Int) s (n' : Int) w') v → Ev (fun k => code_Decode.l0 k X0 x16 (x16.length : Int) (j : Int) s (n : Int) w0) v := by
  intro m
  induction m with
  | zero =>
    intro j n w0 hn hj
    obtain rfl : j = x16.length := by omega
    refine ⟨n, w0, ?_, fun v h => h⟩
    rw [List.drop_length]
    cases w0
    · exact ⟨⟨Nat.le_refl _, hn⟩, .inr (.inl ⟨rfl, rfl, trivial, rfl⟩)⟩
    · exact RdS.stop hn
  | succ m ih =>
    intro j n w0 hn hj
    have hlt : j < x16.length := by omega
    have hb := h16 x16[j] (List.getElem_mem hlt)
    have hr := rd_at hlt
    have hw : wrap64 (rd x16 (j : Int)) = x16[j] := by rw [hr]; unfold wrap64; omega
    obtain ⟨x, n1, w1, e1, _, r1⟩ := within_any hs hn w0 x16[j] x16[j]
    obtain ⟨n', w', r', h'⟩ := ih (j + 1) n1 w1 r1.le (by omega)
    have p1 : Pre (fun x : Int => [x]) (Wi x16[j] x16[j]) := pre_one
    refine ⟨n', w', (RdS.seq (tok2 := fun _ _ => x16.drop (j + 1)) (V2 := fun _ _ => True) p1 r1 r').map (fun _ => ()) (fun q v => ⟨trivial, ?_⟩) (fun _ _ => ⟨(x16[j], ()), ⟨by unfold Wi; omega, trivial⟩, ?_, rfl⟩) (fun _ _ => rfl), fun v h => Ev.step (fun k => ?_) (h' v h)⟩
    · have v1 := v.1
      unfold Wi at v1
      rw [List.drop_eq_getElem_cons hlt, show x16[j] = q.1 by omega]
      rfl
    · rw [List.drop_eq_getElem_cons hlt]
      rfl
    · simp only [code_Decode.l0]
      rw [if_pos (by omega), if_pos (by omega), if_pos (by omega), hw, e1, Option.bind_some, show wrap64 ((j : Int) + 1) = ((j + 1 : Nat) : Int) by unfold wrap64; omega]
end
section
variable {s : List Int} {n : Nat}
theorem pre_pb : Pre (fun p : S26 => pb p.f0 p.f1 p.f2 p.f3) (fun p => wrong p = false) := by
  intro p q r r' vp vq e
  obtain ⟨⟨e0, e1, e2, e3⟩, h⟩ := pb_inj (okp_of vp) (okp_of vq) e
  cases p; cases q
  simp only at e0 e1 e2 e3
  subst e0 e1 e2 e3
  exact ⟨rfl, h⟩
theorem mayv_of {u : S28} (hR : Rng u) (hP : ∀ p ∈ u.f2, PIn p) (h3 : wrong u.f3 = false) (h4 : wrong u.f4 = false) (h5 : wrong u.f5 = false) : mayv u = 0 := by
  unfold mayv
  rw [if_pos hR, if_pos (List.all_eq_true.2 fun p hp => decide_eq_true (hP p hp)), if_neg (by rw [h3]; decide), if_neg (by rw [h4]; decide), if_neg (by rw [h5]; decide)]
theorem ck_rng (l : List Int) : 0 ≤ ck l ∧ ck l < 65521 := ckv_rng l 0 0 (by decide) (by decide)
theorem tail_ev (hs : Src s) (hn : n ≤ s.length) (w : Bool) (u : S28) : ∃ (m : Nat) (w' : Bool), RdS s n w (fun _ : Unit => two (ck (s.take n))) (fun _ => True) () m w' ∧
    Ev (fun k => code_Decode.l2 k s 3 s (n : Int) w u.f0 u.f1 u.f2 u.f3.f0 u.f3.f1 u.f3.f2 u.f3.f3 u.f4.f0 u.f4.f1 u.f4.f2 u.f4.f3 u.f5.f0 u.f5.f1 u.f5.f2 u.f5.f3) (if w' = true ∨ m < s.length then bads (m : Int) else goods u) := by
  cases w
  · have hl := hs.l
    have ht := ck_rng (s.take n)
    obtain ⟨x, n1, w1, e1, _, r1⟩ := within_any hs hn false (ck (s.take n) / 256) (ck (s.take n) / 256)
    obtain ⟨y, n2, w2, e2, _, r2⟩ := within_any hs r1.le w1 (ck (s.take n) % 256) (ck (s.take n) % 256)
    have p1 : Pre (fun x : Int => [x]) (Wi (ck (s.take n) / 256) (ck (s.take n) / 256)) := pre_one
    refine ⟨n2, w2, (RdS.seq (tok2 := fun _ x => [x]) (V2 := fun _ => Wi (ck (s.take n) % 256) (ck (s.take n) % 256)) p1 r1 r2).map (fun _ => ()) (fun q v => ⟨trivial, ?_⟩) (fun _ _ => ⟨(ck (s.take n) / 256, ck (s.take n) % 256), ⟨by unfold Wi; omega, by unfold Wi; omega⟩, ?_, rfl⟩) (fun _ _ => rfl), ?_⟩
    · obtain ⟨a, b⟩ := q
      obtain ⟨va, vb⟩ := v
      have va : (ck (s.take n) / 256 ≤ a ∧ a ≤ ck (s.take n) / 256) ∧ 0 ≤ a ∧ a < 256 := va
      have vb : (ck (s.take n) % 256 ≤ b ∧ b ≤ ck (s.take n) % 256) ∧ 0 ≤ b ∧ b < 256 := vb
      show two (ck (s.take n)) = [a] ++ [b]
      unfold two
      rw [show ck (s.take n) / 256 % 256 = a by omega, show ck (s.take n) % 256 = b by omega]
      rfl
    · show [ck (s.take n) / 256] ++ [ck (s.take n) % 256] = two (ck (s.take n))
      unfold two
      rw [show ck (s.take n) / 256 % 256 = ck (s.take n) / 256 by omega]
      rfl
    · have ec : Ev (fun k => code_check.f k (s.take n)) (ck (s.take n)) := check_ev' (by rw [List.length_take]; omega) (fun q hq => hs.b q (List.mem_of_mem_take hq))
      refine Ev.step (f := fun k => (code_check.f k (s.take n)).bind fun t => (cR_within.f s (n : Int) false (t / 256) (t / 256)).bind fun a => (cR_within.f s a.2.1 a.2.2 (Go.bits .and .i64 t 255) (Go.bits .and .i64 t 255)).bind fun b => if b.2.2 = true then some (bads b.2.1) else if b.2.1 < (s.length : Int) then some (bads b.2.1) else some (goods u)) (fun k => ?_) (Ev.bind ec ?_)
      · simp only [code_Decode.l2]
        rw [if_neg (by omega), if_neg (by decide), if_pos (by omega), if_pos (by omega)]
        rfl
      · rw [and255 ht.1 (by omega), e1, Option.bind_some, e2, Option.bind_some]
        by_cases h : w2 = true
        · rw [show (if w2 = true ∨ n2 < s.length then bads (n2 : Int) else goods u) = bads (n2 : Int) from if_pos (.inl h)]
          exact ev_pos h (Ev.now _)
        · refine ev_neg h ?_
          by_cases h' : n2 < s.length
          · rw [show (if w2 = true ∨ n2 < s.length then bads (n2 : Int) else goods u) = bads (n2 : Int) from if_pos (.inr h')]
            exact ev_pos (by show (n2 : Int) < _; omega) (Ev.now _)
          · rw [show (if w2 = true ∨ n2 < s.length then bads (n2 : Int) else goods u) = goods u from if_neg (fun q => q.elim h h')]
            exact ev_neg (by show ¬ (n2 : Int) < _; omega) (Ev.now _)
  · refine ⟨n, true, RdS.stop hn, Ev.step (fun k => ?_) (Ev.now _)⟩
    simp only [code_Decode.l2]
    rw [if_neg (by omega), if_pos trivial, if_pos (.inl trivial)]
    rfl
theorem body_any (hs : Src s) : ∃ (u : S28) (m : Nat) (w : Bool), RdS s 0 false body (fun u => mayv u = 0) u m w ∧ Pre body (fun u => mayv u = 0) ∧
    ∀ v, Ev (fun k => code_Decode.l2 k s 3 s (m : Int) w u.f0 u.f1 u.f2 u.f3.f0 u.f3.f1 u.f3.f2 u.f3.f3 u.f4.f0 u.f4.f1 u.f4.f2 u.f4.f3 u.f5.f0 u.f5.f1 u.f5.f2 u.f5.f3) v → Ev (fun k => code_Decode.f k s) v := by
  obtain ⟨n1, w1, r1, h1⟩ := mark_ev hs s [65, 78, 86, 49] (by intro x hx; simp only [List.mem_cons, List.not_mem_nil, or_false] at hx; omega) (by decide) 4 0 0 false (Nat.zero_le _) rfl
  obtain ⟨k1, n2, w2, e2, b2, r2⟩ := within_any hs r1.le w1 1 8
  obtain ⟨k2, n3, w3, e3, b3, r3⟩ := within_any hs r2.le w2 1 8
  obtain ⟨cn, n4, w4, e4, b4, r4⟩ := within_any hs r3.le w3 0 255
  obtain ⟨ps, n5, w5, r5, h5⟩ := pts_ev hs (K1 := k1) (K2 := k2) (cnt := cn) (by omega) s cn.toNat 0 [] n4 w4 r4.le (by omega) (by simp only [List.length_nil]; omega)
  obtain ⟨p3, n6, w6, e6, r6⟩ := prog_any hs r5.le w5
  obtain ⟨p4, n7, w7, e7, r7⟩ := prog_any hs r6.le w6
  obtain ⟨p5, n8, w8, e8, r8⟩ := prog_any hs r7.le w7
  have q1 : Pre (fun _ : Unit => ([65, 78, 86, 49] : List Int).drop 0) (fun _ => True) := fun _ _ r r' _ _ e => ⟨rfl, List.append_cancel_left e⟩
  have s2 := RdS.seq (tok2 := fun _ x => [x]) (V2 := fun _ => Wi 1 8) q1 r1 r2
  have q2 := Pre.seq (tok2 := fun _ x => [x]) (V2 := fun _ => Wi 1 8) q1 (fun _ _ => pre_one)
  have s3 := RdS.seq (tok2 := fun _ x => [x]) (V2 := fun _ => Wi 1 8) q2 s2 r3
  have q3 := Pre.seq (tok2 := fun _ x => [x]) (V2 := fun _ => Wi 1 8) q2 (fun _ _ => pre_one)
  have s4 := RdS.seq (tok2 := fun _ x => [x]) (V2 := fun _ => Wi 0 255) q3 s3 r4
  have q4 := Pre.seq (tok2 := fun _ x => [x]) (V2 := fun _ => Wi 0 255) q3 (fun _ _ => pre_one)
  have s5 := RdS.seq (tok2 := fun _ c => c.flatMap qb) (V2 := fun q => Ls PIn q.2.toNat) q4 s4 r5
  have q5 := Pre.seq (tok2 := fun _ c => c.flatMap qb) (V2 := fun q => Ls PIn q.2.toNat) q4 (fun _ _ => pre_ls (d := 2) (fun _ => rfl) qb_inj)
  have s6 := RdS.seq (tok2 := fun _ (p : S26) => pb p.f0 p.f1 p.f2 p.f3) (V2 := fun _ p => wrong p = false) q5 s5 r6
  have q6 := Pre.seq (tok2 := fun _ (p : S26) => pb p.f0 p.f1 p.f2 p.f3) (V2 := fun _ p => wrong p = false) q5 (fun _ _ => pre_pb)
  have s7 := RdS.seq (tok2 := fun _ (p : S26) => pb p.f0 p.f1 p.f2 p.f3) (V2 := fun _ p => wrong p = false) q6 s6 r7
  have q7 := Pre.seq (tok2 := fun _ (p : S26) => pb p.f0 p.f1 p.f2 p.f3) (V2 := fun _ p => wrong p = false) q6 (fun _ _ => pre_pb)
  have s8 := RdS.seq (tok2 := fun _ (p : S26) => pb p.f0 p.f1 p.f2 p.f3) (V2 := fun _ p => wrong p = false) q7 s7 r8
  have q8 := Pre.seq (tok2 := fun _ (p : S26) => pb p.f0 p.f1 p.f2 p.f3) (V2 := fun _ p => wrong p = false) q7 (fun _ _ => pre_pb)
  have hS : ∀ u : S28, mayv u = 0 → ∃ q : ((((((Unit × Int) × Int) × Int) × List S48) × S26) × S26) × S26, (((((((True ∧ Wi 1 8 q.1.1.1.1.1.1.2) ∧ Wi 1 8 q.1.1.1.1.1.2) ∧ Wi 0 255 q.1.1.1.1.2) ∧ Ls PIn q.1.1.1.1.2.toNat q.1.1.1.2) ∧ wrong q.1.1.2 = false) ∧ wrong q.1.2 = false) ∧ wrong q.2 = false) ∧
      (((((((([65, 78, 86, 49] : List Int).drop 0 ++ [q.1.1.1.1.1.1.2]) ++ [q.1.1.1.1.1.2]) ++ [q.1.1.1.1.2]) ++ q.1.1.1.2.flatMap qb) ++ pb q.1.1.2.f0 q.1.1.2.f1 q.1.1.2.f2 q.1.1.2.f3) ++ pb q.1.2.f0 q.1.2.f1 q.1.2.f2 q.1.2.f3) ++ pb q.2.f0 q.2.f1 q.2.f2 q.2.f3) = body u ∧
      (⟨q.1.1.1.1.1.1.2, q.1.1.1.1.1.2, q.1.1.1.2, q.1.1.2, q.1.2, q.2⟩ : S28) = u := by
    intro u hu
    obtain ⟨hR, hP, h3, h4, h5⟩ := mayv_fine hu
    obtain ⟨u0, u1, u2, u3, u4, u5⟩ := u
    have hR : 1 ≤ u0 ∧ 1 ≤ u1 ∧ u0 ≤ 8 ∧ u1 ≤ 8 ∧ u2.length ≤ 255 := hR
    refine ⟨((((((((), u0), u1), (u2.length : Int) % 256), u2), u3), u4), u5), ⟨⟨⟨⟨⟨⟨⟨trivial, ?_⟩, ?_⟩, ?_⟩, ?_, hP⟩, h3⟩, h4⟩, h5⟩, ?_, rfl⟩
    · show (1 ≤ u0 ∧ u0 ≤ 8) ∧ 0 ≤ u0 ∧ u0 < 256
      omega
    · show (1 ≤ u1 ∧ u1 ≤ 8) ∧ 0 ≤ u1 ∧ u1 < 256
      omega
    · show (0 ≤ (u2.length : Int) % 256 ∧ (u2.length : Int) % 256 ≤ 255) ∧ 0 ≤ (u2.length : Int) % 256 ∧ (u2.length : Int) % 256 < 256
      omega
    · show u2.length = ((u2.length : Int) % 256).toNat
      omega
    · unfold body
      rw [show u0 % 256 = u0 by omega, show u1 % 256 = u1 by omega]
      rfl
  refine ⟨⟨k1, k2, ps, p3, p4, p5⟩, n8, w8, s8.map (fun q => (⟨q.1.1.1.1.1.1.2, q.1.1.1.1.1.2, q.1.1.1.2, q.1.1.2, q.1.2, q.2⟩ : S28)) (fun q v => ?_) hS (fun _ _ => rfl), q8.map (fun q => (⟨q.1.1.1.1.1.1.2, q.1.1.1.1.1.2, q.1.1.1.2, q.1.1.2, q.1.2, q.2⟩ : S28)) hS, fun v h => ?_⟩
  · obtain ⟨⟨⟨⟨⟨⟨⟨v0, v1⟩, v2⟩, v3⟩, v4⟩, v5⟩, v6⟩, v7⟩ := q
    obtain ⟨⟨⟨⟨⟨⟨⟨_, a1⟩, a2⟩, a3⟩, a4⟩, a5⟩, a6⟩, a7⟩ := v
    have a1 : (1 ≤ v1 ∧ v1 ≤ 8) ∧ 0 ≤ v1 ∧ v1 < 256 := a1
    have a2 : (1 ≤ v2 ∧ v2 ≤ 8) ∧ 0 ≤ v2 ∧ v2 < 256 := a2
    have a3 : (0 ≤ v3 ∧ v3 ≤ 255) ∧ 0 ≤ v3 ∧ v3 < 256 := a3
    have a4 : v4.length = v3.toNat ∧ ∀ p ∈ v4, PIn p := a4
    refine ⟨mayv_of (u := ⟨v1, v2, v4, v5, v6, v7⟩) (show 1 ≤ v1 ∧ 1 ≤ v2 ∧ v1 ≤ 8 ∧ v2 ≤ 8 ∧ v4.length ≤ 255 by omega) a4.2 a5 a6 a7, ?_⟩
    unfold body
    show _ = (((((((([65, 78, 86, 49] : List Int).drop 0 ++ [v1]) ++ [v2]) ++ [v3]) ++ v4.flatMap qb) ++ pb v5.f0 v5.f1 v5.f2 v5.f3) ++ pb v6.f0 v6.f1 v6.f2 v6.f3) ++ pb v7.f0 v7.f1 v7.f2 v7.f3)
    rw [show v1 % 256 = v1 by omega, show v2 % 256 = v2 by omega, show (v4.length : Int) % 256 = v3 by omega]
    rfl
  · unfold code_Decode.f code_newreader.f code_marked.f
    refine Ev.congr (fun k => ?_) (h1 v (Ev.step (fun k => ?_) (h5 v (Ev.step (f := fun k => (cR_program.f k s (n5 : Int) w5).bind fun b => code_Decode.l2 k s (0 + 1) s b.2.2.2.2.1 b.2.2.2.2.2 k1 k2 ps b.1 b.2.1 b.2.2.1 b.2.2.2.1 0 0 [] [] 0 0 [] []) (fun k => ?_) (Ev.bind e6 (Ev.step (f := fun k => (cR_program.f k s (n6 : Int) w6).bind fun b => code_Decode.l2 k s (1 + 1) s b.2.2.2.2.1 b.2.2.2.2.2 k1 k2 ps p3.f0 p3.f1 p3.f2 p3.f3 b.1 b.2.1 b.2.2.1 b.2.2.2.1 0 0 [] []) (fun k => ?_) (Ev.bind e7 (Ev.step (f := fun k => (cR_program.f k s (n7 : Int) w7).bind fun b => code_Decode.l2 k s (2 + 1) s b.2.2.2.2.1 b.2.2.2.2.2 k1 k2 ps p3.f0 p3.f1 p3.f2 p3.f3 p4.f0 p4.f1 p4.f2 p4.f3 b.1 b.2.1 b.2.2.1 b.2.2.2.1) (fun k => ?_) (Ev.bind e8 (by rw [show (2 : Int) + 1 = 3 from rfl]; exact h))))))))))
    · rw [Option.bind_some, Option.bind_some]
      rfl
    · simp only [code_Decode.l0]
      rw [if_neg (by omega), e2, Option.bind_some, e3, Option.bind_some, e4, Option.bind_some]
      rfl
    · rw [List.nil_append]
      simp only [code_Decode.l2]
      rw [if_pos (by decide), if_pos trivial]
    · show code_Decode.l2 (k + 1) s (0 + 1) s (n6 : Int) w6 k1 k2 ps p3.f0 p3.f1 p3.f2 p3.f3 0 0 [] [] 0 0 [] [] = _
      simp only [code_Decode.l2]
      rw [if_pos (by decide), if_neg (by decide), if_pos (by decide)]
    · show code_Decode.l2 (k + 1) s (1 + 1) s (n7 : Int) w7 k1 k2 ps p3.f0 p3.f1 p3.f2 p3.f3 p4.f0 p4.f1 p4.f2 p4.f3 0 0 [] [] = _
      simp only [code_Decode.l2]
      rw [if_pos (by decide), if_neg (by decide), if_neg (by decide), if_pos (by decide)]
theorem dec_all2 (hs : Src s) : ∃ r, Ev (fun k => code_Decode.f k s) r ∧ ((∃ u, r = goods u ∧ mayv u = 0 ∧ s = told u) ∨ (∃ a : Nat, r = bads (a : Int) ∧ a ≤ s.length ∧ ∀ u, mayv u = 0 → s.take (a + 1) ≠ (told u).take (a + 1))) := by
  obtain ⟨u, m, w, r, hp, h⟩ := body_any hs
  obtain ⟨m', w', r', h'⟩ := tail_ev hs r.le w u
  refine ⟨_, h _ h', ?_⟩
  cases w
  · obtain ⟨_, hu, e⟩ := r.live
    have e0 := e
    rw [List.drop_zero] at e
    have hm := r.le
    have et : s.take m = body u := by
      have e1 := congrArg List.length e
      rw [List.length_append, List.length_drop] at e1
      have e2 := congrArg (List.take m) e
      rw [e2]
      have e3 : m = (body u).length := by omega
      rw [e3, List.take_left]
    rw [et] at r'
    cases w'
    · obtain ⟨_, _, e'⟩ := r'.live
      by_cases hl : m' < s.length
      · rw [if_pos (.inr hl)]
        refine .inr ⟨m', rfl, by omega, fun v hv eq => ?_⟩
        have es : s = told u ++ s.drop m' := by
          unfold told
          rw [List.append_assoc, ← e']
          exact e
        have e1 := congrArg List.length es
        rw [List.length_append, List.length_drop] at e1
        obtain ⟨t, ht, _⟩ := begins eq
        have e2 : s.take (m' + 1) = told u ++ (s.drop m').take 1 := by
          have e3 := congrArg (List.take (m' + 1)) es
          rw [List.take_append, show (told u).take (m' + 1) = told u from List.take_of_length_le (by omega), show m' + 1 - (told u).length = 1 by omega] at e3
          exact e3
        rw [e2, List.append_assoc] at ht
        have hq := told_same (told_inj hv hu ht)
        rw [hq] at ht
        have e4 := congrArg List.length ht
        rw [List.length_append, List.length_append, List.length_take, List.length_drop] at e4
        omega
      · rw [if_neg (by simp; omega)]
        refine .inl ⟨u, rfl, hu, ?_⟩
        have hm' := r'.le
        rw [show m' = s.length by omega, List.drop_length, List.append_nil] at e'
        unfold told
        rw [← e']
        exact e
    · rw [if_pos (.inl rfl)]
      refine .inr ⟨m', rfl, r'.le, fun v hv => ?_⟩
      have h9 := no_seq (tok2 := fun a (_ : Unit) => two (ck (body a))) (V2 := fun _ _ => True) hp r.1 r'.1 hu e0 (fun z q _ => r'.no z q trivial) v () [] hv trivial
      rw [List.drop_zero, Nat.sub_zero, List.append_nil] at h9
      exact h9
  · obtain ⟨rfl, rfl⟩ := r'.dead
    rw [if_pos (.inl rfl)]
    refine .inr ⟨m', rfl, r.le, fun v hv => ?_⟩
    have h9 := r.no v (two (ck (body v))) hv
    rw [List.drop_zero, Nat.sub_zero] at h9
    exact h9
theorem dec_all (hs : Src s) : ∃ r, Ev (fun k => code_Decode.f k s) r ∧ ((∃ u, r = goods u ∧ mayv u = 0 ∧ s = told u) ∨ (∃ a : Nat, r = bads (a : Int) ∧ a ≤ s.length ∧ ∀ u, mayv u = 0 → s ≠ told u)) := by
  obtain ⟨r, h, c⟩ := dec_all2 hs
  refine ⟨r, h, c.imp id ?_⟩
  rintro ⟨a, e, ha, no⟩
  exact ⟨a, e, ha, fun u hu q => no u hu (by rw [q])⟩
end
end Go.Proofs.Ytccbdcbeinkjgaa.PlainDec
end
