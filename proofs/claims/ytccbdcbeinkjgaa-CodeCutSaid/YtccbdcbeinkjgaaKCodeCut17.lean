/- Part 17 of the proof of the law CodeCut for every input: words, walks and plain laws. No condition. -/
import Derived.Test.YtccbdcbeinkjgaaKCodeCut16
section
namespace Go.Proofs.Ytccbdcbeinkjgaa.XA
open Go.Proofs.Ytccbdcbeinkjgaa.Lift Go.RowKit Go.Proofs.YtccbdcbeinkjgaaW.PrintWords Go.Proofs.YtccbdcbeinkjgaaW.PrintLast Go.Proofs.YtccbdcbeinkjgaaW.PrintMore
attribute [local go_sem] max2_int min2_int max_two min_two max_three min_three max_four min_four
set_option linter.unusedVariables false
set_option linter.unusedSimpArgs false

/-! ### slices_Clone_byte_byte: function 16 -/
def slices_Clone_byte_byte.f (l0 : List Int) : Option (List Int) := (some (([] : List Int) : List Int)).bind fun y554 => (if y554.length + l0.length < 140737488355328 then (some (y554 ++ l0)) else (none))
set_option maxHeartbeats 8000000 in
set_option maxRecDepth 100000 in
theorem slices_Clone_byte_byte.calls (A0 : Option Addr) (c0 : Nat) (l0 : List Int) (r : List Int) (w : World) (hr0 : Kd.C (Kd.int .u8) w A0 l0.length l0) (hc0 : l0.length ≤ c0) (h : slices_Clone_byte_byte.f l0 = some r) :
  Calls Try.prog 16 #[.slice A0 l0.length c0] w fun e w' => ∃ v0_ : Value, e = .returned (v0_) ∧ Kd.R (Kd.int .u8) 5 w' w.heap.size (fun _ => True) v0_ r ∧ Below w.heap.size w w' := by
 rcases A0 with _ | a0
 ·obtain rfl : l0 = [] := by
   rcases l0 with _ | ⟨x_, l_⟩
   ·rfl
   ·obtain ⟨_, e_, _⟩ := hr0.2.2 (by simp)
    cases e_
  obtain rfl : r = [] := by simpa [slices_Clone_byte_byte.f] using h.symm
  have hnil_ := fun W => Lib.run_eql_slice_nil (P := Try.prog) W 31 5 none 0 c0 0 0 Try.underlying31
  go_enter Try.func16, Try.ntmps16
  go_wp2
  go_ret
  exact ⟨_, rfl, Kd.R_nil _ _ _ _ _, Below.refl _ _⟩
 ·skip
  have HR0 := aM hr0
  have HC0 := aM hc0
  clear hr0 hc0
  have HB := aM (Below.refl w.heap.size w)
  have H : ((some (([] : List Int) : List Int)).bind fun y554 => (if y554.length + l0.length < 140737488355328 then (some (y554 ++ l0)) else (none))) = some r := h
  clear h
  obtain ⟨y554, hy554⟩ : ∃ y_ : List Int, y_ = (([] : List Int)) := ⟨_, rfl⟩
  replace H : (if y554.length + l0.length < 140737488355328 then (some (y554 ++ l0)) else (none)) = some r := zH hy554 H
  have Ny554 := aM hy554
  clear hy554
  by_cases c2 : y554.length + l0.length < 140737488355328
  ·rw [if_pos c2] at H
   have LMc2 := aM c2
   clear c2
   obtain ⟨y557, hy557⟩ : ∃ y_ : List Int, y_ = (y554 ++ l0) := ⟨_, rfl⟩
   replace H : (some y557) = some r := zH hy557 H
   have Ny557 := aM hy557
   clear hy557
   obtain rfl := Option.some.inj H
   have hnil_ := fun W => Lib.run_eql_slice_nil (P := Try.prog) W 31 5 (some a0) l0.length c0 0 0 Try.underlying31
   go_enter Try.func16, Try.ntmps16
   go_wp2_with (first | ((with_reducible refine gate_dst (N := 5) rfl ?_); refine Kd.R_lit (Kd.int .u8) _ 5 ?hg (N := 5) ?hd (xs := ([] : List Int)) (inner := []) (ok := fun _ => True) (okp := fun _ => True) ?hr ?hp (fun _ hk => hk) trivial (Below.refl _ _) (Nat.le_refl _) (by simp) ?_; (case hd => rfl); (case hg => rfl); (case hr => first | (go_simp; done) | (go_simp; rfl)); (case hp => exact (Reps.none _ _)); intro v555 w3 ho4 hb hg_ hnew_; clear hg_ hnew_; (first | rw [← Ny554.out] at ho4 | (simp only [Int.reduceToNat] at ho4; rw [← Ny554.out] at ho4)); have qA := aM (Kd.R_lower ho4 (below_size (lB HB))); replace HB := aM (below_step (lB HB) hb); clear hb ho4) | ((with_reducible refine gate_builtin (b := .append) (xs := #[.tmp 5, .tmp 6]) rfl ?_); at_builtin; refine Kd.R_append_rows (Kd.int .u8) (w0 := w) w.heap.size rfl (.tmp 5) (.tmp 6) 31 5 (.int .u8 0) 1 rfl Try.underlying31 info5 rfl (by decide) (by omega) v555 y554 l0 _ _ _ (fun _ => True) (fun _ => False) rfl rfl ?aO ?aR (fun _ _ h => h) (fun _ h => h.elim) ?aF ?aB ?aS ?aL ?_; (case aR => repeat (first | exact (Kd.C_below HR0.out HB.out) | (with_reducible refine Kd.C_alloc ?_ _) | (with_reducible refine Kd.C_drewN ?_ _) | (with_reducible refine Kd.C_drew ?_))); (case aB => exact (lB HB)); (case aF => exact (fun _ _ => trivial)); (case aO => exact (lR qA)); (case aS => exact (below_size (lB HB))); (case aL => have := LMc2.out; omega); intro v558 w5 ho hb hg hat; rw [← Ny557.out] at ho; replace HB := aM (hb); have qD := aM (ho); clear qA; clear ho hb hg hat))
   go_ret
   exact ⟨_, zE, by apply rX; exact qD.out, zB HB⟩
  ·rw [if_neg c2] at H
   exact absurd H (by simp)

/-! ### api_Point_36: function 36 -/
def api_Point_36.f (l0 : List (S48)) : Option ((List (S48))) := (some (([] : List (S48)) : List (S48))).bind fun y560 => (if y560.length + l0.length < 8796093022208 then (some (y560 ++ l0)) else (none))
/-! ### swageref08_Copy: function 37 -/
def swageref08_Copy.f (qE : Int) (qF : Int) (qB : List (S63)) (qC : List Int) : Option (Int × Int × (List (S63)) × List Int) := if ([] : List (S63)).length + qB.length < 3518437208883 then (if ([] : List Int).length + qC.length < 17592186044416 then (some (qE, qF, (([] : List (S63)) ++ qB), (([] : List Int) ++ qC))) else (none)) else (none)
end Go.Proofs.Ytccbdcbeinkjgaa.XA
end

section
namespace Go.Proofs.Ytccbdcbeinkjgaa.XA
open Go.Proofs.Ytccbdcbeinkjgaa.Lift Go.RowKit Go.Proofs.YtccbdcbeinkjgaaW.PrintWords Go.Proofs.YtccbdcbeinkjgaaW.PrintLast Go.Proofs.YtccbdcbeinkjgaaW.PrintMore
attribute [local go_sem] max2_int min2_int max_two min_two max_three min_three max_four min_four
set_option linter.unusedVariables false
set_option linter.unusedSimpArgs false

/-! ### swagelaw17_copied: function 19 -/
def swagelaw17_copied.f (qF : Int) (qG : Int) (qH : List (S48)) (qI : Int) (qJ : Int) (qK : List (S63)) (qL : List Int) (qM : Int) (qN : Int) (qO : List (S63)) (qA : List Int) (qB : Int) (qC : Int) (qD : List (S63)) (qE : List Int) : Option (Int × Int × (List (S48)) × Int × Int × (List (S63)) × List Int × Int × Int × (List (S63)) × List Int × Int × Int × (List (S63)) × List Int) := (api_Point_36.f qH).bind fun qP => ((swageref08_Copy.f qI qJ qK qL).bind fun bt580 => ((swageref08_Copy.f qM qN qO qA).bind fun bt588 => ((swageref08_Copy.f qB qC qD qE).bind fun bt596 => (some (qF, qG, qP, bt580.1, bt580.2.1, bt580.2.2.1, bt580.2.2.2, bt588.1, bt588.2.1, bt588.2.2.1, bt588.2.2.2, bt596.1, bt596.2.1, bt596.2.2.1, bt596.2.2.2)))))
end Go.Proofs.Ytccbdcbeinkjgaa.XA
end

section
namespace Go.Proofs.Ytccbdcbeinkjgaa.XA
open Go.Proofs.Ytccbdcbeinkjgaa.Lift Go.RowKit Go.Proofs.YtccbdcbeinkjgaaW.PrintWords Go.Proofs.YtccbdcbeinkjgaaW.PrintLast Go.Proofs.YtccbdcbeinkjgaaW.PrintMore
attribute [local go_sem] max2_int min2_int max_two min_two max_three min_three max_four min_four
set_option linter.unusedVariables false
set_option linter.unusedSimpArgs false

attribute [local go_sem high] eqA43
/-! ### swagelaw17_CodeBack: function 9 -/
mutual
def swagelaw17_CodeBack.j0 : Nat → List Int → Bool → Int → Int → List (S48) → Int → Int → List (S63) → List Int → Int → Int → List (S63) → List Int → Int → Int → List (S63) → List Int → Option (Bool)
 | 0, _, _, _, _, _, _, _, _, _, _, _, _, _, _, _, _, _ => none
 | k + 1, x1, x19, qA, qB, qC, qD, qE, qF, qG, qH, qI, qJ, qK, qL, qM, qN, qO => if x19 = true then (some true) else ((swagelaw17_copied.f qA qB qC qD qE qF qG qH qI qJ qK qL qM qN qO).bind fun bt1338 => ((code_Encode.f k bt1338.1 bt1338.2.1 bt1338.2.2.1 bt1338.2.2.2.1 bt1338.2.2.2.2.1 bt1338.2.2.2.2.2.1 bt1338.2.2.2.2.2.2.1 bt1338.2.2.2.2.2.2.2.1 bt1338.2.2.2.2.2.2.2.2.1 bt1338.2.2.2.2.2.2.2.2.2.1 bt1338.2.2.2.2.2.2.2.2.2.2.1 bt1338.2.2.2.2.2.2.2.2.2.2.2.1 bt1338.2.2.2.2.2.2.2.2.2.2.2.2.1 bt1338.2.2.2.2.2.2.2.2.2.2.2.2.2.1 bt1338.2.2.2.2.2.2.2.2.2.2.2.2.2.2).bind fun bt1367 => (if bt1367.2 = 0 then ((code_Decode.f k bt1367.1).bind fun bt1371 => (if (!(bt1371.2.2.2.2.2.2.2.2.2.2.2.2.2.2.2.1 == 0) || (!(bt1371.2.2.2.2.2.2.2.2.2.2.2.2.2.2.2.2 == 0))) = true then (some false) else ((code_Same.f k qA qB qC qD qE qF qG qH qI qJ qK qL qM qN qO bt1371.1 bt1371.2.1 bt1371.2.2.1 bt1371.2.2.2.1 bt1371.2.2.2.2.1 bt1371.2.2.2.2.2.1 bt1371.2.2.2.2.2.2.1 bt1371.2.2.2.2.2.2.2.1 bt1371.2.2.2.2.2.2.2.2.1 bt1371.2.2.2.2.2.2.2.2.2.1 bt1371.2.2.2.2.2.2.2.2.2.2.1 bt1371.2.2.2.2.2.2.2.2.2.2.2.1 bt1371.2.2.2.2.2.2.2.2.2.2.2.2.1 bt1371.2.2.2.2.2.2.2.2.2.2.2.2.2.1 bt1371.2.2.2.2.2.2.2.2.2.2.2.2.2.2.1).bind fun qe => (if qe = true then (swagelaw17_CodeBack.j1 k x1) else (some false))))) else (swagelaw17_CodeBack.j1 k x1))))
def swagelaw17_CodeBack.j1 : Nat → List Int → Option (Bool)
 | 0, _ => none
 | k + 1, x1 => (code_Decode.f k x1).bind fun bt1405 => (if (!(bt1405.2.2.2.2.2.2.2.2.2.2.2.2.2.2.2.1 == 0) || (!(bt1405.2.2.2.2.2.2.2.2.2.2.2.2.2.2.2.2 == 0))) = true then (if bt1405.2.2.2.2.2.2.2.2.2.2.2.2.2.2.2.1 = 170 then (if bt1405.2.2.2.2.2.2.2.2.2.2.2.2.2.2.2.2 ≥ 0 then (some (decide (bt1405.2.2.2.2.2.2.2.2.2.2.2.2.2.2.2.2 ≤ (x1.length : Int)))) else (some false)) else (some false)) else ((code_Encode.f k bt1405.1 bt1405.2.1 bt1405.2.2.1 bt1405.2.2.2.1 bt1405.2.2.2.2.1 bt1405.2.2.2.2.2.1 bt1405.2.2.2.2.2.2.1 bt1405.2.2.2.2.2.2.2.1 bt1405.2.2.2.2.2.2.2.2.1 bt1405.2.2.2.2.2.2.2.2.2.1 bt1405.2.2.2.2.2.2.2.2.2.2.1 bt1405.2.2.2.2.2.2.2.2.2.2.2.1 bt1405.2.2.2.2.2.2.2.2.2.2.2.2.1 bt1405.2.2.2.2.2.2.2.2.2.2.2.2.2.1 bt1405.2.2.2.2.2.2.2.2.2.2.2.2.2.2.1).bind fun bt1438 => (if bt1438.2 = 0 then ((bytes_Equal.f bt1438.1 x1).bind fun qf => (some qf)) else (some false))))
end
def swagelaw17_CodeBack.f (k : Nat) (qU : Int) (qV : Int) (qW : List (S48)) (qX : Int) (qY : Int) (qZ : List (S63)) (qa : List Int) (qb : Int) (qc : Int) (qd : List (S63)) (qP : List Int) (qQ : Int) (qR : Int) (qS : List (S63)) (qT : List Int) (l1 : List Int) : Option (Bool) := (swagelaw17_works.f k).bind fun qg => (if qg = true then ((swagelaw17_long.f qU qV qW qX qY qZ qa qb qc qd qP qQ qR qS qT).bind fun qh => (if qh = true then (swagelaw17_CodeBack.j0 k l1 true qU qV qW qX qY qZ qa qb qc qd qP qQ qR qS qT) else (swagelaw17_CodeBack.j0 k l1 (decide (20000 < l1.length)) qU qV qW qX qY qZ qa qb qc qd qP qQ qR qS qT))) else (some false))
theorem swagelaw17_CodeBack.mono_l : ∀ k, (∀ y0 y1 y2 y3 y4 y5 y6 y7 y8 y9 y10 y11 y12 y13 y14 y15 y16, LeO (swagelaw17_CodeBack.j0 k y0 y1 y2 y3 y4 y5 y6 y7 y8 y9 y10 y11 y12 y13 y14 y15 y16) (swagelaw17_CodeBack.j0 (k + 1) y0 y1 y2 y3 y4 y5 y6 y7 y8 y9 y10 y11 y12 y13 y14 y15 y16)) ∧ (∀ y0, LeO (swagelaw17_CodeBack.j1 k y0) (swagelaw17_CodeBack.j1 (k + 1) y0))
 | 0 => ⟨fun _ _ _ _ _ _ _ _ _ _ _ _ _ _ _ _ _ r h => by simp [swagelaw17_CodeBack.j0] at h, fun _ r h => by simp [swagelaw17_CodeBack.j1] at h⟩
 | k + 1 => by
  obtain ⟨ih0, ih1⟩ := swagelaw17_CodeBack.mono_l k
  refine ⟨?_, ?_⟩
  ·intro y0 y1 y2 y3 y4 y5 y6 y7 y8 y9 y10 y11 y12 y13 y14 y15 y16
   unfold swagelaw17_CodeBack.j0
   have im0 := @code_Decode.mono; have im1 := @code_Encode.mono; have im2 := @code_Same.mono; have im3 := @swagelaw17_works.mono; exact zM
  ·intro y0
   unfold swagelaw17_CodeBack.j1
   have im0 := @code_Decode.mono; have im1 := @code_Encode.mono; have im2 := @code_Same.mono; have im3 := @swagelaw17_works.mono; exact zM
theorem swagelaw17_CodeBack.mono : ∀ a0 a1 a2 a3 a4 a5 a6 a7 a8 a9 a10 a11 a12 a13 a14 a15 k, LeO (swagelaw17_CodeBack.f k a0 a1 a2 a3 a4 a5 a6 a7 a8 a9 a10 a11 a12 a13 a14 a15) (swagelaw17_CodeBack.f (k + 1) a0 a1 a2 a3 a4 a5 a6 a7 a8 a9 a10 a11 a12 a13 a14 a15) := by
 intro a0 a1 a2 a3 a4 a5 a6 a7 a8 a9 a10 a11 a12 a13 a14 a15 k
 obtain ⟨ih0, ih1⟩ := swagelaw17_CodeBack.mono_l k
 unfold swagelaw17_CodeBack.f
 have im0 := @code_Decode.mono; have im1 := @code_Encode.mono; have im2 := @code_Same.mono; have im3 := @swagelaw17_works.mono; exact zM
end Go.Proofs.Ytccbdcbeinkjgaa.XA
end
