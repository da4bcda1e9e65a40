/- Part 16 of the proof of the law CodeBack for every input: words, walks and plain laws. No condition. -/
import Derived.Test.YtccbdcbeinkjgaaKCodeBack15
section
namespace Go.Proofs.Ytccbdcbeinkjgaa.XA
open Go.Proofs.Ytccbdcbeinkjgaa.Lift Go.RowKit Go.Proofs.YtccbdcbeinkjgaaW.PrintWords Go.Proofs.YtccbdcbeinkjgaaW.PrintLast Go.Proofs.YtccbdcbeinkjgaaW.PrintMore
attribute [local go_sem] max2_int min2_int max_two min_two max_three min_three max_four min_four
set_option linter.unusedVariables false
set_option linter.unusedSimpArgs false

/-! ### slices_Clone_byte_byte: function 16 -/
def slices_Clone_byte_byte.f (l0 : List Int) : Option (List Int) := (some (([] : List Int) : List Int)).bind fun y554 => (if y554.length + l0.length < 140737488355328 then (some (y554 ++ l0)) else (none))
/-! ### api_Point_36: function 36 -/
def api_Point_36.f (l0 : List (S48)) : Option ((List (S48))) := (some (([] : List (S48)) : List (S48))).bind fun y560 => (if y560.length + l0.length < 8796093022208 then (some (y560 ++ l0)) else (none))
set_option maxHeartbeats 8000000 in
set_option maxRecDepth 100000 in
theorem api_Point_36.calls (A0 : Option Addr) (c0 : Nat) (l0 : List (S48)) (r : List (S48)) (w : World) (hr0 : Kd.C k48 w A0 l0.length l0) (hc0 : l0.length ≤ c0) (h : api_Point_36.f l0 = some r) :
  Calls Try.prog 36 #[.slice A0 l0.length c0] w fun e w' => ∃ v0_ : Value, e = .returned (v0_) ∧ Kd.R k48 48 w' w.heap.size (fun _ => True) v0_ r ∧ Below w.heap.size w w' := by
 rcases A0 with _ | a0
 ·obtain rfl : l0 = [] := by
   rcases l0 with _ | ⟨x_, l_⟩
   ·rfl
   ·obtain ⟨_, e_, _⟩ := hr0.2.2 (by simp)
    cases e_
  obtain rfl : r = [] := by simpa [api_Point_36.f] using h.symm
  have hnil_ := fun W => Lib.run_eql_slice_nil (P := Try.prog) W 22 48 none 0 c0 0 0 Try.underlying22
  go_enter Try.func36, Try.ntmps36
  go_wp2
  go_ret
  exact ⟨_, rfl, Kd.R_nil _ _ _ _ _, Below.refl _ _⟩
 ·skip
  have HR0 := aM hr0
  have HC0 := aM hc0
  clear hr0 hc0
  have HB := aM (Below.refl w.heap.size w)
  have H : ((some (([] : List (S48)) : List (S48))).bind fun y560 => (if y560.length + l0.length < 8796093022208 then (some (y560 ++ l0)) else (none))) = some r := h
  clear h
  obtain ⟨y560, hy560⟩ : ∃ y_ : List (S48), y_ = (([] : List (S48))) := ⟨_, rfl⟩
  replace H : (if y560.length + l0.length < 8796093022208 then (some (y560 ++ l0)) else (none)) = some r := zH hy560 H
  have Ny560 := aM hy560
  clear hy560
  by_cases c2 : y560.length + l0.length < 8796093022208
  ·rw [if_pos c2] at H
   have LMc2 := aM c2
   clear c2
   obtain ⟨y563, hy563⟩ : ∃ y_ : List (S48), y_ = (y560 ++ l0) := ⟨_, rfl⟩
   replace H : (some y563) = some r := zH hy563 H
   have Ny563 := aM hy563
   clear hy563
   obtain rfl := Option.some.inj H
   have hnil_ := fun W => Lib.run_eql_slice_nil (P := Try.prog) W 22 48 (some a0) l0.length c0 0 0 Try.underlying22
   go_enter Try.func36, Try.ntmps36
   go_wp2_with (first | ((with_reducible refine gate_dst (N := 5) rfl ?_); refine Kd.R_lit k48 _ 48 ?hg (N := 5) ?hd (xs := ([] : List (S48))) (inner := []) (ok := fun _ => True) (okp := fun _ => True) ?hr ?hp (fun _ hk => hk) trivial (Below.refl _ _) (Nat.le_refl _) (by simp) ?_; (case hd => rfl); (case hg => rfl); (case hr => first | (go_simp; done) | (go_simp; rfl)); (case hp => exact (Reps.none _ _)); intro v561 w3 ho4 hb hg_ hnew_; clear hg_ hnew_; (first | rw [← Ny560.out] at ho4 | (simp only [Int.reduceToNat] at ho4; rw [← Ny560.out] at ho4)); have qX := aM (Kd.R_lower ho4 (below_size (lB HB))); replace HB := aM (below_step (lB HB) hb); clear hb ho4) | ((with_reducible refine gate_builtin (b := .append) (xs := #[.tmp 5, .tmp 6]) rfl ?_); at_builtin; refine Kd.R_append_rows k48 (w0 := w) w.heap.size rfl (.tmp 5) (.tmp 6) 22 48 (.agg #[(.int .i64 0), (.int .i64 0)]) 16 rfl Try.underlying22 info48 rfl (by decide) (by omega) v561 y560 l0 _ _ _ (fun _ => True) (fun _ => False) rfl rfl ?aO ?aR (fun _ _ h => h) (fun _ h => h.elim) ?aF ?aB ?aS ?aL ?_; (case aR => repeat (first | exact (Kd.C_below HR0.out HB.out) | (with_reducible refine Kd.C_alloc ?_ _) | (with_reducible refine Kd.C_drewN ?_ _) | (with_reducible refine Kd.C_drew ?_))); (case aB => exact (lB HB)); (case aF => exact (fun _ _ => trivial)); (case aO => exact (lR qX)); (case aS => exact (below_size (lB HB))); (case aL => have := LMc2.out; omega); intro v564 w5 ho hb hg hat; rw [← Ny563.out] at ho; replace HB := aM (hb); have qd := aM (ho); clear qX; clear ho hb hg hat))
   go_ret
   exact ⟨_, zE, by apply rX; exact qd.out, zB HB⟩
  ·rw [if_neg c2] at H
   exact absurd H (by simp)

/-! ### swageref08_Copy: function 37 -/
def swageref08_Copy.f (qB : Int) (qF : Int) (qI : List (S63)) (qG : List Int) : Option (Int × Int × (List (S63)) × List Int) := if ([] : List (S63)).length + qI.length < 3518437208883 then (if ([] : List Int).length + qG.length < 17592186044416 then (some (qB, qF, (([] : List (S63)) ++ qI), (([] : List Int) ++ qG))) else (none)) else (none)
set_option maxHeartbeats 8000000 in
set_option maxRecDepth 100000 in
theorem swageref08_Copy.calls (qB : Int) (qF : Int) (qR : Option Addr) (qS : Nat) (qI : List (S63)) (qT : Option Addr) (qU : Nat) (qG : List Int) (r1 : Int) (r2 : Int) (r3 : List (S63)) (r4 : List Int) (w : World) (qY : Kd.C k63 w qR qI.length qI) (qZ : qI.length ≤ qS) (qa : Kd.C (Kd.int .i64) w qT qG.length qG) (qb : qG.length ≤ qU) (h : swageref08_Copy.f qB qF qI qG = some (r1, r2, r3, r4)) :
  Calls Try.prog 37 #[.agg #[.int .i64 qB, .int .i64 qF, .slice qR qI.length qS, .slice qT qG.length qU]] w fun e w' => ∃ v2_ v3_ : Value, e = .returned (.agg #[.int .i64 r1, .int .i64 r2, v2_, v3_]) ∧ Kd.R k63 63 w' w.heap.size (fun _ => True) v2_ r3 ∧ Kd.R (Kd.int .i64) 3 w' w.heap.size (fun _ => True) v3_ r4 ∧ Below w.heap.size w w' := by
 have hu26 := Try.underlying26
 have qe := aM qY
 have qw := aM qZ
 clear qY qZ
 have qf := aM qa
 have qx := aM qb
 clear qa qb
 have HB := aM (Below.refl w.heap.size w)
 have H : (if ([] : List (S63)).length + qI.length < 3518437208883 then (if ([] : List Int).length + qG.length < 17592186044416 then (some (qB, qF, (([] : List (S63)) ++ qI), (([] : List Int) ++ qG))) else (none)) else (none)) = some (r1, r2, r3, r4) := h
 clear h
 by_cases c2 : ([] : List (S63)).length + qI.length < 3518437208883
 ·rw [if_pos c2] at H
  have LMc2 := aM c2
  clear c2
  obtain ⟨y569, hy569⟩ : ∃ y_ : List (S63), y_ = (([] : List (S63)) ++ qI) := ⟨_, rfl⟩
  replace H : (if ([] : List Int).length + qG.length < 17592186044416 then (some (qB, qF, y569, (([] : List Int) ++ qG))) else (none)) = some (r1, r2, r3, r4) := zH hy569 H
  have Ny569 := aM hy569
  clear hy569
  by_cases c3 : ([] : List Int).length + qG.length < 17592186044416
  ·rw [if_pos c3] at H
   have LMc3 := aM c3
   clear c3
   obtain ⟨y572, hy572⟩ : ∃ y_ : List Int, y_ = (([] : List Int) ++ qG) := ⟨_, rfl⟩
   replace H : (some (qB, qF, y569, y572)) = some (r1, r2, r3, r4) := zH hy572 H
   have Ny572 := aM hy572
   clear hy572
   simp only [Option.some.injEq, Prod.mk.injEq] at H
   obtain ⟨rfl, rfl, rfl, rfl⟩ := H
   go_enter Try.func37, Try.ntmps37
   go_wp2_with (first | ((with_reducible refine gate_dst (N := 1) rfl ?_); refine box_event rfl (N := 1) rfl (cs := #[.int .i64 qB, .int .i64 qF, .slice qR qI.length qS, .slice qT qG.length qU]) (t := 26) zG ?_; intro qC hg w4 hbox hb; have qA := aM (hbox); have qy := aM ((by rw [hg]; exact (below_size (lB HB)) : w.heap.size ≤ qC)); have qz := aM ((by rw [hg]; exact (below_size (lB HB)) : w.heap.size ≤ qC)); replace HB := aM (below_step (lB HB) hb); clear hb hbox hg) | ((with_reducible refine gate_dst (N := 2) rfl ?_); refine box_event rfl (N := 2) rfl (cs := #[.int .i64 0, .int .i64 0, .slice none 0 0, .slice none 0 0]) (t := 26) zG ?_; intro qH hg w5 hbox hb; have qD := aM (hbox); have q0 := aM ((by rw [hg]; exact (below_size (zB HB)) : w.heap.size ≤ qH)); have q1 := aM ((by rw [hg]; exact (below_size (zB HB)) : w.heap.size ≤ qH)); replace HB := aM (below_step (zB HB) hb); have qM := aM ((by rw [hg]; exact Nat.ne_of_lt (blk_lt (g := qC) (lK qA)) : qC ≠ qH)); have qN := aM ((by rw [hg]; exact Nat.ne_of_gt (blk_lt (g := qC) (lK qA)) : qH ≠ qC)); replace qA := aM (blk_below (g := qC) (lK qA) hb); clear hb hbox hg; have q6 := qM.out; have q7 := qN.out; have qu := zc4 qA.out; have qv := fun i_ : Nat => blk_frozen qA.out i_) | ((with_reducible refine gate_dst (N := 3) rfl ?_); refine box_event rfl (N := 3) rfl (cs := #[.int .i64 0, .int .i64 0, .slice none 0 0, .slice none 0 0]) (t := 26) zG ?_; intro qJ hg w8 hbox hb; have qE := aM (hbox); have q2 := aM ((by rw [hg]; exact (below_size (zB HB)) : w.heap.size ≤ qJ)); have q3 := aM ((by rw [hg]; exact (below_size (zB HB)) : w.heap.size ≤ qJ)); replace HB := aM (below_step (zB HB) hb); have qO := aM ((by rw [hg]; exact Nat.ne_of_lt (blk_lt (g := qC) (lK qA)) : qC ≠ qJ)); have qP := aM ((by rw [hg]; exact Nat.ne_of_gt (blk_lt (g := qC) (lK qA)) : qJ ≠ qC)); replace qA := aM (blk_below (g := qC) (lK qA) hb); have qK := aM ((by rw [hg]; exact Nat.ne_of_lt (blk_lt (g := qH) (lK qD)) : qH ≠ qJ)); have qQ := aM ((by rw [hg]; exact Nat.ne_of_gt (blk_lt (g := qH) (lK qD)) : qJ ≠ qH)); replace qD := aM (blk_below (g := qH) (lK qD) hb); clear hb hbox hg; have q8 := qP.out; have q9 := qO.out; have q4 := qQ.out; have q5 := qK.out; have qi := zc4 qE.out; have qj := fun i_ : Nat => blk_frozen qE.out i_; have qk := zc4 qA.out; have ql := fun i_ : Nat => blk_frozen qA.out i_) | ((with_reducible refine gate_builtin (b := .append) (xs := #[.tmp 10, .tmp 12]) rfl ?_); at_builtin; refine Kd.R_append_rows k63 (w0 := w) w.heap.size rfl (.tmp 10) (.tmp 12) 23 63 (.agg #[(.int .i64 0), (.int .i64 0), (.int .i64 0), (.int .i64 0), (.int .i64 0)]) 40 rfl Try.underlying23 info63 rfl (by decide) (by omega) (.slice none 0 0) ([] : List (S63)) qI _ _ _ (fun _ => True) (fun _ => False) rfl rfl ?aO ?aR (fun _ _ h => h) (fun _ h => h.elim) ?aF ?aB ?aS ?aL ?_; (case aR => exact Kd.C_below qe.out (zB HB)); (case aB => exact (zB HB)); (case aF => exact (fun _ _ => trivial)); (case aO => exact ((Kd.R_nil _ _ _ _ (fun _ => True)))); (case aS => exact (below_size (zB HB))); (case aL => have := LMc2.out; omega); intro v570 w13 ho hb hg hat; rw [← Ny569.out] at ho; replace qA := aM (blk_grown (g := qC) (zb qA) hg (by simp [Value.ownBlock])); replace qD := aM (blk_grown (g := qH) (zb qD) hg (by simp [Value.ownBlock])); replace qE := aM (blk_grown (g := qJ) (o := .cells #[.int .i64 qB, .int .i64 qF, .slice none 0 0, .slice none 0 0] 26 (0, 0)) (by refine lZ ?_; refine blk_put (cs := #[.int .i64 qB, .int .i64 qF, .slice none 0 0, .slice none 0 0]) ?_ 3 _ rfl; refine lZ ?_; refine blk_put (cs := #[.int .i64 qB, .int .i64 qF, .slice none 0 0, .slice none 0 0]) ?_ 2 _ rfl; refine lZ ?_; refine blk_put (cs := #[.int .i64 qB, .int .i64 0, .slice none 0 0, .slice none 0 0]) ?_ 1 _ rfl; refine lZ ?_; refine blk_put (cs := #[.int .i64 0, .int .i64 0, .slice none 0 0, .slice none 0 0]) ?_ 0 _ rfl; refine lZ ?_; exact qE.out) hg (by simp [Value.ownBlock])); replace HB := aM (hb); have qL := aM (ho); clear ho hb hg hat; obtain ⟨qV, qW, eo14⟩ := Kd.R_slice qL.out; subst eo14; have qm := zc4 qE.out; have qn := fun i_ : Nat => blk_frozen qE.out i_; have qo := zc4 qA.out; have qp := fun i_ : Nat => blk_frozen qA.out i_) | ((with_reducible refine gate_builtin (b := .append) (xs := #[.tmp 16, .tmp 18]) rfl ?_); at_builtin; refine Kd.R_append_rows (Kd.int .i64) (w0 := w) w.heap.size rfl (.tmp 16) (.tmp 18) 24 3 (.int .i64 0) 8 rfl Try.underlying24 info3 rfl (by decide) (by omega) (.slice none 0 0) ([] : List Int) qG _ _ _ (fun _ => True) (fun _ => False) rfl rfl ?aO ?aR (fun _ _ h => h) (fun _ h => h.elim) ?aF ?aB ?aS ?aL ?_; (case aR => exact Kd.C_below qf.out (zB HB)); (case aB => exact (zB HB)); (case aF => exact (fun _ _ => trivial)); (case aO => exact ((Kd.R_nil _ _ _ _ (fun _ => True)))); (case aS => exact (below_size (zB HB))); (case aL => have := LMc3.out; omega); intro v573 w17 ho hb hg hat; rw [← Ny572.out] at ho; replace qA := aM (blk_grown (g := qC) (zb qA) hg (by simp [Value.ownBlock])); replace qD := aM (blk_grown (g := qH) (zb qD) hg (by simp [Value.ownBlock])); replace qL := aM (Kd.R_grown (by apply rX; exact (Kd.R_mono (fA (Kd.R_types qL.out qE.out (by decide))) (fun _ h_ => h_.1))) hg (fun _ _ => by simp [Value.ownBlock])); replace qE := aM (blk_grown (g := qJ) (o := .cells #[.int .i64 qB, .int .i64 qF, .slice qV y569.length qW, .slice none 0 0] 26 (0, 0)) (by refine lZ ?_; refine blk_put (cs := #[.int .i64 qB, .int .i64 qF, .slice none 0 0, .slice none 0 0]) ?_ 2 _ rfl; refine lZ ?_; exact qE.out) hg (by simp [Value.ownBlock])); replace HB := aM (hb); have qc := aM (ho); clear ho hb hg hat; obtain ⟨qg, qh, eo18⟩ := Kd.R_slice qc.out; subst eo18; have qq := zc4 qE.out; have qr := fun i_ : Nat => blk_frozen qE.out i_; have qs := zc4 qD.out; have qt := fun i_ : Nat => blk_frozen qD.out i_))
   refine bodyPost_ret (results_cell_row rfl _ _ qH 26 #[.int .i64 qB, .int .i64 qF, .slice qV y569.length qW, .slice qg y572.length qh] (0, 0) _ rfl (by refine lZ ?_; refine blk_put (cs := #[.int .i64 qB, .int .i64 qF, .slice qV y569.length qW, .slice none 0 0]) ?_ 3 _ rfl; refine lZ ?_; refine blk_put (cs := #[.int .i64 qB, .int .i64 qF, .slice none 0 0, .slice none 0 0]) ?_ 2 _ rfl; refine lZ ?_; refine blk_put (cs := #[.int .i64 qB, .int .i64 0, .slice none 0 0, .slice none 0 0]) ?_ 1 _ rfl; refine lZ ?_; refine blk_put (cs := #[.int .i64 0, .int .i64 0, .slice none 0 0, .slice none 0 0]) ?_ 0 _ rfl; refine lZ ?_; refine blk_far ?_ qK.out _; refine lZ ?_; exact qD.out) Try.underlying26 rfl zk) rfl ?_
   exact ⟨_, _, zE, by apply rX; exact Kd.R_mono (fA (fA (fA (fA (fB (Kd.R_types (Kd.R_types qL.out qE.out (by decide)) qD.out (by decide))))))) (fun _ hk => trivial), by apply rX; exact Kd.R_mono (fA (fA (fA (fA (fB (Kd.R_types (Kd.R_types qc.out qE.out (by decide)) qD.out (by decide))))))) (fun _ hk => trivial), zB HB⟩
  ·rw [if_neg c3] at H
   exact absurd H (by simp)
 ·rw [if_neg c2] at H
  exact absurd H (by simp)

end Go.Proofs.Ytccbdcbeinkjgaa.XA
end

section
namespace Go.Proofs.Ytccbdcbeinkjgaa.XA
open Go.Proofs.Ytccbdcbeinkjgaa.Lift Go.RowKit Go.Proofs.YtccbdcbeinkjgaaW.PrintWords Go.Proofs.YtccbdcbeinkjgaaW.PrintLast Go.Proofs.YtccbdcbeinkjgaaW.PrintMore
attribute [local go_sem] max2_int min2_int max_two min_two max_three min_three max_four min_four
set_option linter.unusedVariables false
set_option linter.unusedSimpArgs false

/-! ### swagelaw17_copied: function 19 -/
def swagelaw17_copied.f (qR : Int) (qS : Int) (qY : List (S48)) (qT : Int) (qU : Int) (qN : List (S63)) (qO : List Int) (qP : Int) (qQ : Int) (qM : List (S63)) (qH : List Int) (qJ : Int) (qK : Int) (qF : List (S63)) (qG : List Int) : Option (Int × Int × (List (S48)) × Int × Int × (List (S63)) × List Int × Int × Int × (List (S63)) × List Int × Int × Int × (List (S63)) × List Int) := (api_Point_36.f qY).bind fun qL => ((swageref08_Copy.f qT qU qN qO).bind fun bt580 => ((swageref08_Copy.f qP qQ qM qH).bind fun bt588 => ((swageref08_Copy.f qJ qK qF qG).bind fun bt596 => (some (qR, qS, qL, bt580.1, bt580.2.1, bt580.2.2.1, bt580.2.2.2, bt588.1, bt588.2.1, bt588.2.2.1, bt588.2.2.2, bt596.1, bt596.2.1, bt596.2.2.1, bt596.2.2.2)))))
def swagelaw17_copied.T2 : Bool × List (List Nat × List Nat) := (true, [([], []), ([0], [0]), ([1], [1]), ([], []), ([3], [3]), ([4, 2], [4]), ([], []), ([6], [6]), ([7, 5], [7]), ([0, 1, 2, 3, 4, 6, 7], []), ([9, 2, 8, 0, 1, 2, 3, 4, 6, 7], [2, 9]), ([0, 1, 2, 3, 4, 5, 6, 7, 9, 10], []), ([11, 5, 10, 0, 1, 2, 3, 4, 5, 6, 7, 9, 10], [5, 11]), ([0, 1, 2, 3, 4, 5, 6, 7, 8, 9, 10, 11, 12], []), ([13, 8, 12, 0, 1, 2, 3, 4, 5, 6, 7, 8, 9, 10, 11, 12], [8, 13])])
def swagelaw17_copied.B2 : List Nat := [0, 1, 3, 0, 8, 31, 0, 64, 255, 223, 1023, 2047, 4095, 8191, 16383]
theorem swagelaw17_copied.tab2 : rtab .any (opsOf Try.f19 2) = swagelaw17_copied.T2 := by kernel_rfl
theorem swagelaw17_copied.bits2 : waitsOk swagelaw17_copied.T2.2 swagelaw17_copied.B2 = true := by kernel_rfl
set_option maxHeartbeats 8000000 in
set_option maxRecDepth 100000 in
theorem swagelaw17_copied.calls (qR : Int) (qS : Int) (qp : Option Addr) (qq : Nat) (qY : List (S48)) (qT : Int) (qU : Int) (qj : Option Addr) (qk : Nat) (qN : List (S63)) (ql : Option Addr) (qm : Nat) (qO : List Int) (qP : Int) (qQ : Int) (qf : Option Addr) (qg : Nat) (qM : List (S63)) (qZ : Option Addr) (qa : Nat) (qH : List Int) (qJ : Int) (qK : Int) (qb : Option Addr) (qc : Nat) (qF : List (S63)) (qd : Option Addr) (qe : Nat) (qG : List Int) (r1 : Int) (r2 : Int) (r3 : List (S48)) (r4 : Int) (r5 : Int) (r6 : List (S63)) (r7 : List Int) (r8 : Int) (r9 : Int) (r10 : List (S63)) (r11 : List Int) (r12 : Int) (r13 : Int) (r14 : List (S63)) (r15 : List Int) (w : World) (q9 : Kd.C k48 w qp qY.length qY) (jA : qY.length ≤ qq) (jB : Kd.C k63 w qj qN.length qN) (jC : qN.length ≤ qk) (jD : Kd.C (Kd.int .i64) w ql qO.length qO) (jE : qO.length ≤ qm) (jF : Kd.C k63 w qf qM.length qM) (jG : qM.length ≤ qg) (qz : Kd.C (Kd.int .i64) w qZ qH.length qH) (q0 : qH.length ≤ qa) (q1 : Kd.C k63 w qb qF.length qF) (q2 : qF.length ≤ qc) (q3 : Kd.C (Kd.int .i64) w qd qG.length qG) (q4 : qG.length ≤ qe) (h : swagelaw17_copied.f qR qS qY qT qU qN qO qP qQ qM qH qJ qK qF qG = some (r1, r2, r3, r4, r5, r6, r7, r8, r9, r10, r11, r12, r13, r14, r15)) :
  Calls Try.prog 19 #[.agg #[.int .i64 qR, .int .i64 qS, .slice qp qY.length qq, .int .i64 qT, .int .i64 qU, .slice qj qN.length qk, .slice ql qO.length qm, .int .i64 qP, .int .i64 qQ, .slice qf qM.length qg, .slice qZ qH.length qa, .int .i64 qJ, .int .i64 qK, .slice qb qF.length qc, .slice qd qG.length qe]] w fun e w' => ∃ v2_ v5_ v6_ v9_ v10_ v13_ v14_ : Value, e = .returned (.agg #[.int .i64 r1, .int .i64 r2, v2_, .int .i64 r4, .int .i64 r5, v5_, v6_, .int .i64 r8, .int .i64 r9, v9_, v10_, .int .i64 r12, .int .i64 r13, v13_, v14_]) ∧ Kd.R k48 48 w' w.heap.size (fun _ => True) v2_ r3 ∧ Kd.R k63 63 w' w.heap.size (fun k_ => some k_ ≠ (v9_ : Value).ownBlock ∧ some k_ ≠ (v13_ : Value).ownBlock) v5_ r6 ∧ Kd.R (Kd.int .i64) 3 w' w.heap.size (fun k_ => some k_ ≠ (v10_ : Value).ownBlock ∧ some k_ ≠ (v14_ : Value).ownBlock) v6_ r7 ∧ Kd.R k63 63 w' w.heap.size (fun k_ => some k_ ≠ (v5_ : Value).ownBlock ∧ some k_ ≠ (v13_ : Value).ownBlock) v9_ r10 ∧ Kd.R (Kd.int .i64) 3 w' w.heap.size (fun k_ => some k_ ≠ (v6_ : Value).ownBlock ∧ some k_ ≠ (v14_ : Value).ownBlock) v10_ r11 ∧ Kd.R k63 63 w' w.heap.size (fun k_ => some k_ ≠ (v5_ : Value).ownBlock ∧ some k_ ≠ (v9_ : Value).ownBlock) v13_ r14 ∧ Kd.R (Kd.int .i64) 3 w' w.heap.size (fun k_ => some k_ ≠ (v6_ : Value).ownBlock ∧ some k_ ≠ (v10_ : Value).ownBlock) v14_ r15 ∧ Below w.heap.size w w' := by
 have hu28 := Try.underlying28
 have hu26 := Try.underlying26
 have jP := aM q9
 have jQ := aM jA
 clear q9 jA
 have jR := aM jB
 have jS := aM jC
 clear jB jC
 have jT := aM jD
 have jU := aM jE
 clear jD jE
 have jV := aM jF
 have jW := aM jG
 clear jF jG
 have jJ := aM qz
 have jK := aM q0
 clear qz q0
 have jL := aM q1
 have jM := aM q2
 clear q1 q2
 have jN := aM q3
 have jO := aM q4
 clear q3 q4
 have HB := aM (Below.refl w.heap.size w)
 have H : ((api_Point_36.f qY).bind fun qL => ((swageref08_Copy.f qT qU qN qO).bind fun bt580 => ((swageref08_Copy.f qP qQ qM qH).bind fun bt588 => ((swageref08_Copy.f qJ qK qF qG).bind fun bt596 => (some (qR, qS, qL, bt580.1, bt580.2.1, bt580.2.2.1, bt580.2.2.2, bt588.1, bt588.2.1, bt588.2.2.1, bt588.2.2.2, bt596.1, bt596.2.1, bt596.2.2.1, bt596.2.2.2)))))) = some (r1, r2, r3, r4, r5, r6, r7, r8, r9, r10, r11, r12, r13, r14, r15) := h
 clear h
 replace H := Option.bind_eq_some_iff.mp H
 obtain ⟨qL, A20, H⟩ := H
 replace H : ((swageref08_Copy.f qT qU qN qO).bind fun bt580 => ((swageref08_Copy.f qP qQ qM qH).bind fun bt588 => ((swageref08_Copy.f qJ qK qF qG).bind fun bt596 => (some (qR, qS, qL, bt580.1, bt580.2.1, bt580.2.2.1, bt580.2.2.2, bt588.1, bt588.2.1, bt588.2.2.1, bt588.2.2.2, bt596.1, bt596.2.1, bt596.2.2.1, bt596.2.2.2))))) = some (r1, r2, r3, r4, r5, r6, r7, r8, r9, r10, r11, r12, r13, r14, r15) := H
 have A2 := aM A20
 clear A20
 replace H := Option.bind_eq_some_iff.mp H
 obtain ⟨⟨qr, qs, qt, qu⟩, A30, H⟩ := H
 replace H : ((swageref08_Copy.f qP qQ qM qH).bind fun bt588 => ((swageref08_Copy.f qJ qK qF qG).bind fun bt596 => (some (qR, qS, qL, qr, qs, qt, qu, bt588.1, bt588.2.1, bt588.2.2.1, bt588.2.2.2, bt596.1, bt596.2.1, bt596.2.2.1, bt596.2.2.2)))) = some (r1, r2, r3, r4, r5, r6, r7, r8, r9, r10, r11, r12, r13, r14, r15) := H
 have A3 := aM A30
 clear A30
 replace H := Option.bind_eq_some_iff.mp H
 obtain ⟨⟨qv, qw, qx, qy⟩, A40, H⟩ := H
 replace H : ((swageref08_Copy.f qJ qK qF qG).bind fun bt596 => (some (qR, qS, qL, qr, qs, qt, qu, qv, qw, qx, qy, bt596.1, bt596.2.1, bt596.2.2.1, bt596.2.2.2))) = some (r1, r2, r3, r4, r5, r6, r7, r8, r9, r10, r11, r12, r13, r14, r15) := H
 have A4 := aM A40
 clear A40
 replace H := Option.bind_eq_some_iff.mp H
 obtain ⟨⟨q5, q6, q7, q8⟩, A50, H⟩ := H
 replace H : (some (qR, qS, qL, qr, qs, qt, qu, qv, qw, qx, qy, q5, q6, q7, q8)) = some (r1, r2, r3, r4, r5, r6, r7, r8, r9, r10, r11, r12, r13, r14, r15) := H
 have A5 := aM A50
 clear A50
 simp only [Option.some.injEq, Prod.mk.injEq] at H
 obtain ⟨rfl, rfl, rfl, rfl, rfl, rfl, rfl, rfl, rfl, rfl, rfl, rfl, rfl, rfl, rfl⟩ := H
 go_enter Try.func19, Try.ntmps19
 try go_wp2_with (first | ((with_reducible refine gate_dst (N := 1) rfl ?_); refine box_event rfl (N := 1) rfl (cs := #[.int .i64 qR, .int .i64 qS, .slice qp qY.length qq, .int .i64 qT, .int .i64 qU, .slice qj qN.length qk, .slice ql qO.length qm, .int .i64 qP, .int .i64 qQ, .slice qf qM.length qg, .slice qZ qH.length qa, .int .i64 qJ, .int .i64 qK, .slice qb qF.length qc, .slice qd qG.length qe]) (t := 28) zG ?_; intro qB hg w6 hbox hb; have qA := aM (hbox); have yF := aM ((by rw [hg]; exact (below_size (lB HB)) : w.heap.size ≤ qB)); have yG := aM ((by rw [hg]; exact (below_size (lB HB)) : w.heap.size ≤ qB)); replace HB := aM (below_step (lB HB) hb); clear hb hbox hg) | ((with_reducible refine gate_dst (N := 2) rfl ?_); refine box_event rfl (N := 2) rfl (cs := #[.int .i64 0, .int .i64 0, .slice none 0 0, .int .i64 0, .int .i64 0, .slice none 0 0, .slice none 0 0, .int .i64 0, .int .i64 0, .slice none 0 0, .slice none 0 0, .int .i64 0, .int .i64 0, .slice none 0 0, .slice none 0 0]) (t := 28) zG ?_; intro qV hg w7 hbox hb; have qD := aM (hbox); have yH := aM ((by rw [hg]; exact (below_size (zB HB)) : w.heap.size ≤ qV)); have yI := aM ((by rw [hg]; exact (below_size (zB HB)) : w.heap.size ≤ qV)); replace HB := aM (below_step (zB HB) hb); have qE := aM ((by rw [hg]; exact Nat.ne_of_lt (blk_lt (g := qB) (lK qA)) : qB ≠ qV)); have qC := aM ((by rw [hg]; exact Nat.ne_of_gt (blk_lt (g := qB) (lK qA)) : qV ≠ qB)); replace qA := aM (blk_below (g := qB) (lK qA) hb); clear hb hbox hg; have yV := qE.out; have yW := qC.out; have yD := zc15 qA.out; have yE := fun i_ : Nat => blk_frozen qA.out i_) | ((with_reducible refine gate_callee (f := 36) rfl ?_); refine goesL_ (some 5) rfl rfl Try.func36 zk rfl #[.slice qp qY.length qq] rfl zA ?_; (with_reducible refine (api_Point_36.calls _ _ qY qL _ ?side1 ?side2 A2.out).mono ?_); (case side1 => refine lY ?_; exact (Kd.C_below jP.out HB.out)); (case side2 => exact jQ.out); rintro e w10 ⟨v578, rfl, ho0, hb⟩; refine ⟨_, rfl, ?_⟩; have qI := aM (Kd.R_lower ho0 (below_size (zB HB))); replace qA := aM (blk_below (g := qB) (lK qA) hb); replace qD := aM (blk_below (g := qV) (lK qD) hb); replace HB := aM (below_step (zB HB) hb); (try clear hb); (try clear ho0); obtain ⟨qh, qi, eo11⟩ := Kd.R_slice qI.out; subst eo11; have jj := zc15 qA.out; have jk := fun i_ : Nat => blk_frozen qA.out i_))
 have n0_ : Aside0 (Kd.R k48 48 (w10.setCell ⟨qB, 2, none⟩ (.slice qh qL.length qi)) w.heap.size (fun _ => True) (.slice qh qL.length qi) qL) := ⟨by apply rX; exact Kd.R_mono (fA (Kd.R_types qI.out qA.out (by decide))) (fun _ hk => trivial)⟩
 have n1_ : Aside0 ((w10.setCell ⟨qB, 2, none⟩ (.slice qh qL.length qi)).heap[qB]? = some (.cells #[.int .i64 qR, .int .i64 qS, .slice qh qL.length qi, .int .i64 qT, .int .i64 qU, .slice qj qN.length qk, .slice ql qO.length qm, .int .i64 qP, .int .i64 qQ, .slice qf qM.length qg, .slice qZ qH.length qa, .int .i64 qJ, .int .i64 qK, .slice qb qF.length qc, .slice qd qG.length qe] 28 (0, 0))) := ⟨by refine lZ ?_; refine blk_put (cs := #[.int .i64 qR, .int .i64 qS, .slice qp qY.length qq, .int .i64 qT, .int .i64 qU, .slice qj qN.length qk, .slice ql qO.length qm, .int .i64 qP, .int .i64 qQ, .slice qf qM.length qg, .slice qZ qH.length qa, .int .i64 qJ, .int .i64 qK, .slice qb qF.length qc, .slice qd qG.length qe]) ?_ 2 _ rfl; refine lZ ?_; exact qA.out⟩
 have n2_ : Aside0 ((w10.setCell ⟨qB, 2, none⟩ (.slice qh qL.length qi)).heap[qV]? = some (.cells #[.int .i64 0, .int .i64 0, .slice none 0 0, .int .i64 0, .int .i64 0, .slice none 0 0, .slice none 0 0, .int .i64 0, .int .i64 0, .slice none 0 0, .slice none 0 0, .int .i64 0, .int .i64 0, .slice none 0 0, .slice none 0 0] 28 (0, 0))) := ⟨zb qD⟩
 have n3_ : Aside0 (Below w.heap.size w (w10.setCell ⟨qB, 2, none⟩ (.slice qh qL.length qi))) := ⟨zB HB⟩
 (try clear qI)
 (try clear qA)
 (try clear qD)
 (try clear HB)
 generalize (w10.setCell ⟨qB, 2, none⟩ (.slice qh qL.length qi)) = w13 at n0_ n1_ n2_ n3_ ⊢
 have qI := n0_
 have qA := n1_
 have qD := n2_
 have HB := n3_
 clear n0_ n1_ n2_ n3_
 have n0_ := aM (Kd.R_drew qI.out)
 have n1_ := aM (blk_drew qA.out)
 have n2_ := aM (blk_drew qD.out)
 have n3_ := aM (below_drew1 HB.out)
 clear qI
 clear qA
 clear qD
 clear HB
 have qI := n0_
 have qA := n1_
 have qD := n2_
 have HB := n3_
 clear n0_ n1_ n2_ n3_
 refine start_ (n := 15) (S := fun w' => w'.cell? ⟨qB, 0, none⟩ = some (.int .i64 qR) ∧ w'.cell? ⟨qB, 1, none⟩ = some (.int .i64 qS) ∧ w'.cell? ⟨qB, 2, none⟩ = some (.slice qh qL.length qi) ∧ w'.cell? ⟨qB, 3, none⟩ = some (.int .i64 qT) ∧ w'.cell? ⟨qB, 4, none⟩ = some (.int .i64 qU) ∧ w'.cell? ⟨qB, 5, none⟩ = some (.slice qj qN.length qk) ∧ w'.cell? ⟨qB, 6, none⟩ = some (.slice ql qO.length qm) ∧ w'.cell? ⟨qB, 7, none⟩ = some (.int .i64 qP) ∧ w'.cell? ⟨qB, 8, none⟩ = some (.int .i64 qQ) ∧ w'.cell? ⟨qB, 9, none⟩ = some (.slice qf qM.length qg) ∧ w'.cell? ⟨qB, 10, none⟩ = some (.slice qZ qH.length qa) ∧ w'.cell? ⟨qB, 11, none⟩ = some (.int .i64 qJ) ∧ w'.cell? ⟨qB, 12, none⟩ = some (.int .i64 qK) ∧ w'.cell? ⟨qB, 13, none⟩ = some (.slice qb qF.length qc) ∧ w'.cell? ⟨qB, 14, none⟩ = some (.slice qd qG.length qe)) (ds := [10, 12, 14]) (bs 15 0) zk rfl rfl ⟨(blk_cell qA.out 0).trans rfl, (blk_cell qA.out 1).trans rfl, (blk_cell qA.out 2).trans rfl, (blk_cell qA.out 3).trans rfl, (blk_cell qA.out 4).trans rfl, (blk_cell qA.out 5).trans rfl, (blk_cell qA.out 6).trans rfl, (blk_cell qA.out 7).trans rfl, (blk_cell qA.out 8).trans rfl, (blk_cell qA.out 9).trans rfl, (blk_cell qA.out 10).trans rfl, (blk_cell qA.out 11).trans rfl, (blk_cell qA.out 12).trans rfl, (blk_cell qA.out 13).trans rfl, (blk_cell qA.out 14).trans rfl⟩ (fun hHeld => ?_); refine with_tabW swagelaw17_copied.tab2 swagelaw17_copied.bits2 (fun HT_ HW_ => ?_)
 generalize w13.drew = w14 at qI qA qD HB hHeld ⊢
 refine pQ 0 7 15 1 ?_
 refine pQ 3 10 15 9 ?_
 refine pQ 6 13 15 73 ?_
 refine take_ (i := 1) (N := some 8) (v := ?_) (a' := ?_) (bs 15 75) rfl rfl (take_ofW HT_.out HW_.out zk) (fun _ _ _ h => h) (Or.inl ⟨by rfl, ?_⟩) hHeld ?_ ?_
 rotate_left
 ·rintro w' ⟨s0, s1, s2, s3, s4, s5, s6, s7, s8, s9, s10, s11, s12, s13, s14⟩
  go_simp
  with_reducible rfl
 rotate_left
 ·simp only [Act.put, List.setIfInBounds_toArray, List.set_cons_zero, List.set_cons_succ, i64_w, i32_w]
  rfl
 refine take_ (i := 4) (N := some 11) (v := ?_) (a' := ?_) (bs 15 91) rfl rfl (take_ofW HT_.out HW_.out zk) (fun _ _ _ h => h) (Or.inl ⟨by rfl, ?_⟩) hHeld ?_ ?_
 rotate_left
 ·rintro w' ⟨s0, s1, s2, s3, s4, s5, s6, s7, s8, s9, s10, s11, s12, s13, s14⟩
  go_simp
  with_reducible rfl
 rotate_left
 ·simp only [Act.put, List.setIfInBounds_toArray, List.set_cons_zero, List.set_cons_succ, i64_w, i32_w]
  rfl
 refine take_ (i := 7) (N := some 14) (v := ?_) (a' := ?_) (bs 15 219) rfl rfl (take_ofW HT_.out HW_.out zk) (fun _ _ _ h => h) (Or.inl ⟨by rfl, ?_⟩) hHeld ?_ ?_
 rotate_left
 ·rintro w' ⟨s0, s1, s2, s3, s4, s5, s6, s7, s8, s9, s10, s11, s12, s13, s14⟩
  go_simp
  with_reducible rfl
 rotate_left
 ·simp only [Act.put, List.setIfInBounds_toArray, List.set_cons_zero, List.set_cons_succ, i64_w, i32_w]
  rfl
 refine one_ (i := 2) (N := some 9) (bs 15 223) rfl rfl (one_of HT_.out zk) (by decide) (fun K hK => ?_)
 refine goes_ Try.func37 zk rfl #[.agg #[.int .i64 qT, .int .i64 qU, .slice qj qN.length qk, .slice ql qO.length qm]] (by rfl) rfl rfl zA ?_
 with_reducible refine (swageref08_Copy.calls qT qU _ _ qN _ _ qO qr qs qt qu _ ?side1 ?side2 ?side3 ?side4 A3.out).mono ?_
 (case side1 => refine lY ?_; exact (Kd.C_below jR.out HB.out))
 (case side2 => exact jS.out)
 (case side3 => refine lY ?_; exact (Kd.C_below jT.out HB.out))
 (case side4 => exact jU.out)
 rintro e w15 ⟨v583, v586, rfl, ho0, ho1, hb⟩
 refine ⟨_, rfl, ?_⟩
 have n0_ := aM (Kd.R_below (lR qI) hb)
 have n1_ := aM (Kd.R_lower ho0 (below_size (zB HB)))
 have n2_ := aM (Kd.R_lower ho1 (below_size (zB HB)))
 have n3_ := aM (blk_below (g := qB) (lK qA) hb)
 have n4_ := aM (blk_below (g := qV) (lK qD) hb)
 have n5_ := aM (below_step (zB HB) hb)
 clear qI
 clear qA
 clear qD
 clear HB
 have qI := n0_
 have qW := n1_
 have qX := n2_
 have qA := n3_
 have qD := n4_
 have HB := n5_
 clear n0_ n1_ n2_ n3_ n4_ n5_
 (try clear hb)
 (try clear hb2)
 (try clear hk)
 (try clear hi)
 (try clear ho0)
 (try clear ho1)
 refine hK.out _ _ (zc15 qA.out) (fun hHeld => ?_)
 clear hK K
 refine norm_ (a' := ?_) ?_ ?_
 rotate_left
 ·show Act.put _ (some 9) _ = _
  simp only [Act.put, List.setIfInBounds_toArray, List.set_cons_zero, List.set_cons_succ, i64_w, i32_w]
  rfl
 refine pQ 9 16 15 735 ?_
 refine one_ (i := 5) (N := some 12) (bs 15 767) rfl rfl (one_of HT_.out zk) (by decide) (fun K hK => ?_)
 refine goes_ Try.func37 zk rfl #[.agg #[.int .i64 qP, .int .i64 qQ, .slice qf qM.length qg, .slice qZ qH.length qa]] (by rfl) rfl rfl zA ?_
 with_reducible refine (swageref08_Copy.calls qP qQ _ _ qM _ _ qH qv qw qx qy _ ?side1 ?side2 ?side3 ?side4 A4.out).mono ?_
 (case side1 => refine lY ?_; exact (Kd.C_below jV.out HB.out))
 (case side2 => exact jW.out)
 (case side3 => refine lY ?_; exact (Kd.C_below jJ.out HB.out))
 (case side4 => exact jK.out)
 rintro e w16 ⟨v591, v594, rfl, ho0, ho1, hb⟩
 refine ⟨_, rfl, ?_⟩
 have n0_ := aM (Kd.R_below (lR qI) hb)
 have n1_ := aM (Kd.R_elder' (lR qW) (Kd.R_base ho0) hb)
 have n2_ := aM (Kd.R_elder' (lR qX) (Kd.R_base ho1) hb)
 have n3_ := aM (Kd.R_lower (Kd.R_new' ho0 (Kd.R_lt (lR qW))) (below_size (zB HB)))
 have n4_ := aM (Kd.R_lower (Kd.R_new' ho1 (Kd.R_lt (lR qX))) (below_size (zB HB)))
 have n5_ := aM (blk_below (g := qB) (lK qA) hb)
 have n6_ := aM (blk_below (g := qV) (lK qD) hb)
 have n7_ := aM (below_step (zB HB) hb)
 clear qI
 clear qW
 clear qX
 clear qA
 clear qD
 clear HB
 have qI := n0_
 have qW := n1_
 have qX := n2_
 have qn := n3_
 have qo := n4_
 have qA := n5_
 have qD := n6_
 have HB := n7_
 clear n0_ n1_ n2_ n3_ n4_ n5_ n6_ n7_
 (try clear hb)
 (try clear hb2)
 (try clear hk)
 (try clear hi)
 (try clear ho0)
 (try clear ho1)
 refine hK.out _ _ (zc15 qA.out) (fun hHeld => ?_)
 clear hK K
 refine norm_ (a' := ?_) ?_ ?_
 rotate_left
 ·show Act.put _ (some 12) _ = _
  simp only [Act.put, List.setIfInBounds_toArray, List.set_cons_zero, List.set_cons_succ, i64_w, i32_w]
  rfl
 refine one_ (i := 8) (N := some 15) (bs 15 1023) rfl rfl (one_of HT_.out zk) (by decide) (fun K hK => ?_)
 refine goes_ Try.func37 zk rfl #[.agg #[.int .i64 qJ, .int .i64 qK, .slice qb qF.length qc, .slice qd qG.length qe]] (by rfl) rfl rfl zA ?_
 with_reducible refine (swageref08_Copy.calls qJ qK _ _ qF _ _ qG q5 q6 q7 q8 _ ?side1 ?side2 ?side3 ?side4 A5.out).mono ?_
 (case side1 => refine lY ?_; exact (Kd.C_below jL.out HB.out))
 (case side2 => exact jM.out)
 (case side3 => refine lY ?_; exact (Kd.C_below jN.out HB.out))
 (case side4 => exact jO.out)
 rintro e w17 ⟨v599, v602, rfl, ho0, ho1, hb⟩
 refine ⟨_, rfl, ?_⟩
 have n0_ := aM (Kd.R_below (lR qI) hb)
 have n1_ := aM (Kd.R_elder' (lR qW) (Kd.R_base ho0) hb)
 have n2_ := aM (Kd.R_elder' (lR qX) (Kd.R_base ho1) hb)
 have n3_ := aM (Kd.R_elder' (lR qn) (Kd.R_base ho0) hb)
 have n4_ := aM (Kd.R_elder' (lR qo) (Kd.R_base ho1) hb)
 have n5_ := aM (Kd.R_lower (Kd.R_new' (Kd.R_new' ho0 (Kd.R_lt (lR qW))) (Kd.R_lt (lR qn))) (below_size (zB HB)))
 have n6_ := aM (Kd.R_lower (Kd.R_new' (Kd.R_new' ho1 (Kd.R_lt (lR qX))) (Kd.R_lt (lR qo))) (below_size (zB HB)))
 have n7_ := aM (blk_below (g := qB) (lK qA) hb)
 have n8_ := aM (blk_below (g := qV) (lK qD) hb)
 have n9_ := aM (below_step (zB HB) hb)
 clear qI
 clear qW
 clear qX
 clear qn
 clear qo
 clear qA
 clear qD
 clear HB
 have qI := n0_
 have qW := n1_
 have qX := n2_
 have qn := n3_
 have qo := n4_
 have jH := n5_
 have jI := n6_
 have qA := n7_
 have qD := n8_
 have HB := n9_
 clear n0_ n1_ n2_ n3_ n4_ n5_ n6_ n7_ n8_ n9_
 (try clear hb)
 (try clear hb2)
 (try clear hk)
 (try clear hi)
 (try clear ho0)
 (try clear ho1)
 obtain ⟨jX, jY, eo20⟩ := Kd.R_slice qW.out
 (first | subst eo20 | (injection eo20 with f1_ f2_ f3_; have f4_ := f1_.symm; have f5_ := f3_.symm; clear f1_ f2_ f3_; subst f4_; subst f5_))
 obtain ⟨jZ, ja, eo22⟩ := Kd.R_slice qX.out
 (first | subst eo22 | (injection eo22 with f1_ f2_ f3_; have f4_ := f1_.symm; have f5_ := f3_.symm; clear f1_ f2_ f3_; subst f4_; subst f5_))
 obtain ⟨jb, jc, eo26⟩ := Kd.R_slice qn.out
 (first | subst eo26 | (injection eo26 with f1_ f2_ f3_; have f4_ := f1_.symm; have f5_ := f3_.symm; clear f1_ f2_ f3_; subst f4_; subst f5_))
 obtain ⟨jd, je, eo28⟩ := Kd.R_slice qo.out
 (first | subst eo28 | (injection eo28 with f1_ f2_ f3_; have f4_ := f1_.symm; have f5_ := f3_.symm; clear f1_ f2_ f3_; subst f4_; subst f5_))
 obtain ⟨jf, jg, eo32⟩ := Kd.R_slice jH.out
 (first | subst eo32 | (injection eo32 with f1_ f2_ f3_; have f4_ := f1_.symm; have f5_ := f3_.symm; clear f1_ f2_ f3_; subst f4_; subst f5_))
 obtain ⟨jh, ji, eo34⟩ := Kd.R_slice jI.out
 (first | subst eo34 | (injection eo34 with f1_ f2_ f3_; have f4_ := f1_.symm; have f5_ := f3_.symm; clear f1_ f2_ f3_; subst f4_; subst f5_))
 refine hK.out _ _ (zc15 qA.out) (fun hHeld => ?_)
 clear hK K
 refine norm_ (a' := ?_) ?_ ?_
 rotate_left
 ·show Act.put _ (some 15) _ = _
  simp only [Act.put, List.setIfInBounds_toArray, List.set_cons_zero, List.set_cons_succ, i64_w, i32_w]
  rfl
 refine last_ (i := 10) (N := none) (bs 15 2047) rfl rfl (one_of HT_.out zk) (by decide) (fun K hK => ?_)
 have yX : w17.cell? ⟨qB, 3, none⟩ = some (.int .i64 qT) := (blk_cell qA.out 3).trans rfl
 have yJ := blk_frozen qA.out 3
 have jl := qC.out
 have jm := qE.out
 have yY : w17.cell? ⟨qB, 4, none⟩ = some (.int .i64 qU) := (blk_cell qA.out 4).trans rfl
 have yK := blk_frozen qA.out 4
 have jn := qC.out
 have jo := qE.out
 have yZ : w17.cell? ⟨qB, 5, none⟩ = some (.slice qj qN.length qk) := (blk_cell qA.out 5).trans rfl
 have yL := blk_frozen qA.out 5
 have jp := qC.out
 have jq := qE.out
 have ya : w17.cell? ⟨qB, 6, none⟩ = some (.slice ql qO.length qm) := (blk_cell qA.out 6).trans rfl
 have yM := blk_frozen qA.out 6
 have jr := qC.out
 have js := qE.out
 refine skip_ (w1 := ?_) (by rfl) rfl ?_ ?_
 rotate_left
 ·go_simp
  rfl
 refine hK.out _ _ ?_
 clear hK K
 refine pQ 11 17 15 4095 ?_
 refine last_ (i := 12) (N := none) (bs 15 8191) rfl rfl (one_of HT_.out zk) (by decide) (fun K hK => ?_)
 have yb : w17.cell? ⟨qB, 7, none⟩ = some (.int .i64 qP) := (blk_cell qA.out 7).trans rfl
 have yN := blk_frozen qA.out 7
 have jt := qC.out
 have ju := qE.out
 have yc : w17.cell? ⟨qB, 8, none⟩ = some (.int .i64 qQ) := (blk_cell qA.out 8).trans rfl
 have yO := blk_frozen qA.out 8
 have jv := qC.out
 have jw := qE.out
 have yd : w17.cell? ⟨qB, 9, none⟩ = some (.slice qf qM.length qg) := (blk_cell qA.out 9).trans rfl
 have yP := blk_frozen qA.out 9
 have jx := qC.out
 have jy := qE.out
 have ye : w17.cell? ⟨qB, 10, none⟩ = some (.slice qZ qH.length qa) := (blk_cell qA.out 10).trans rfl
 have yQ := blk_frozen qA.out 10
 have jz := qC.out
 have j0 := qE.out
 generalize hW_ : World.setCell _ _ _ = W_
 have hc0_ : W_.cell? ⟨qB, 7, none⟩ = some (.int .i64 qP) := by
  subst hW_
  go_simp
 have hf0_ : W_.frozen? ⟨qB, 7, none⟩ = false := by
  subst hW_
  go_simp
 have hc1_ : W_.cell? ⟨qB, 8, none⟩ = some (.int .i64 qQ) := by
  subst hW_
  go_simp
 have hf1_ : W_.frozen? ⟨qB, 8, none⟩ = false := by
  subst hW_
  go_simp
 have hc2_ : W_.cell? ⟨qB, 9, none⟩ = some (.slice qf qM.length qg) := by
  subst hW_
  go_simp
 have hf2_ : W_.frozen? ⟨qB, 9, none⟩ = false := by
  subst hW_
  go_simp
 have hc3_ : W_.cell? ⟨qB, 10, none⟩ = some (.slice qZ qH.length qa) := by
  subst hW_
  go_simp
 have hf3_ : W_.frozen? ⟨qB, 10, none⟩ = false := by
  subst hW_
  go_simp
 refine skip_ (w1 := ?_) (by rfl) rfl ?_ ?_
 rotate_left
 ·go_simp
  rfl
 subst hW_
 refine hK.out _ _ ?_
 clear hK K
 refine pQ 13 18 15 16383 ?_
 refine last_ (i := 14) (N := none) (bs 15 32767) rfl rfl (one_of HT_.out zk) (by decide) (fun K hK => ?_)
 have yf : w17.cell? ⟨qB, 11, none⟩ = some (.int .i64 qJ) := (blk_cell qA.out 11).trans rfl
 have yR := blk_frozen qA.out 11
 have j1 := qC.out
 have j2 := qE.out
 have yg : w17.cell? ⟨qB, 12, none⟩ = some (.int .i64 qK) := (blk_cell qA.out 12).trans rfl
 have yS := blk_frozen qA.out 12
 have j3 := qC.out
 have j4 := qE.out
 have yh : w17.cell? ⟨qB, 13, none⟩ = some (.slice qb qF.length qc) := (blk_cell qA.out 13).trans rfl
 have yT := blk_frozen qA.out 13
 have j5 := qC.out
 have j6 := qE.out
 have yi : w17.cell? ⟨qB, 14, none⟩ = some (.slice qd qG.length qe) := (blk_cell qA.out 14).trans rfl
 have yU := blk_frozen qA.out 14
 have j7 := qC.out
 have j8 := qE.out
 generalize hW_ : World.setCell _ _ _ = W_
 have hc0_ : W_.cell? ⟨qB, 11, none⟩ = some (.int .i64 qJ) := by
  subst hW_
  go_simp
 have hf0_ : W_.frozen? ⟨qB, 11, none⟩ = false := by
  subst hW_
  go_simp
 have hc1_ : W_.cell? ⟨qB, 12, none⟩ = some (.int .i64 qK) := by
  subst hW_
  go_simp
 have hf1_ : W_.frozen? ⟨qB, 12, none⟩ = false := by
  subst hW_
  go_simp
 have hc2_ : W_.cell? ⟨qB, 13, none⟩ = some (.slice qb qF.length qc) := by
  subst hW_
  go_simp
 have hf2_ : W_.frozen? ⟨qB, 13, none⟩ = false := by
  subst hW_
  go_simp
 have hc3_ : W_.cell? ⟨qB, 14, none⟩ = some (.slice qd qG.length qe) := by
  subst hW_
  go_simp
 have hf3_ : W_.frozen? ⟨qB, 14, none⟩ = false := by
  subst hW_
  go_simp
 refine skip_ (w1 := ?_) (by rfl) rfl ?_ ?_
 rotate_left
 ·go_simp
  rfl
 subst hW_
 refine hK.out _ _ ?_
 clear hK K
 refine done_ (done_of HT_.out zk) ?_
 have j9 := zc15 qA.out
 have yA := fun i_ : Nat => blk_frozen qA.out i_
 have yB := zc15 qD.out
 have yC := fun i_ : Nat => blk_frozen qD.out i_
 try go_wp2
 refine bodyPost_ret (results_cell_row rfl _ _ qV 28 #[.int .i64 qR, .int .i64 qS, .slice qh qL.length qi, .int .i64 qr, .int .i64 qs, .slice jX qt.length jY, .slice jZ qu.length ja, .int .i64 qv, .int .i64 qw, .slice jb qx.length jc, .slice jd qy.length je, .int .i64 q5, .int .i64 q6, .slice jf q7.length jg, .slice jh q8.length ji] (0, 0) _ rfl (by refine lZ ?_; apply zp15; refine lZ ?_; refine blk_far ?_ qC.out _; refine lZ ?_; refine blk_far ?_ qC.out _; refine lZ ?_; refine blk_far ?_ qC.out _; refine lZ ?_; refine blk_far ?_ qC.out _; refine lZ ?_; refine blk_far ?_ qC.out _; refine lZ ?_; refine blk_far ?_ qC.out _; refine lZ ?_; refine blk_far ?_ qC.out _; refine lZ ?_; refine blk_far ?_ qC.out _; refine lZ ?_; refine blk_far ?_ qC.out _; refine lZ ?_; refine blk_far ?_ qC.out _; refine lZ ?_; refine blk_far ?_ qC.out _; refine lZ ?_; refine blk_far ?_ qC.out _; refine lZ ?_; exact qD.out) Try.underlying28 rfl zk) rfl ?_
 exact ⟨_, _, _, _, _, _, _, zE, by apply rX; exact Kd.R_mono (zR15 (fB (fB (fB (fB (fB (fB (fB (fB (fB (fB (fB (fB (Kd.R_types (Kd.R_types qI.out qA.out (by decide)) qD.out (by decide))))))))))))))) (fun _ hk => trivial), by apply rX; exact Kd.R_mono (zR15 (fB (fB (fB (fB (fB (fB (fB (fB (fB (fB (fB (fB (Kd.R_types (Kd.R_types qW.out qA.out (by decide)) qD.out (by decide))))))))))))))) (fun _ hk => ⟨hk.1.1.1.2, hk.1.1.2⟩), by apply rX; exact Kd.R_mono (zR15 (fB (fB (fB (fB (fB (fB (fB (fB (fB (fB (fB (fB (Kd.R_types (Kd.R_types qX.out qA.out (by decide)) qD.out (by decide))))))))))))))) (fun _ hk => ⟨hk.1.1.1.2, hk.1.1.2⟩), by apply rX; exact Kd.R_mono (zR15 (fB (fB (fB (fB (fB (fB (fB (fB (fB (fB (fB (fB (Kd.R_types (Kd.R_types qn.out qA.out (by decide)) qD.out (by decide))))))))))))))) (fun _ hk => ⟨hk.1.1.1.2, hk.1.1.2⟩), by apply rX; exact Kd.R_mono (zR15 (fB (fB (fB (fB (fB (fB (fB (fB (fB (fB (fB (fB (Kd.R_types (Kd.R_types qo.out qA.out (by decide)) qD.out (by decide))))))))))))))) (fun _ hk => ⟨hk.1.1.1.2, hk.1.1.2⟩), by apply rX; exact Kd.R_mono (zR15 (fB (fB (fB (fB (fB (fB (fB (fB (fB (fB (fB (fB (Kd.R_types (Kd.R_types jH.out qA.out (by decide)) qD.out (by decide))))))))))))))) (fun _ hk => ⟨hk.1.1.1.2, hk.1.1.2⟩), by apply rX; exact Kd.R_mono (zR15 (fB (fB (fB (fB (fB (fB (fB (fB (fB (fB (fB (fB (Kd.R_types (Kd.R_types jI.out qA.out (by decide)) qD.out (by decide))))))))))))))) (fun _ hk => ⟨hk.1.1.1.2, hk.1.1.2⟩), zB HB⟩

end Go.Proofs.Ytccbdcbeinkjgaa.XA
end
