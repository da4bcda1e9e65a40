/- Part 7 of the proof of the law CodeSames for every input: words, walks and plain laws. No condition. -/
import Derived.DataReads
import Derived.ChangeArms
import Derived.SizedLaws
import Derived.WideShapes
import Derived.ChangeSlices
import Derived.Test.YtccbdcbeinkjgaaRows
import Derived.WalkKit
import Derived.ProofKit
import Derived.OpenShut
import Derived.ShutString
import Derived.ChangeOld
import Derived.Below
import Derived.Test.YtccbdcbeinkjgaaKCodeSames6
section
namespace Go.Proofs.Ytccbdcbeinkjgaa.XA
open Go.Proofs.Ytccbdcbeinkjgaa.Lift Go.RowKit Go.Proofs.YtccbdcbeinkjgaaW.PrintWords Go.Proofs.YtccbdcbeinkjgaaW.PrintLast Go.Proofs.YtccbdcbeinkjgaaW.PrintMore
attribute [local go_sem] max2_int min2_int max_two min_two max_three min_three max_four min_four
set_option linter.unusedVariables false
set_option linter.unusedSimpArgs false

/-! ### slices_Clone_byte_byte: function 16 -/
def slices_Clone_byte_byte.f (l0 : List Int) : Option (List Int) := (some (([] : List Int) : List Int)).bind fun y554 => (if y554.length + l0.length < 140737488355328 then (some (y554 ++ l0)) else (none))
/-! ### api_Point_36: function 36 -/
def api_Point_36.f (l0 : List (S48)) : Option ((List (S48))) := (some (([] : List (S48)) : List (S48))).bind fun y560 => (if y560.length + l0.length < 8796093022208 then (some (y560 ++ l0)) else (none))
set_option maxHeartbeats 8000000 in
set_option maxRecDepth 100000 in
theorem api_Point_36.calls (A0 : Option Addr) (c0 : Nat) (l0 : List (S48)) (r : List (S48)) (w : World) (hr0 : Kd.C k48 w A0 l0.length l0) (hc0 : l0.length ≤ c0) (h : api_Point_36.f l0 = some r) :
  Calls Try.prog 36 #[.slice A0 l0.length c0] w fun e w' => ∃ v0_ : Value, e = .returned (v0_) ∧ Kd.R k48 48 w' w.heap.size (fun _ => True) v0_ r ∧ Below w.heap.size w w' := by
 rcases A0 with _ | a0
 ·obtain rfl : l0 = [] := by
   rcases l0 with _ | ⟨x_, l_⟩
   ·rfl
   ·obtain ⟨_, e_, _⟩ := hr0.2.2 (by simp)
    cases e_
  obtain rfl : r = [] := by simpa [api_Point_36.f] using h.symm
  have hnil_ := fun W => Lib.run_eql_slice_nil (P := Try.prog) W 22 48 none 0 c0 0 0 Try.underlying22
  go_enter Try.func36, Try.ntmps36
  go_wp2
  go_ret
  exact ⟨_, rfl, Kd.R_nil _ _ _ _ _, Below.refl _ _⟩
 ·skip
  have HR0 := aM hr0
  have HC0 := aM hc0
  clear hr0 hc0
  have HB := aM (Below.refl w.heap.size w)
  have H : ((some (([] : List (S48)) : List (S48))).bind fun y560 => (if y560.length + l0.length < 8796093022208 then (some (y560 ++ l0)) else (none))) = some r := h
  clear h
  obtain ⟨y560, hy560⟩ : ∃ y_ : List (S48), y_ = (([] : List (S48))) := ⟨_, rfl⟩
  replace H : (if y560.length + l0.length < 8796093022208 then (some (y560 ++ l0)) else (none)) = some r := by first | (rw [hy560]; with_reducible exact H) | (have H2_ := (Option.bind_some _ _).symm.trans H; rw [hy560]; with_reducible exact H2_) | (have H2_ := (Option.bind_some _ _).symm.trans H; with_reducible exact H2_) | with_reducible exact H | (rw [hy560]; exact H) | exact H
  have Ny560 := aM hy560
  clear hy560
  by_cases c2 : y560.length + l0.length < 8796093022208
  ·rw [if_pos c2] at H
   have LMc2 := aM c2
   clear c2
   obtain ⟨y563, hy563⟩ : ∃ y_ : List (S48), y_ = (y560 ++ l0) := ⟨_, rfl⟩
   replace H : (some y563) = some r := by first | (rw [hy563]; with_reducible exact H) | (have H2_ := (Option.bind_some _ _).symm.trans H; rw [hy563]; with_reducible exact H2_) | (have H2_ := (Option.bind_some _ _).symm.trans H; with_reducible exact H2_) | with_reducible exact H | (rw [hy563]; exact H) | exact H
   have Ny563 := aM hy563
   clear hy563
   obtain rfl := Option.some.inj H
   have hnil_ := fun W => Lib.run_eql_slice_nil (P := Try.prog) W 22 48 (some a0) l0.length c0 0 0 Try.underlying22
   go_enter Try.func36, Try.ntmps36
   go_wp2_with (first | ((with_reducible refine gate_dst (N := 5) rfl ?_); refine Kd.R_lit k48 _ 48 ?hg (N := 5) ?hd (xs := ([] : List (S48))) (inner := []) (ok := fun _ => True) (okp := fun _ => True) ?hr ?hp (fun _ hk => hk) trivial (Below.refl _ _) (Nat.le_refl _) (by simp) ?_; (case hd => rfl); (case hg => rfl); (case hr => first | (go_simp; done) | (go_simp; rfl)); (case hp => exact (Reps.none _ _)); intro v561 w3 ho4 hb hg_ hnew_; clear hg_ hnew_; (first | rw [← Ny560.out] at ho4 | (simp only [Int.reduceToNat] at ho4; rw [← Ny560.out] at ho4)); have qa := aM (Kd.R_lower ho4 (below_size (lB HB))); replace HB := aM (below_step (lB HB) hb); clear hb ho4) | ((with_reducible refine gate_builtin (b := .append) (xs := #[.tmp 5, .tmp 6]) rfl ?_); at_builtin; refine Kd.R_append_rows k48 (w0 := w) w.heap.size rfl (.tmp 5) (.tmp 6) 22 48 (.agg #[(.int .i64 0), (.int .i64 0)]) 16 rfl Try.underlying22 info48 rfl (by decide) (by omega) v561 y560 l0 _ _ _ (fun _ => True) (fun _ => False) rfl rfl ?aO ?aR (fun _ _ h => h) (fun _ h => h.elim) ?aF ?aB ?aS ?aL ?_; (case aR => repeat (first | exact (Kd.C_below HR0.out HB.out) | (with_reducible refine Kd.C_alloc ?_ _) | (with_reducible refine Kd.C_drewN ?_ _) | (with_reducible refine Kd.C_drew ?_))); (case aB => exact (lB HB)); (case aF => exact (fun _ _ => trivial)); (case aO => exact (lR qa)); (case aS => exact (below_size (lB HB))); (case aL => have := LMc2.out; omega); intro v564 w5 ho hb hg hat; rw [← Ny563.out] at ho; replace HB := aM (hb); have qg := aM (ho); clear qa; clear ho hb hg hat))
   go_ret
   exact ⟨_, by first | rfl | (simp [errW_none, errW_some] <;> rfl) | (simp [*, errW_none, errW_some] <;> rfl), by (with_reducible repeat (first | apply Kd.R_alloc | apply Kd.R_drewN | apply Kd.R_drew)); exact qg.out, by repeat (first | (with_reducible first | exact HB.out | apply below_alloc | apply pw_below_drewN | apply below_drew1) | exact HB.out)⟩
  ·rw [if_neg c2] at H
   exact absurd H (by simp)

/-! ### swageref08_Copy: function 37 -/
def swageref08_Copy.f (qB : Int) (qC : Int) (qJ : List (S63)) (qD : List Int) : Option (Int × Int × (List (S63)) × List Int) := if ([] : List (S63)).length + qJ.length < 3518437208883 then (if ([] : List Int).length + qD.length < 17592186044416 then (some (qB, qC, (([] : List (S63)) ++ qJ), (([] : List Int) ++ qD))) else (none)) else (none)
set_option maxHeartbeats 8000000 in
set_option maxRecDepth 100000 in
theorem swageref08_Copy.calls (qB : Int) (qC : Int) (qQ : Option Addr) (qR : Nat) (qJ : List (S63)) (qS : Option Addr) (qT : Nat) (qD : List Int) (r1 : Int) (r2 : Int) (r3 : List (S63)) (r4 : List Int) (w : World) (qb : Kd.C k63 w qQ qJ.length qJ) (qc : qJ.length ≤ qR) (qd : Kd.C (Kd.int .i64) w qS qD.length qD) (qe : qD.length ≤ qT) (h : swageref08_Copy.f qB qC qJ qD = some (r1, r2, r3, r4)) :
  Calls Try.prog 37 #[.agg #[.int .i64 qB, .int .i64 qC, .slice qQ qJ.length qR, .slice qS qD.length qT]] w fun e w' => ∃ v2_ v3_ : Value, e = .returned (.agg #[.int .i64 r1, .int .i64 r2, v2_, v3_]) ∧ Kd.R k63 63 w' w.heap.size (fun _ => True) v2_ r3 ∧ Kd.R (Kd.int .i64) 3 w' w.heap.size (fun _ => True) v3_ r4 ∧ Below w.heap.size w w' := by
 have hu26 := Try.underlying26
 have qh := aM qb
 have qz := aM qc
 clear qb qc
 have qi := aM qd
 have q0 := aM qe
 clear qd qe
 have HB := aM (Below.refl w.heap.size w)
 have H : (if ([] : List (S63)).length + qJ.length < 3518437208883 then (if ([] : List Int).length + qD.length < 17592186044416 then (some (qB, qC, (([] : List (S63)) ++ qJ), (([] : List Int) ++ qD))) else (none)) else (none)) = some (r1, r2, r3, r4) := h
 clear h
 by_cases c2 : ([] : List (S63)).length + qJ.length < 3518437208883
 ·rw [if_pos c2] at H
  have LMc2 := aM c2
  clear c2
  obtain ⟨y569, hy569⟩ : ∃ y_ : List (S63), y_ = (([] : List (S63)) ++ qJ) := ⟨_, rfl⟩
  replace H : (if ([] : List Int).length + qD.length < 17592186044416 then (some (qB, qC, y569, (([] : List Int) ++ qD))) else (none)) = some (r1, r2, r3, r4) := by first | (rw [hy569]; with_reducible exact H) | (have H2_ := (Option.bind_some _ _).symm.trans H; rw [hy569]; with_reducible exact H2_) | (have H2_ := (Option.bind_some _ _).symm.trans H; with_reducible exact H2_) | with_reducible exact H | (rw [hy569]; exact H) | exact H
  have Ny569 := aM hy569
  clear hy569
  by_cases c3 : ([] : List Int).length + qD.length < 17592186044416
  ·rw [if_pos c3] at H
   have LMc3 := aM c3
   clear c3
   obtain ⟨y572, hy572⟩ : ∃ y_ : List Int, y_ = (([] : List Int) ++ qD) := ⟨_, rfl⟩
   replace H : (some (qB, qC, y569, y572)) = some (r1, r2, r3, r4) := by first | (rw [hy572]; with_reducible exact H) | (have H2_ := (Option.bind_some _ _).symm.trans H; rw [hy572]; with_reducible exact H2_) | (have H2_ := (Option.bind_some _ _).symm.trans H; with_reducible exact H2_) | with_reducible exact H | (rw [hy572]; exact H) | exact H
   have Ny572 := aM hy572
   clear hy572
   simp only [Option.some.injEq, Prod.mk.injEq] at H
   obtain ⟨rfl, rfl, rfl, rfl⟩ := H
   go_enter Try.func37, Try.ntmps37
   go_wp2_with (first | ((with_reducible refine gate_dst (N := 1) rfl ?_); refine box_event ?hg (N := 1) ?hd (cs := #[.int .i64 qB, .int .i64 qC, .slice qQ qJ.length qR, .slice qS qD.length qT]) (t := 26) ?hr ?_; (case hd => rfl); (case hg => rfl); (case hr => first | (go_simp; done) | (go_simp; rfl)); intro qE hg w4 hbox hb; have qA := aM (hbox); have q1 := aM ((by rw [hg]; exact (below_size (lB HB)) : w.heap.size ≤ qE)); have qG := aM ((by rw [hg]; exact (below_size (lB HB)) : w.heap.size ≤ qE)); replace HB := aM (below_step (lB HB) hb); clear hb hbox hg) | ((with_reducible refine gate_dst (N := 2) rfl ?_); refine box_event ?hg (N := 2) ?hd (cs := #[.int .i64 0, .int .i64 0, .slice none 0 0, .slice none 0 0]) (t := 26) ?hr ?_; (case hd => rfl); (case hg => rfl); (case hr => first | (go_simp; done) | (go_simp; rfl)); intro qK hg w5 hbox hb; have qH := aM (hbox); have q2 := aM ((by rw [hg]; exact (below_size (by have := GEc.mk qG.out; exact lS HB)) : w.heap.size ≤ qK)); have qM := aM ((by rw [hg]; exact (below_size (by have := GEc.mk qG.out; exact lS HB)) : w.heap.size ≤ qK)); replace HB := aM (below_step (by have := GEc.mk qG.out; exact lS HB) hb); have qU := aM ((by rw [hg]; exact Nat.ne_of_lt (blk_lt (g := qE) (lK qA)) : qE ≠ qK)); have qV := aM ((by rw [hg]; exact Nat.ne_of_gt (blk_lt (g := qE) (lK qA)) : qK ≠ qE)); replace qA := aM (blk_below (g := qE) (lK qA) hb); clear hb hbox hg; have q6 := qU.out; have q7 := qV.out; have qx := zc4 qA.out; have qy := fun i_ : Nat => blk_frozen qA.out i_) | ((with_reducible refine gate_dst (N := 3) rfl ?_); refine box_event ?hg (N := 3) ?hd (cs := #[.int .i64 0, .int .i64 0, .slice none 0 0, .slice none 0 0]) (t := 26) ?hr ?_; (case hd => rfl); (case hg => rfl); (case hr => first | (go_simp; done) | (go_simp; rfl)); intro qN hg w8 hbox hb; have qI := aM (hbox); have q3 := aM ((by rw [hg]; exact (below_size (by have := GEc.mk qG.out; have := GEc.mk qM.out; exact lS HB)) : w.heap.size ≤ qN)); have qO := aM ((by rw [hg]; exact (below_size (by have := GEc.mk qG.out; have := GEc.mk qM.out; exact lS HB)) : w.heap.size ≤ qN)); replace HB := aM (below_step (by have := GEc.mk qG.out; have := GEc.mk qM.out; exact lS HB) hb); have qL := aM ((by rw [hg]; exact Nat.ne_of_lt (blk_lt (g := qE) (lK qA)) : qE ≠ qN)); have qW := aM ((by rw [hg]; exact Nat.ne_of_gt (blk_lt (g := qE) (lK qA)) : qN ≠ qE)); replace qA := aM (blk_below (g := qE) (lK qA) hb); have qF := aM ((by rw [hg]; exact Nat.ne_of_lt (blk_lt (g := qK) (lK qH)) : qK ≠ qN)); have qX := aM ((by rw [hg]; exact Nat.ne_of_gt (blk_lt (g := qK) (lK qH)) : qN ≠ qK)); replace qH := aM (blk_below (g := qK) (lK qH) hb); clear hb hbox hg; have q8 := qW.out; have q9 := qL.out; have q4 := qX.out; have q5 := qF.out; have ql := zc4 qI.out; have qm := fun i_ : Nat => blk_frozen qI.out i_; have qn := zc4 qA.out; have qo := fun i_ : Nat => blk_frozen qA.out i_) | ((with_reducible refine gate_builtin (b := .append) (xs := #[.tmp 10, .tmp 12]) rfl ?_); at_builtin; refine Kd.R_append_rows k63 (w0 := w) w.heap.size rfl (.tmp 10) (.tmp 12) 23 63 (.agg #[(.int .i64 0), (.int .i64 0), (.int .i64 0), (.int .i64 0), (.int .i64 0)]) 40 rfl Try.underlying23 info63 rfl (by decide) (by omega) (.slice none 0 0) ([] : List (S63)) qJ _ _ _ (fun _ => True) (fun _ => False) rfl rfl ?aO ?aR (fun _ _ h => h) (fun _ h => h.elim) ?aF ?aB ?aS ?aL ?_; (case aR => exact Kd.C_below qh.out (by have := GEc.mk qG.out; have := GEc.mk qM.out; have := GEc.mk qO.out; exact lS HB)); (case aB => exact (by have := GEc.mk qG.out; have := GEc.mk qM.out; have := GEc.mk qO.out; exact lS HB)); (case aF => exact (fun _ _ => trivial)); (case aO => exact ((Kd.R_nil _ _ _ _ (fun _ => True)))); (case aS => exact (below_size (by have := GEc.mk qG.out; have := GEc.mk qM.out; have := GEc.mk qO.out; exact lS HB))); (case aL => have := LMc2.out; omega); intro v570 w13 ho hb hg hat; rw [← Ny569.out] at ho; replace qA := aM (blk_grown (g := qE) (o := .cells #[.int .i64 qB, .int .i64 qC, .slice qQ qJ.length qR, .slice qS qD.length qT] 26 (0, 0)) (by refine lZ ?_; refine blk_far ?_ qL.out _; refine lZ ?_; refine blk_far ?_ qL.out _; refine lZ ?_; refine blk_far ?_ qL.out _; refine lZ ?_; refine blk_far ?_ qL.out _; refine lZ ?_; exact qA.out) hg (by simp [Value.ownBlock])); replace qH := aM (blk_grown (g := qK) (o := .cells #[.int .i64 0, .int .i64 0, .slice none 0 0, .slice none 0 0] 26 (0, 0)) (by refine lZ ?_; refine blk_far ?_ qF.out _; refine lZ ?_; refine blk_far ?_ qF.out _; refine lZ ?_; refine blk_far ?_ qF.out _; refine lZ ?_; refine blk_far ?_ qF.out _; refine lZ ?_; exact qH.out) hg (by simp [Value.ownBlock])); replace qI := aM (blk_grown (g := qN) (o := .cells #[.int .i64 qB, .int .i64 qC, .slice none 0 0, .slice none 0 0] 26 (0, 0)) (by refine lZ ?_; refine blk_put (cs := #[.int .i64 qB, .int .i64 qC, .slice none 0 0, .slice none 0 0]) ?_ 3 _ rfl; refine lZ ?_; refine blk_put (cs := #[.int .i64 qB, .int .i64 qC, .slice none 0 0, .slice none 0 0]) ?_ 2 _ rfl; refine lZ ?_; refine blk_put (cs := #[.int .i64 qB, .int .i64 0, .slice none 0 0, .slice none 0 0]) ?_ 1 _ rfl; refine lZ ?_; refine blk_put (cs := #[.int .i64 0, .int .i64 0, .slice none 0 0, .slice none 0 0]) ?_ 0 _ rfl; refine lZ ?_; exact qI.out) hg (by simp [Value.ownBlock])); replace HB := aM (hb); have qP := aM (ho); clear ho hb hg hat; obtain ⟨qY, qZ, eo14⟩ := Kd.R_slice qP.out; subst eo14; have qp := zc4 qI.out; have qq := fun i_ : Nat => blk_frozen qI.out i_; have qr := zc4 qA.out; have qs := fun i_ : Nat => blk_frozen qA.out i_) | ((with_reducible refine gate_builtin (b := .append) (xs := #[.tmp 16, .tmp 18]) rfl ?_); at_builtin; refine Kd.R_append_rows (Kd.int .i64) (w0 := w) w.heap.size rfl (.tmp 16) (.tmp 18) 24 3 (.int .i64 0) 8 rfl Try.underlying24 info3 rfl (by decide) (by omega) (.slice none 0 0) ([] : List Int) qD _ _ _ (fun _ => True) (fun _ => False) rfl rfl ?aO ?aR (fun _ _ h => h) (fun _ h => h.elim) ?aF ?aB ?aS ?aL ?_; (case aR => exact Kd.C_below qi.out (by have := GEc.mk qG.out; have := GEc.mk qM.out; have := GEc.mk qO.out; exact lS HB)); (case aB => exact (by have := GEc.mk qG.out; have := GEc.mk qM.out; have := GEc.mk qO.out; exact lS HB)); (case aF => exact (fun _ _ => trivial)); (case aO => exact ((Kd.R_nil _ _ _ _ (fun _ => True)))); (case aS => exact (below_size (by have := GEc.mk qG.out; have := GEc.mk qM.out; have := GEc.mk qO.out; exact lS HB))); (case aL => have := LMc3.out; omega); intro v573 w17 ho hb hg hat; rw [← Ny572.out] at ho; replace qA := aM (blk_grown (g := qE) (o := .cells #[.int .i64 qB, .int .i64 qC, .slice qQ qJ.length qR, .slice qS qD.length qT] 26 (0, 0)) (by refine lZ ?_; refine blk_far ?_ qL.out _; refine lZ ?_; exact qA.out) hg (by simp [Value.ownBlock])); replace qH := aM (blk_grown (g := qK) (o := .cells #[.int .i64 0, .int .i64 0, .slice none 0 0, .slice none 0 0] 26 (0, 0)) (by refine lZ ?_; refine blk_far ?_ qF.out _; refine lZ ?_; exact qH.out) hg (by simp [Value.ownBlock])); replace qP := aM (Kd.R_grown (by (with_reducible repeat (first | apply Kd.R_alloc | apply Kd.R_drewN | apply Kd.R_drew)); exact (Kd.R_mono (fA (Kd.R_types qP.out qI.out (by decide))) (fun _ h_ => h_.1))) hg (fun _ _ => by simp [Value.ownBlock])); replace qI := aM (blk_grown (g := qN) (o := .cells #[.int .i64 qB, .int .i64 qC, .slice qY y569.length qZ, .slice none 0 0] 26 (0, 0)) (by refine lZ ?_; refine blk_put (cs := #[.int .i64 qB, .int .i64 qC, .slice none 0 0, .slice none 0 0]) ?_ 2 _ rfl; refine lZ ?_; exact qI.out) hg (by simp [Value.ownBlock])); replace HB := aM (hb); have qf := aM (ho); clear ho hb hg hat; obtain ⟨qj, qk, eo18⟩ := Kd.R_slice qf.out; subst eo18; have qt := zc4 qI.out; have qu := fun i_ : Nat => blk_frozen qI.out i_; have qv := zc4 qH.out; have qw := fun i_ : Nat => blk_frozen qH.out i_))
   refine bodyPost_ret (results_cell_row rfl _ _ qK 26 #[.int .i64 qB, .int .i64 qC, .slice qY y569.length qZ, .slice qj y572.length qk] (0, 0) _ rfl (by refine lZ ?_; refine blk_put (cs := #[.int .i64 qB, .int .i64 qC, .slice qY y569.length qZ, .slice none 0 0]) ?_ 3 _ rfl; refine lZ ?_; refine blk_put (cs := #[.int .i64 qB, .int .i64 qC, .slice none 0 0, .slice none 0 0]) ?_ 2 _ rfl; refine lZ ?_; refine blk_put (cs := #[.int .i64 qB, .int .i64 0, .slice none 0 0, .slice none 0 0]) ?_ 1 _ rfl; refine lZ ?_; refine blk_put (cs := #[.int .i64 0, .int .i64 0, .slice none 0 0, .slice none 0 0]) ?_ 0 _ rfl; refine lZ ?_; refine blk_far ?_ qF.out _; refine lZ ?_; exact qH.out) Try.underlying26 rfl (by kernel_rfl)) rfl ?_
   exact ⟨_, _, by first | rfl | (simp [errW_none, errW_some] <;> rfl) | (simp [*, errW_none, errW_some] <;> rfl), by (with_reducible repeat (first | apply Kd.R_alloc | apply Kd.R_drewN | apply Kd.R_drew)); exact Kd.R_mono (fA (fA (fA (fA (fB (Kd.R_types (Kd.R_types qP.out qI.out (by decide)) qH.out (by decide))))))) (fun _ hk => trivial), by (with_reducible repeat (first | apply Kd.R_alloc | apply Kd.R_drewN | apply Kd.R_drew)); exact Kd.R_mono (fA (fA (fA (fA (fB (Kd.R_types (Kd.R_types qf.out qI.out (by decide)) qH.out (by decide))))))) (fun _ hk => trivial), by repeat (first | (with_reducible first | exact HB.out | apply below_alloc | apply pw_below_drewN | apply below_drew1 | refine below_set ?_ qG.out | refine below_set ?_ qM.out | refine below_set ?_ qO.out) | exact HB.out)⟩
  ·rw [if_neg c3] at H
   exact absurd H (by simp)
 ·rw [if_neg c2] at H
  exact absurd H (by simp)

end Go.Proofs.Ytccbdcbeinkjgaa.XA
end

section
namespace Go.Proofs.Ytccbdcbeinkjgaa.XA
open Go.Proofs.Ytccbdcbeinkjgaa.Lift Go.RowKit Go.Proofs.YtccbdcbeinkjgaaW.PrintWords Go.Proofs.YtccbdcbeinkjgaaW.PrintLast Go.Proofs.YtccbdcbeinkjgaaW.PrintMore
attribute [local go_sem] max2_int min2_int max_two min_two max_three min_three max_four min_four
set_option linter.unusedVariables false
set_option linter.unusedSimpArgs false

/-! ### swagelaw17_copied: function 19 -/
def swagelaw17_copied.f (qT : Int) (qU : Int) (qa : List (S48)) (qV : Int) (qW : Int) (qP : List (S63)) (qQ : List Int) (qR : Int) (qS : Int) (qN : List (S63)) (qH : List Int) (qJ : Int) (qK : Int) (qF : List (S63)) (qG : List Int) : Option (Int × Int × (List (S48)) × Int × Int × (List (S63)) × List Int × Int × Int × (List (S63)) × List Int × Int × Int × (List (S63)) × List Int) := (api_Point_36.f qa).bind fun qM => ((swageref08_Copy.f qV qW qP qQ).bind fun bt580 => ((swageref08_Copy.f qR qS qN qH).bind fun bt588 => ((swageref08_Copy.f qJ qK qF qG).bind fun bt596 => (some (qT, qU, qM, bt580.1, bt580.2.1, bt580.2.2.1, bt580.2.2.2, bt588.1, bt588.2.1, bt588.2.2.1, bt588.2.2.2, bt596.1, bt596.2.1, bt596.2.2.1, bt596.2.2.2)))))
def swagelaw17_copied.T2 : Bool × List (List Nat × List Nat) := (true, [([], []), ([0], [0]), ([1], [1]), ([], []), ([3], [3]), ([4, 2], [4]), ([], []), ([6], [6]), ([7, 5], [7]), ([0, 1, 2, 3, 4, 6, 7], []), ([9, 2, 8, 0, 1, 2, 3, 4, 6, 7], [2, 9]), ([0, 1, 2, 3, 4, 5, 6, 7, 9, 10], []), ([11, 5, 10, 0, 1, 2, 3, 4, 5, 6, 7, 9, 10], [5, 11]), ([0, 1, 2, 3, 4, 5, 6, 7, 8, 9, 10, 11, 12], []), ([13, 8, 12, 0, 1, 2, 3, 4, 5, 6, 7, 8, 9, 10, 11, 12], [8, 13])])
def swagelaw17_copied.B2 : List Nat := [0, 1, 3, 0, 8, 31, 0, 64, 255, 223, 1023, 2047, 4095, 8191, 16383]
theorem swagelaw17_copied.tab2 : rtab .any (opsOf Try.f19 2) = swagelaw17_copied.T2 := by kernel_rfl
theorem swagelaw17_copied.bits2 : waitsOk swagelaw17_copied.T2.2 swagelaw17_copied.B2 = true := by kernel_rfl
set_option maxHeartbeats 8000000 in
set_option maxRecDepth 100000 in
theorem swagelaw17_copied.calls (qT : Int) (qU : Int) (qr : Option Addr) (qs : Nat) (qa : List (S48)) (qV : Int) (qW : Int) (ql : Option Addr) (qm : Nat) (qP : List (S63)) (qn : Option Addr) (qo : Nat) (qQ : List Int) (qR : Int) (qS : Int) (qh : Option Addr) (qi : Nat) (qN : List (S63)) (qb : Option Addr) (qc : Nat) (qH : List Int) (qJ : Int) (qK : Int) (qd : Option Addr) (qe : Nat) (qF : List (S63)) (qf : Option Addr) (qg : Nat) (qG : List Int) (r1 : Int) (r2 : Int) (r3 : List (S48)) (r4 : Int) (r5 : Int) (r6 : List (S63)) (r7 : List Int) (r8 : Int) (r9 : Int) (r10 : List (S63)) (r11 : List Int) (r12 : Int) (r13 : Int) (r14 : List (S63)) (r15 : List Int) (w : World) (jB : Kd.C k48 w qr qa.length qa) (jC : qa.length ≤ qs) (jD : Kd.C k63 w ql qP.length qP) (jE : qP.length ≤ qm) (jF : Kd.C (Kd.int .i64) w qn qQ.length qQ) (jG : qQ.length ≤ qo) (jH : Kd.C k63 w qh qN.length qN) (jI : qN.length ≤ qi) (q1 : Kd.C (Kd.int .i64) w qb qH.length qH) (q2 : qH.length ≤ qc) (q3 : Kd.C k63 w qd qF.length qF) (q4 : qF.length ≤ qe) (q5 : Kd.C (Kd.int .i64) w qf qG.length qG) (q6 : qG.length ≤ qg) (h : swagelaw17_copied.f qT qU qa qV qW qP qQ qR qS qN qH qJ qK qF qG = some (r1, r2, r3, r4, r5, r6, r7, r8, r9, r10, r11, r12, r13, r14, r15)) :
  Calls Try.prog 19 #[.agg #[.int .i64 qT, .int .i64 qU, .slice qr qa.length qs, .int .i64 qV, .int .i64 qW, .slice ql qP.length qm, .slice qn qQ.length qo, .int .i64 qR, .int .i64 qS, .slice qh qN.length qi, .slice qb qH.length qc, .int .i64 qJ, .int .i64 qK, .slice qd qF.length qe, .slice qf qG.length qg]] w fun e w' => ∃ v2_ v5_ v6_ v9_ v10_ v13_ v14_ : Value, e = .returned (.agg #[.int .i64 r1, .int .i64 r2, v2_, .int .i64 r4, .int .i64 r5, v5_, v6_, .int .i64 r8, .int .i64 r9, v9_, v10_, .int .i64 r12, .int .i64 r13, v13_, v14_]) ∧ Kd.R k48 48 w' w.heap.size (fun _ => True) v2_ r3 ∧ Kd.R k63 63 w' w.heap.size (fun k_ => some k_ ≠ (v9_ : Value).ownBlock ∧ some k_ ≠ (v13_ : Value).ownBlock) v5_ r6 ∧ Kd.R (Kd.int .i64) 3 w' w.heap.size (fun k_ => some k_ ≠ (v10_ : Value).ownBlock ∧ some k_ ≠ (v14_ : Value).ownBlock) v6_ r7 ∧ Kd.R k63 63 w' w.heap.size (fun k_ => some k_ ≠ (v5_ : Value).ownBlock ∧ some k_ ≠ (v13_ : Value).ownBlock) v9_ r10 ∧ Kd.R (Kd.int .i64) 3 w' w.heap.size (fun k_ => some k_ ≠ (v6_ : Value).ownBlock ∧ some k_ ≠ (v14_ : Value).ownBlock) v10_ r11 ∧ Kd.R k63 63 w' w.heap.size (fun k_ => some k_ ≠ (v5_ : Value).ownBlock ∧ some k_ ≠ (v9_ : Value).ownBlock) v13_ r14 ∧ Kd.R (Kd.int .i64) 3 w' w.heap.size (fun k_ => some k_ ≠ (v6_ : Value).ownBlock ∧ some k_ ≠ (v10_ : Value).ownBlock) v14_ r15 ∧ Below w.heap.size w w' := by
 have hu28 := Try.underlying28
 have hu26 := Try.underlying26
 have jR := aM jB
 have jS := aM jC
 clear jB jC
 have jT := aM jD
 have jU := aM jE
 clear jD jE
 have jV := aM jF
 have jW := aM jG
 clear jF jG
 have jX := aM jH
 have jY := aM jI
 clear jH jI
 have jL := aM q1
 have jM := aM q2
 clear q1 q2
 have jN := aM q3
 have jO := aM q4
 clear q3 q4
 have jP := aM q5
 have jQ := aM q6
 clear q5 q6
 have HB := aM (Below.refl w.heap.size w)
 have H : ((api_Point_36.f qa).bind fun qM => ((swageref08_Copy.f qV qW qP qQ).bind fun bt580 => ((swageref08_Copy.f qR qS qN qH).bind fun bt588 => ((swageref08_Copy.f qJ qK qF qG).bind fun bt596 => (some (qT, qU, qM, bt580.1, bt580.2.1, bt580.2.2.1, bt580.2.2.2, bt588.1, bt588.2.1, bt588.2.2.1, bt588.2.2.2, bt596.1, bt596.2.1, bt596.2.2.1, bt596.2.2.2)))))) = some (r1, r2, r3, r4, r5, r6, r7, r8, r9, r10, r11, r12, r13, r14, r15) := h
 clear h
 replace H := Option.bind_eq_some_iff.mp H
 obtain ⟨qM, A20, H⟩ := H
 replace H : ((swageref08_Copy.f qV qW qP qQ).bind fun bt580 => ((swageref08_Copy.f qR qS qN qH).bind fun bt588 => ((swageref08_Copy.f qJ qK qF qG).bind fun bt596 => (some (qT, qU, qM, bt580.1, bt580.2.1, bt580.2.2.1, bt580.2.2.2, bt588.1, bt588.2.1, bt588.2.2.1, bt588.2.2.2, bt596.1, bt596.2.1, bt596.2.2.1, bt596.2.2.2))))) = some (r1, r2, r3, r4, r5, r6, r7, r8, r9, r10, r11, r12, r13, r14, r15) := H
 have A2 := aM A20
 clear A20
 replace H := Option.bind_eq_some_iff.mp H
 obtain ⟨⟨qt, qu, qv, qw⟩, A30, H⟩ := H
 replace H : ((swageref08_Copy.f qR qS qN qH).bind fun bt588 => ((swageref08_Copy.f qJ qK qF qG).bind fun bt596 => (some (qT, qU, qM, qt, qu, qv, qw, bt588.1, bt588.2.1, bt588.2.2.1, bt588.2.2.2, bt596.1, bt596.2.1, bt596.2.2.1, bt596.2.2.2)))) = some (r1, r2, r3, r4, r5, r6, r7, r8, r9, r10, r11, r12, r13, r14, r15) := H
 have A3 := aM A30
 clear A30
 replace H := Option.bind_eq_some_iff.mp H
 obtain ⟨⟨qx, qy, qz, q0⟩, A40, H⟩ := H
 replace H : ((swageref08_Copy.f qJ qK qF qG).bind fun bt596 => (some (qT, qU, qM, qt, qu, qv, qw, qx, qy, qz, q0, bt596.1, bt596.2.1, bt596.2.2.1, bt596.2.2.2))) = some (r1, r2, r3, r4, r5, r6, r7, r8, r9, r10, r11, r12, r13, r14, r15) := H
 have A4 := aM A40
 clear A40
 replace H := Option.bind_eq_some_iff.mp H
 obtain ⟨⟨q7, q8, q9, jA⟩, A50, H⟩ := H
 replace H : (some (qT, qU, qM, qt, qu, qv, qw, qx, qy, qz, q0, q7, q8, q9, jA)) = some (r1, r2, r3, r4, r5, r6, r7, r8, r9, r10, r11, r12, r13, r14, r15) := H
 have A5 := aM A50
 clear A50
 simp only [Option.some.injEq, Prod.mk.injEq] at H
 obtain ⟨rfl, rfl, rfl, rfl, rfl, rfl, rfl, rfl, rfl, rfl, rfl, rfl, rfl, rfl, rfl⟩ := H
 go_enter Try.func19, Try.ntmps19
 try go_wp2_with (first | ((with_reducible refine gate_dst (N := 1) rfl ?_); refine box_event ?hg (N := 1) ?hd (cs := #[.int .i64 qT, .int .i64 qU, .slice qr qa.length qs, .int .i64 qV, .int .i64 qW, .slice ql qP.length qm, .slice qn qQ.length qo, .int .i64 qR, .int .i64 qS, .slice qh qN.length qi, .slice qb qH.length qc, .int .i64 qJ, .int .i64 qK, .slice qd qF.length qe, .slice qf qG.length qg]) (t := 28) ?hr ?_; (case hd => rfl); (case hg => rfl); (case hr => first | (go_simp; done) | (go_simp; rfl)); intro qB hg w6 hbox hb; have qA := aM (hbox); have yH := aM ((by rw [hg]; exact (below_size (lB HB)) : w.heap.size ≤ qB)); have qL := aM ((by rw [hg]; exact (below_size (lB HB)) : w.heap.size ≤ qB)); replace HB := aM (below_step (lB HB) hb); clear hb hbox hg) | ((with_reducible refine gate_dst (N := 2) rfl ?_); refine box_event ?hg (N := 2) ?hd (cs := #[.int .i64 0, .int .i64 0, .slice none 0 0, .int .i64 0, .int .i64 0, .slice none 0 0, .slice none 0 0, .int .i64 0, .int .i64 0, .slice none 0 0, .slice none 0 0, .int .i64 0, .int .i64 0, .slice none 0 0, .slice none 0 0]) (t := 28) ?hr ?_; (case hd => rfl); (case hg => rfl); (case hr => first | (go_simp; done) | (go_simp; rfl)); intro qX hg w7 hbox hb; have qD := aM (hbox); have yI := aM ((by rw [hg]; exact (below_size (by have := GEc.mk qL.out; exact lS HB)) : w.heap.size ≤ qX)); have qO := aM ((by rw [hg]; exact (below_size (by have := GEc.mk qL.out; exact lS HB)) : w.heap.size ≤ qX)); replace HB := aM (below_step (by have := GEc.mk qL.out; exact lS HB) hb); have qE := aM ((by rw [hg]; exact Nat.ne_of_lt (blk_lt (g := qB) (lK qA)) : qB ≠ qX)); have qC := aM ((by rw [hg]; exact Nat.ne_of_gt (blk_lt (g := qB) (lK qA)) : qX ≠ qB)); replace qA := aM (blk_below (g := qB) (lK qA) hb); clear hb hbox hg; have yV := qE.out; have yW := qC.out; have yF := zc15 qA.out; have yG := fun i_ : Nat => blk_frozen qA.out i_) | ((with_reducible refine gate_callee (f := 36) rfl ?_); refine goesL_ (some 5) rfl rfl Try.func36 (by kernel_rfl) rfl #[.slice qr qa.length qs] rfl (by (try simp only [List.map_toArray, List.map_cons, List.map_nil]); first | done | rfl | (simp only [List.length_drop, List.length_take]; rfl)) ?_; (with_reducible refine (api_Point_36.calls _ _ qa qM _ ?side1 ?side2 A2.out).mono ?_); (case side1 => refine lY ?_; exact (Kd.C_below jR.out HB.out)); (case side2 => exact jS.out); rintro e w10 ⟨v578, rfl, ho0, hb⟩; refine ⟨_, rfl, ?_⟩; have qI := aM (Kd.R_lower ho0 (below_size (by have := GEc.mk qL.out; have := GEc.mk qO.out; exact lS HB))); replace qA := aM (blk_below (g := qB) (lK qA) hb); replace qD := aM (blk_below (g := qX) (lK qD) hb); replace HB := aM (below_step (by have := GEc.mk qL.out; have := GEc.mk qO.out; exact lS HB) hb); (try clear hb); (try clear hb2); (try clear hk); (try clear hi); (try clear ho0); obtain ⟨qj, qk, eo11⟩ := Kd.R_slice qI.out; subst eo11; have jl := zc15 qA.out; have jm := fun i_ : Nat => blk_frozen qA.out i_))
 have n0_ : Aside0 (Kd.R k48 48 (w10.setCell ⟨qB, 2, none⟩ (.slice qj qM.length qk)) w.heap.size (fun _ => True) (.slice qj qM.length qk) qM) := ⟨by (with_reducible repeat (first | apply Kd.R_alloc | apply Kd.R_drewN | apply Kd.R_drew)); exact Kd.R_mono (fA (Kd.R_types qI.out qA.out (by decide))) (fun _ hk => trivial)⟩
 have n1_ : Aside0 ((w10.setCell ⟨qB, 2, none⟩ (.slice qj qM.length qk)).heap[qB]? = some (.cells #[.int .i64 qT, .int .i64 qU, .slice qj qM.length qk, .int .i64 qV, .int .i64 qW, .slice ql qP.length qm, .slice qn qQ.length qo, .int .i64 qR, .int .i64 qS, .slice qh qN.length qi, .slice qb qH.length qc, .int .i64 qJ, .int .i64 qK, .slice qd qF.length qe, .slice qf qG.length qg] 28 (0, 0))) := ⟨by refine lZ ?_; refine blk_put (cs := #[.int .i64 qT, .int .i64 qU, .slice qr qa.length qs, .int .i64 qV, .int .i64 qW, .slice ql qP.length qm, .slice qn qQ.length qo, .int .i64 qR, .int .i64 qS, .slice qh qN.length qi, .slice qb qH.length qc, .int .i64 qJ, .int .i64 qK, .slice qd qF.length qe, .slice qf qG.length qg]) ?_ 2 _ rfl; refine lZ ?_; exact qA.out⟩
 have n2_ : Aside0 ((w10.setCell ⟨qB, 2, none⟩ (.slice qj qM.length qk)).heap[qX]? = some (.cells #[.int .i64 0, .int .i64 0, .slice none 0 0, .int .i64 0, .int .i64 0, .slice none 0 0, .slice none 0 0, .int .i64 0, .int .i64 0, .slice none 0 0, .slice none 0 0, .int .i64 0, .int .i64 0, .slice none 0 0, .slice none 0 0] 28 (0, 0))) := ⟨by refine lZ ?_; refine blk_far ?_ qC.out _; refine lZ ?_; exact qD.out⟩
 have n3_ : Aside0 (Below w.heap.size w (w10.setCell ⟨qB, 2, none⟩ (.slice qj qM.length qk))) := ⟨by repeat (first | (with_reducible first | exact HB.out | apply below_alloc | apply pw_below_drewN | apply below_drew1 | refine below_set ?_ qL.out | refine below_set ?_ qO.out) | exact HB.out)⟩
 (try clear qI)
 (try clear qA)
 (try clear qD)
 (try clear HB)
 generalize (w10.setCell ⟨qB, 2, none⟩ (.slice qj qM.length qk)) = w13 at n0_ n1_ n2_ n3_ ⊢
 have qI := n0_
 have qA := n1_
 have qD := n2_
 have HB := n3_
 clear n0_ n1_ n2_ n3_
 have n0_ := aM (Kd.R_drew qI.out)
 have n1_ := aM (blk_drew qA.out)
 have n2_ := aM (blk_drew qD.out)
 have n3_ := aM (below_drew1 HB.out)
 clear qI
 clear qA
 clear qD
 clear HB
 have qI := n0_
 have qA := n1_
 have qD := n2_
 have HB := n3_
 clear n0_ n1_ n2_ n3_
 refine start_ (n := 15) (S := fun w' => w'.cell? ⟨qB, 0, none⟩ = some (.int .i64 qT) ∧ w'.cell? ⟨qB, 1, none⟩ = some (.int .i64 qU) ∧ w'.cell? ⟨qB, 2, none⟩ = some (.slice qj qM.length qk) ∧ w'.cell? ⟨qB, 3, none⟩ = some (.int .i64 qV) ∧ w'.cell? ⟨qB, 4, none⟩ = some (.int .i64 qW) ∧ w'.cell? ⟨qB, 5, none⟩ = some (.slice ql qP.length qm) ∧ w'.cell? ⟨qB, 6, none⟩ = some (.slice qn qQ.length qo) ∧ w'.cell? ⟨qB, 7, none⟩ = some (.int .i64 qR) ∧ w'.cell? ⟨qB, 8, none⟩ = some (.int .i64 qS) ∧ w'.cell? ⟨qB, 9, none⟩ = some (.slice qh qN.length qi) ∧ w'.cell? ⟨qB, 10, none⟩ = some (.slice qb qH.length qc) ∧ w'.cell? ⟨qB, 11, none⟩ = some (.int .i64 qJ) ∧ w'.cell? ⟨qB, 12, none⟩ = some (.int .i64 qK) ∧ w'.cell? ⟨qB, 13, none⟩ = some (.slice qd qF.length qe) ∧ w'.cell? ⟨qB, 14, none⟩ = some (.slice qf qG.length qg)) (ds := [10, 12, 14]) #[false, false, false, false, false, false, false, false, false, false, false, false, false, false, false] (by kernel_rfl) rfl rfl ⟨(blk_cell qA.out 0).trans rfl, (blk_cell qA.out 1).trans rfl, (blk_cell qA.out 2).trans rfl, (blk_cell qA.out 3).trans rfl, (blk_cell qA.out 4).trans rfl, (blk_cell qA.out 5).trans rfl, (blk_cell qA.out 6).trans rfl, (blk_cell qA.out 7).trans rfl, (blk_cell qA.out 8).trans rfl, (blk_cell qA.out 9).trans rfl, (blk_cell qA.out 10).trans rfl, (blk_cell qA.out 11).trans rfl, (blk_cell qA.out 12).trans rfl, (blk_cell qA.out 13).trans rfl, (blk_cell qA.out 14).trans rfl⟩ (fun hHeld => ?_); refine with_tabW swagelaw17_copied.tab2 swagelaw17_copied.bits2 (fun HT_ HW_ => ?_)
 generalize w13.drew = w14 at qI qA qD HB hHeld ⊢
 refine pure_ (i := 0) (N := some 7) (v := ?_) (a' := ?_) #[true, false, false, false, false, false, false, false, false, false, false, false, false, false, false] rfl rfl (any_of HT_.out (by kernel_rfl)) (fun _ _ _ h => h) (Or.inl ⟨by rfl, ?_⟩) ?_ ?_
 rotate_left
 ·intro w'
  go_simp
  with_reducible rfl
 rotate_left
 ·simp only [Act.put, List.setIfInBounds_toArray, List.set_cons_zero, List.set_cons_succ, i64_w, i32_w]
  rfl
 refine pure_ (i := 3) (N := some 10) (v := ?_) (a' := ?_) #[true, false, false, true, false, false, false, false, false, false, false, false, false, false, false] rfl rfl (any_of HT_.out (by kernel_rfl)) (fun _ _ _ h => h) (Or.inl ⟨by rfl, ?_⟩) ?_ ?_
 rotate_left
 ·intro w'
  go_simp
  with_reducible rfl
 rotate_left
 ·simp only [Act.put, List.setIfInBounds_toArray, List.set_cons_zero, List.set_cons_succ, i64_w, i32_w]
  rfl
 refine pure_ (i := 6) (N := some 13) (v := ?_) (a' := ?_) #[true, false, false, true, false, false, true, false, false, false, false, false, false, false, false] rfl rfl (any_of HT_.out (by kernel_rfl)) (fun _ _ _ h => h) (Or.inl ⟨by rfl, ?_⟩) ?_ ?_
 rotate_left
 ·intro w'
  go_simp
  with_reducible rfl
 rotate_left
 ·simp only [Act.put, List.setIfInBounds_toArray, List.set_cons_zero, List.set_cons_succ, i64_w, i32_w]
  rfl
 refine take_ (i := 1) (N := some 8) (v := ?_) (a' := ?_) #[true, true, false, true, false, false, true, false, false, false, false, false, false, false, false] rfl rfl (take_ofW HT_.out HW_.out (by kernel_rfl)) (fun _ _ _ h => h) (Or.inl ⟨by rfl, ?_⟩) hHeld ?_ ?_
 rotate_left
 ·rintro w' ⟨s0, s1, s2, s3, s4, s5, s6, s7, s8, s9, s10, s11, s12, s13, s14⟩
  go_simp
  with_reducible rfl
 rotate_left
 ·simp only [Act.put, List.setIfInBounds_toArray, List.set_cons_zero, List.set_cons_succ, i64_w, i32_w]
  rfl
 refine take_ (i := 4) (N := some 11) (v := ?_) (a' := ?_) #[true, true, false, true, true, false, true, false, false, false, false, false, false, false, false] rfl rfl (take_ofW HT_.out HW_.out (by kernel_rfl)) (fun _ _ _ h => h) (Or.inl ⟨by rfl, ?_⟩) hHeld ?_ ?_
 rotate_left
 ·rintro w' ⟨s0, s1, s2, s3, s4, s5, s6, s7, s8, s9, s10, s11, s12, s13, s14⟩
  go_simp
  with_reducible rfl
 rotate_left
 ·simp only [Act.put, List.setIfInBounds_toArray, List.set_cons_zero, List.set_cons_succ, i64_w, i32_w]
  rfl
 refine take_ (i := 7) (N := some 14) (v := ?_) (a' := ?_) #[true, true, false, true, true, false, true, true, false, false, false, false, false, false, false] rfl rfl (take_ofW HT_.out HW_.out (by kernel_rfl)) (fun _ _ _ h => h) (Or.inl ⟨by rfl, ?_⟩) hHeld ?_ ?_
 rotate_left
 ·rintro w' ⟨s0, s1, s2, s3, s4, s5, s6, s7, s8, s9, s10, s11, s12, s13, s14⟩
  go_simp
  with_reducible rfl
 rotate_left
 ·simp only [Act.put, List.setIfInBounds_toArray, List.set_cons_zero, List.set_cons_succ, i64_w, i32_w]
  rfl
 refine one_ (i := 2) (N := some 9) #[true, true, true, true, true, false, true, true, false, false, false, false, false, false, false] rfl rfl (one_of HT_.out (by kernel_rfl)) (by decide) (fun K hK => ?_)
 refine goes_ Try.func37 (by kernel_rfl) rfl #[.agg #[.int .i64 qV, .int .i64 qW, .slice ql qP.length qm, .slice qn qQ.length qo]] (by rfl) rfl rfl (by (try simp only [List.map_toArray, List.map_cons, List.map_nil]); first | done | rfl | (simp only [List.length_drop, List.length_take]; rfl)) ?_
 with_reducible refine (swageref08_Copy.calls qV qW _ _ qP _ _ qQ qt qu qv qw _ ?side1 ?side2 ?side3 ?side4 A3.out).mono ?_
 (case side1 => refine lY ?_; exact (Kd.C_below jT.out HB.out))
 (case side2 => exact jU.out)
 (case side3 => refine lY ?_; exact (Kd.C_below jV.out HB.out))
 (case side4 => exact jW.out)
 rintro e w15 ⟨v583, v586, rfl, ho0, ho1, hb⟩
 refine ⟨_, rfl, ?_⟩
 have n0_ := aM (Kd.R_below (lR qI) hb)
 have n1_ := aM (Kd.R_lower ho0 (below_size (by have := GEc.mk qL.out; have := GEc.mk qO.out; exact lS HB)))
 have n2_ := aM (Kd.R_lower ho1 (below_size (by have := GEc.mk qL.out; have := GEc.mk qO.out; exact lS HB)))
 have n3_ := aM (blk_below (g := qB) (lK qA) hb)
 have n4_ := aM (blk_below (g := qX) (lK qD) hb)
 have n5_ := aM (below_step (by have := GEc.mk qL.out; have := GEc.mk qO.out; exact lS HB) hb)
 clear qI
 clear qA
 clear qD
 clear HB
 have qI := n0_
 have qY := n1_
 have qZ := n2_
 have qA := n3_
 have qD := n4_
 have HB := n5_
 clear n0_ n1_ n2_ n3_ n4_ n5_
 (try clear hb)
 (try clear hb2)
 (try clear hk)
 (try clear hi)
 (try clear ho0)
 (try clear ho1)
 refine hK.out _ _ (zc15 qA.out) (fun hHeld => ?_)
 clear hK K
 refine norm_ (a' := ?_) ?_ ?_
 rotate_left
 ·show Act.put _ (some 9) _ = _
  simp only [Act.put, List.setIfInBounds_toArray, List.set_cons_zero, List.set_cons_succ, i64_w, i32_w]
  rfl
 refine pure_ (i := 9) (N := some 16) (v := ?_) (a' := ?_) #[true, true, true, true, true, false, true, true, false, true, false, false, false, false, false] rfl rfl (any_of HT_.out (by kernel_rfl)) (fun _ _ _ h => h) (Or.inl ⟨by rfl, ?_⟩) ?_ ?_
 rotate_left
 ·intro w'
  go_simp
  with_reducible rfl
 rotate_left
 ·simp only [Act.put, List.setIfInBounds_toArray, List.set_cons_zero, List.set_cons_succ, i64_w, i32_w]
  rfl
 refine one_ (i := 5) (N := some 12) #[true, true, true, true, true, true, true, true, false, true, false, false, false, false, false] rfl rfl (one_of HT_.out (by kernel_rfl)) (by decide) (fun K hK => ?_)
 refine goes_ Try.func37 (by kernel_rfl) rfl #[.agg #[.int .i64 qR, .int .i64 qS, .slice qh qN.length qi, .slice qb qH.length qc]] (by rfl) rfl rfl (by (try simp only [List.map_toArray, List.map_cons, List.map_nil]); first | done | rfl | (simp only [List.length_drop, List.length_take]; rfl)) ?_
 with_reducible refine (swageref08_Copy.calls qR qS _ _ qN _ _ qH qx qy qz q0 _ ?side1 ?side2 ?side3 ?side4 A4.out).mono ?_
 (case side1 => refine lY ?_; exact (Kd.C_below jX.out HB.out))
 (case side2 => exact jY.out)
 (case side3 => refine lY ?_; exact (Kd.C_below jL.out HB.out))
 (case side4 => exact jM.out)
 rintro e w16 ⟨v591, v594, rfl, ho0, ho1, hb⟩
 refine ⟨_, rfl, ?_⟩
 have n0_ := aM (Kd.R_below (lR qI) hb)
 have n1_ := aM (Kd.R_elder' (lR qY) (Kd.R_base ho0) hb)
 have n2_ := aM (Kd.R_elder' (lR qZ) (Kd.R_base ho1) hb)
 have n3_ := aM (Kd.R_lower (Kd.R_new' ho0 (Kd.R_lt (lR qY))) (below_size (by have := GEc.mk qL.out; have := GEc.mk qO.out; exact lS HB)))
 have n4_ := aM (Kd.R_lower (Kd.R_new' ho1 (Kd.R_lt (lR qZ))) (below_size (by have := GEc.mk qL.out; have := GEc.mk qO.out; exact lS HB)))
 have n5_ := aM (blk_below (g := qB) (lK qA) hb)
 have n6_ := aM (blk_below (g := qX) (lK qD) hb)
 have n7_ := aM (below_step (by have := GEc.mk qL.out; have := GEc.mk qO.out; exact lS HB) hb)
 clear qI
 clear qY
 clear qZ
 clear qA
 clear qD
 clear HB
 have qI := n0_
 have qY := n1_
 have qZ := n2_
 have qp := n3_
 have qq := n4_
 have qA := n5_
 have qD := n6_
 have HB := n7_
 clear n0_ n1_ n2_ n3_ n4_ n5_ n6_ n7_
 (try clear hb)
 (try clear hb2)
 (try clear hk)
 (try clear hi)
 (try clear ho0)
 (try clear ho1)
 refine hK.out _ _ (zc15 qA.out) (fun hHeld => ?_)
 clear hK K
 refine norm_ (a' := ?_) ?_ ?_
 rotate_left
 ·show Act.put _ (some 12) _ = _
  simp only [Act.put, List.setIfInBounds_toArray, List.set_cons_zero, List.set_cons_succ, i64_w, i32_w]
  rfl
 refine one_ (i := 8) (N := some 15) #[true, true, true, true, true, true, true, true, true, true, false, false, false, false, false] rfl rfl (one_of HT_.out (by kernel_rfl)) (by decide) (fun K hK => ?_)
 refine goes_ Try.func37 (by kernel_rfl) rfl #[.agg #[.int .i64 qJ, .int .i64 qK, .slice qd qF.length qe, .slice qf qG.length qg]] (by rfl) rfl rfl (by (try simp only [List.map_toArray, List.map_cons, List.map_nil]); first | done | rfl | (simp only [List.length_drop, List.length_take]; rfl)) ?_
 with_reducible refine (swageref08_Copy.calls qJ qK _ _ qF _ _ qG q7 q8 q9 jA _ ?side1 ?side2 ?side3 ?side4 A5.out).mono ?_
 (case side1 => refine lY ?_; exact (Kd.C_below jN.out HB.out))
 (case side2 => exact jO.out)
 (case side3 => refine lY ?_; exact (Kd.C_below jP.out HB.out))
 (case side4 => exact jQ.out)
 rintro e w17 ⟨v599, v602, rfl, ho0, ho1, hb⟩
 refine ⟨_, rfl, ?_⟩
 have n0_ := aM (Kd.R_below (lR qI) hb)
 have n1_ := aM (Kd.R_elder' (lR qY) (Kd.R_base ho0) hb)
 have n2_ := aM (Kd.R_elder' (lR qZ) (Kd.R_base ho1) hb)
 have n3_ := aM (Kd.R_elder' (lR qp) (Kd.R_base ho0) hb)
 have n4_ := aM (Kd.R_elder' (lR qq) (Kd.R_base ho1) hb)
 have n5_ := aM (Kd.R_lower (Kd.R_new' (Kd.R_new' ho0 (Kd.R_lt (lR qY))) (Kd.R_lt (lR qp))) (below_size (by have := GEc.mk qL.out; have := GEc.mk qO.out; exact lS HB)))
 have n6_ := aM (Kd.R_lower (Kd.R_new' (Kd.R_new' ho1 (Kd.R_lt (lR qZ))) (Kd.R_lt (lR qq))) (below_size (by have := GEc.mk qL.out; have := GEc.mk qO.out; exact lS HB)))
 have n7_ := aM (blk_below (g := qB) (lK qA) hb)
 have n8_ := aM (blk_below (g := qX) (lK qD) hb)
 have n9_ := aM (below_step (by have := GEc.mk qL.out; have := GEc.mk qO.out; exact lS HB) hb)
 clear qI
 clear qY
 clear qZ
 clear qp
 clear qq
 clear qA
 clear qD
 clear HB
 have qI := n0_
 have qY := n1_
 have qZ := n2_
 have qp := n3_
 have qq := n4_
 have jJ := n5_
 have jK := n6_
 have qA := n7_
 have qD := n8_
 have HB := n9_
 clear n0_ n1_ n2_ n3_ n4_ n5_ n6_ n7_ n8_ n9_
 (try clear hb)
 (try clear hb2)
 (try clear hk)
 (try clear hi)
 (try clear ho0)
 (try clear ho1)
 obtain ⟨jZ, ja, eo20⟩ := Kd.R_slice qY.out
 (first | subst eo20 | (injection eo20 with f1_ f2_ f3_; have f4_ := f1_.symm; have f5_ := f3_.symm; clear f1_ f2_ f3_; subst f4_; subst f5_))
 obtain ⟨jb, jc, eo22⟩ := Kd.R_slice qZ.out
 (first | subst eo22 | (injection eo22 with f1_ f2_ f3_; have f4_ := f1_.symm; have f5_ := f3_.symm; clear f1_ f2_ f3_; subst f4_; subst f5_))
 obtain ⟨jd, je, eo26⟩ := Kd.R_slice qp.out
 (first | subst eo26 | (injection eo26 with f1_ f2_ f3_; have f4_ := f1_.symm; have f5_ := f3_.symm; clear f1_ f2_ f3_; subst f4_; subst f5_))
 obtain ⟨jf, jg, eo28⟩ := Kd.R_slice qq.out
 (first | subst eo28 | (injection eo28 with f1_ f2_ f3_; have f4_ := f1_.symm; have f5_ := f3_.symm; clear f1_ f2_ f3_; subst f4_; subst f5_))
 obtain ⟨jh, ji, eo32⟩ := Kd.R_slice jJ.out
 (first | subst eo32 | (injection eo32 with f1_ f2_ f3_; have f4_ := f1_.symm; have f5_ := f3_.symm; clear f1_ f2_ f3_; subst f4_; subst f5_))
 obtain ⟨jj, jk, eo34⟩ := Kd.R_slice jK.out
 (first | subst eo34 | (injection eo34 with f1_ f2_ f3_; have f4_ := f1_.symm; have f5_ := f3_.symm; clear f1_ f2_ f3_; subst f4_; subst f5_))
 refine hK.out _ _ (zc15 qA.out) (fun hHeld => ?_)
 clear hK K
 refine norm_ (a' := ?_) ?_ ?_
 rotate_left
 ·show Act.put _ (some 15) _ = _
  simp only [Act.put, List.setIfInBounds_toArray, List.set_cons_zero, List.set_cons_succ, i64_w, i32_w]
  rfl
 refine last_ (i := 10) (N := none) #[true, true, true, true, true, true, true, true, true, true, true, false, false, false, false] rfl rfl (one_of HT_.out (by kernel_rfl)) (by decide) (fun K hK => ?_)
 have yX : w17.cell? ⟨qB, 3, none⟩ = some (.int .i64 qV) := (blk_cell qA.out 3).trans rfl
 have yJ := blk_frozen qA.out 3
 have jn := qC.out
 have jo := qE.out
 have yY : w17.cell? ⟨qB, 4, none⟩ = some (.int .i64 qW) := (blk_cell qA.out 4).trans rfl
 have yK := blk_frozen qA.out 4
 have jp := qC.out
 have jq := qE.out
 have yZ : w17.cell? ⟨qB, 5, none⟩ = some (.slice ql qP.length qm) := (blk_cell qA.out 5).trans rfl
 have yL := blk_frozen qA.out 5
 have jr := qC.out
 have js := qE.out
 have ya : w17.cell? ⟨qB, 6, none⟩ = some (.slice qn qQ.length qo) := (blk_cell qA.out 6).trans rfl
 have yM := blk_frozen qA.out 6
 have jt := qC.out
 have ju := qE.out
 refine skip_ (w1 := ?_) (by rfl) rfl ?_ ?_
 rotate_left
 ·go_simp
  rfl
 refine hK.out _ _ ?_
 clear hK K
 refine pure_ (i := 11) (N := some 17) (v := ?_) (a' := ?_) #[true, true, true, true, true, true, true, true, true, true, true, true, false, false, false] rfl rfl (any_of HT_.out (by kernel_rfl)) (fun _ _ _ h => h) (Or.inl ⟨by rfl, ?_⟩) ?_ ?_
 rotate_left
 ·intro w'
  go_simp
  with_reducible rfl
 rotate_left
 ·simp only [Act.put, List.setIfInBounds_toArray, List.set_cons_zero, List.set_cons_succ, i64_w, i32_w]
  rfl
 refine last_ (i := 12) (N := none) #[true, true, true, true, true, true, true, true, true, true, true, true, true, false, false] rfl rfl (one_of HT_.out (by kernel_rfl)) (by decide) (fun K hK => ?_)
 have yb : w17.cell? ⟨qB, 7, none⟩ = some (.int .i64 qR) := (blk_cell qA.out 7).trans rfl
 have yN := blk_frozen qA.out 7
 have jv := qC.out
 have jw := qE.out
 have yc : w17.cell? ⟨qB, 8, none⟩ = some (.int .i64 qS) := (blk_cell qA.out 8).trans rfl
 have yO := blk_frozen qA.out 8
 have jx := qC.out
 have jy := qE.out
 have yd : w17.cell? ⟨qB, 9, none⟩ = some (.slice qh qN.length qi) := (blk_cell qA.out 9).trans rfl
 have yP := blk_frozen qA.out 9
 have jz := qC.out
 have j0 := qE.out
 have ye : w17.cell? ⟨qB, 10, none⟩ = some (.slice qb qH.length qc) := (blk_cell qA.out 10).trans rfl
 have yQ := blk_frozen qA.out 10
 have j1 := qC.out
 have j2 := qE.out
 generalize hW_ : World.setCell _ _ _ = W_
 have hc0_ : W_.cell? ⟨qB, 7, none⟩ = some (.int .i64 qR) := by
  subst hW_
  go_simp
 have hf0_ : W_.frozen? ⟨qB, 7, none⟩ = false := by
  subst hW_
  go_simp
 have hc1_ : W_.cell? ⟨qB, 8, none⟩ = some (.int .i64 qS) := by
  subst hW_
  go_simp
 have hf1_ : W_.frozen? ⟨qB, 8, none⟩ = false := by
  subst hW_
  go_simp
 have hc2_ : W_.cell? ⟨qB, 9, none⟩ = some (.slice qh qN.length qi) := by
  subst hW_
  go_simp
 have hf2_ : W_.frozen? ⟨qB, 9, none⟩ = false := by
  subst hW_
  go_simp
 have hc3_ : W_.cell? ⟨qB, 10, none⟩ = some (.slice qb qH.length qc) := by
  subst hW_
  go_simp
 have hf3_ : W_.frozen? ⟨qB, 10, none⟩ = false := by
  subst hW_
  go_simp
 refine skip_ (w1 := ?_) (by rfl) rfl ?_ ?_
 rotate_left
 ·go_simp
  rfl
 subst hW_
 refine hK.out _ _ ?_
 clear hK K
 refine pure_ (i := 13) (N := some 18) (v := ?_) (a' := ?_) #[true, true, true, true, true, true, true, true, true, true, true, true, true, true, false] rfl rfl (any_of HT_.out (by kernel_rfl)) (fun _ _ _ h => h) (Or.inl ⟨by rfl, ?_⟩) ?_ ?_
 rotate_left
 ·intro w'
  go_simp
  with_reducible rfl
 rotate_left
 ·simp only [Act.put, List.setIfInBounds_toArray, List.set_cons_zero, List.set_cons_succ, i64_w, i32_w]
  rfl
 refine last_ (i := 14) (N := none) #[true, true, true, true, true, true, true, true, true, true, true, true, true, true, true] rfl rfl (one_of HT_.out (by kernel_rfl)) (by decide) (fun K hK => ?_)
 have yf : w17.cell? ⟨qB, 11, none⟩ = some (.int .i64 qJ) := (blk_cell qA.out 11).trans rfl
 have yR := blk_frozen qA.out 11
 have j3 := qC.out
 have j4 := qE.out
 have yg : w17.cell? ⟨qB, 12, none⟩ = some (.int .i64 qK) := (blk_cell qA.out 12).trans rfl
 have yS := blk_frozen qA.out 12
 have j5 := qC.out
 have j6 := qE.out
 have yh : w17.cell? ⟨qB, 13, none⟩ = some (.slice qd qF.length qe) := (blk_cell qA.out 13).trans rfl
 have yT := blk_frozen qA.out 13
 have j7 := qC.out
 have j8 := qE.out
 have yi : w17.cell? ⟨qB, 14, none⟩ = some (.slice qf qG.length qg) := (blk_cell qA.out 14).trans rfl
 have yU := blk_frozen qA.out 14
 have j9 := qC.out
 have yA := qE.out
 generalize hW_ : World.setCell _ _ _ = W_
 have hc0_ : W_.cell? ⟨qB, 11, none⟩ = some (.int .i64 qJ) := by
  subst hW_
  go_simp
 have hf0_ : W_.frozen? ⟨qB, 11, none⟩ = false := by
  subst hW_
  go_simp
 have hc1_ : W_.cell? ⟨qB, 12, none⟩ = some (.int .i64 qK) := by
  subst hW_
  go_simp
 have hf1_ : W_.frozen? ⟨qB, 12, none⟩ = false := by
  subst hW_
  go_simp
 have hc2_ : W_.cell? ⟨qB, 13, none⟩ = some (.slice qd qF.length qe) := by
  subst hW_
  go_simp
 have hf2_ : W_.frozen? ⟨qB, 13, none⟩ = false := by
  subst hW_
  go_simp
 have hc3_ : W_.cell? ⟨qB, 14, none⟩ = some (.slice qf qG.length qg) := by
  subst hW_
  go_simp
 have hf3_ : W_.frozen? ⟨qB, 14, none⟩ = false := by
  subst hW_
  go_simp
 refine skip_ (w1 := ?_) (by rfl) rfl ?_ ?_
 rotate_left
 ·go_simp
  rfl
 subst hW_
 refine hK.out _ _ ?_
 clear hK K
 refine done_ (done_of HT_.out (by kernel_rfl)) ?_
 have yB := zc15 qA.out
 have yC := fun i_ : Nat => blk_frozen qA.out i_
 have yD := zc15 qD.out
 have yE := fun i_ : Nat => blk_frozen qD.out i_
 try go_wp2
 refine bodyPost_ret (results_cell_row rfl _ _ qX 28 #[.int .i64 qT, .int .i64 qU, .slice qj qM.length qk, .int .i64 qt, .int .i64 qu, .slice jZ qv.length ja, .slice jb qw.length jc, .int .i64 qx, .int .i64 qy, .slice jd qz.length je, .slice jf q0.length jg, .int .i64 q7, .int .i64 q8, .slice jh q9.length ji, .slice jj jA.length jk] (0, 0) _ rfl (by refine lZ ?_; apply zp15; refine lZ ?_; refine blk_far ?_ qC.out _; refine lZ ?_; refine blk_far ?_ qC.out _; refine lZ ?_; refine blk_far ?_ qC.out _; refine lZ ?_; refine blk_far ?_ qC.out _; refine lZ ?_; refine blk_far ?_ qC.out _; refine lZ ?_; refine blk_far ?_ qC.out _; refine lZ ?_; refine blk_far ?_ qC.out _; refine lZ ?_; refine blk_far ?_ qC.out _; refine lZ ?_; refine blk_far ?_ qC.out _; refine lZ ?_; refine blk_far ?_ qC.out _; refine lZ ?_; refine blk_far ?_ qC.out _; refine lZ ?_; refine blk_far ?_ qC.out _; refine lZ ?_; exact qD.out) Try.underlying28 rfl (by kernel_rfl)) rfl ?_
 exact ⟨_, _, _, _, _, _, _, by first | rfl | (simp [errW_none, errW_some] <;> rfl) | (simp [*, errW_none, errW_some] <;> rfl), by (with_reducible repeat (first | apply Kd.R_alloc | apply Kd.R_drewN | apply Kd.R_drew)); exact Kd.R_mono (zR15 (fB (fB (fB (fB (fB (fB (fB (fB (fB (fB (fB (fB (Kd.R_types (Kd.R_types qI.out qA.out (by decide)) qD.out (by decide))))))))))))))) (fun _ hk => trivial), by (with_reducible repeat (first | apply Kd.R_alloc | apply Kd.R_drewN | apply Kd.R_drew)); exact Kd.R_mono (zR15 (fB (fB (fB (fB (fB (fB (fB (fB (fB (fB (fB (fB (Kd.R_types (Kd.R_types qY.out qA.out (by decide)) qD.out (by decide))))))))))))))) (fun _ hk => ⟨hk.1.1.1.2, hk.1.1.2⟩), by (with_reducible repeat (first | apply Kd.R_alloc | apply Kd.R_drewN | apply Kd.R_drew)); exact Kd.R_mono (zR15 (fB (fB (fB (fB (fB (fB (fB (fB (fB (fB (fB (fB (Kd.R_types (Kd.R_types qZ.out qA.out (by decide)) qD.out (by decide))))))))))))))) (fun _ hk => ⟨hk.1.1.1.2, hk.1.1.2⟩), by (with_reducible repeat (first | apply Kd.R_alloc | apply Kd.R_drewN | apply Kd.R_drew)); exact Kd.R_mono (zR15 (fB (fB (fB (fB (fB (fB (fB (fB (fB (fB (fB (fB (Kd.R_types (Kd.R_types qp.out qA.out (by decide)) qD.out (by decide))))))))))))))) (fun _ hk => ⟨hk.1.1.1.2, hk.1.1.2⟩), by (with_reducible repeat (first | apply Kd.R_alloc | apply Kd.R_drewN | apply Kd.R_drew)); exact Kd.R_mono (zR15 (fB (fB (fB (fB (fB (fB (fB (fB (fB (fB (fB (fB (Kd.R_types (Kd.R_types qq.out qA.out (by decide)) qD.out (by decide))))))))))))))) (fun _ hk => ⟨hk.1.1.1.2, hk.1.1.2⟩), by (with_reducible repeat (first | apply Kd.R_alloc | apply Kd.R_drewN | apply Kd.R_drew)); exact Kd.R_mono (zR15 (fB (fB (fB (fB (fB (fB (fB (fB (fB (fB (fB (fB (Kd.R_types (Kd.R_types jJ.out qA.out (by decide)) qD.out (by decide))))))))))))))) (fun _ hk => ⟨hk.1.1.1.2, hk.1.1.2⟩), by (with_reducible repeat (first | apply Kd.R_alloc | apply Kd.R_drewN | apply Kd.R_drew)); exact Kd.R_mono (zR15 (fB (fB (fB (fB (fB (fB (fB (fB (fB (fB (fB (fB (Kd.R_types (Kd.R_types jK.out qA.out (by decide)) qD.out (by decide))))))))))))))) (fun _ hk => ⟨hk.1.1.1.2, hk.1.1.2⟩), by repeat (first | (with_reducible first | exact HB.out | apply below_alloc | apply pw_below_drewN | apply below_drew1 | refine below_set ?_ qL.out | refine below_set ?_ qO.out) | exact HB.out)⟩

end Go.Proofs.Ytccbdcbeinkjgaa.XA
end

section
namespace Go.Proofs.Ytccbdcbeinkjgaa.XA
open Go.Proofs.Ytccbdcbeinkjgaa.Lift Go.RowKit Go.Proofs.YtccbdcbeinkjgaaW.PrintWords Go.Proofs.YtccbdcbeinkjgaaW.PrintLast Go.Proofs.YtccbdcbeinkjgaaW.PrintMore
attribute [local go_sem] max2_int min2_int max_two min_two max_three min_three max_four min_four
set_option linter.unusedVariables false
set_option linter.unusedSimpArgs false

/-! ### swagelaw17_CodeSames: function 7 -/
def swagelaw17_CodeSames.j0 : Nat → Bool → Int → Int → List (S48) → Int → Int → List (S63) → List Int → Int → Int → List (S63) → List Int → Int → Int → List (S63) → List Int → Int → Int → List (S48) → Int → Int → List (S63) → List Int → Int → Int → List (S63) → List Int → Int → Int → List (S63) → List Int → Option (Bool)
 | 0, _, _, _, _, _, _, _, _, _, _, _, _, _, _, _, _, _, _, _, _, _, _, _, _, _, _, _, _, _, _, _ => none
 | k + 1, x12, qw, qx, qy, qz, q0, q1, q2, q3, q4, q5, q6, q7, q8, q9, jA, jl, jm, jn, jo, jp, jq, jr, js, jt, ju, jv, jw, jx, jy, jz => if x12 = true then (some true) else ((code_Same.f k qw qx qy qz q0 q1 q2 q3 q4 q5 q6 q7 q8 q9 jA jl jm jn jo jp jq jr js jt ju jv jw jx jy jz).bind fun qo => ((swageref17_Same.f k qw qx qy qz q0 q1 q2 q3 q4 q5 q6 q7 q8 q9 jA jl jm jn jo jp jq jr js jt ju jv jw jx jy jz).bind fun qm => (if (qo == qm) = true then ((code_Same.f k jl jm jn jo jp jq jr js jt ju jv jw jx jy jz qw qx qy qz q0 q1 q2 q3 q4 q5 q6 q7 q8 q9 jA).bind fun ql => ((swageref17_Same.f k qw qx qy qz q0 q1 q2 q3 q4 q5 q6 q7 q8 q9 jA jl jm jn jo jp jq jr js jt ju jv jw jx jy jz).bind fun qk => (if (ql == qk) = true then ((swagelaw17_copied.f qw qx qy qz q0 q1 q2 q3 q4 q5 q6 q7 q8 q9 jA).bind fun bt1221 => ((code_Same.f k qw qx qy qz q0 q1 q2 q3 q4 q5 q6 q7 q8 q9 jA bt1221.1 bt1221.2.1 bt1221.2.2.1 bt1221.2.2.2.1 bt1221.2.2.2.2.1 bt1221.2.2.2.2.2.1 bt1221.2.2.2.2.2.2.1 bt1221.2.2.2.2.2.2.2.1 bt1221.2.2.2.2.2.2.2.2.1 bt1221.2.2.2.2.2.2.2.2.2.1 bt1221.2.2.2.2.2.2.2.2.2.2.1 bt1221.2.2.2.2.2.2.2.2.2.2.2.1 bt1221.2.2.2.2.2.2.2.2.2.2.2.2.1 bt1221.2.2.2.2.2.2.2.2.2.2.2.2.2.1 bt1221.2.2.2.2.2.2.2.2.2.2.2.2.2.2).bind fun qn => (some qn))) else (some false)))) else (some false))))
def swagelaw17_CodeSames.f (k : Nat) (qL : Int) (qM : Int) (qH : List (S48)) (qN : Int) (qO : Int) (qI : List (S63)) (qJ : List Int) (qP : Int) (qQ : Int) (qK : List (S63)) (qC : List Int) (qF : Int) (qG : Int) (qD : List (S63)) (qE : List Int) (qc : Int) (qd : Int) (qX : List (S48)) (qe : Int) (qf : Int) (qY : List (S63)) (qZ : List Int) (qg : Int) (qh : Int) (qa : List (S63)) (qR : List Int) (qU : Int) (qV : Int) (qS : List (S63)) (qT : List Int) : Option (Bool) := (swagelaw17_works.f k).bind fun yF => (if yF = true then ((swagelaw17_long.f qL qM qH qN qO qI qJ qP qQ qK qC qF qG qD qE).bind fun jJ => (if jJ = true then (swagelaw17_CodeSames.j0 k true qL qM qH qN qO qI qJ qP qQ qK qC qF qG qD qE qc qd qX qe qf qY qZ qg qh qa qR qU qV qS qT) else ((swagelaw17_long.f qc qd qX qe qf qY qZ qg qh qa qR qU qV qS qT).bind fun qp => (swagelaw17_CodeSames.j0 k qp qL qM qH qN qO qI qJ qP qQ qK qC qF qG qD qE qc qd qX qe qf qY qZ qg qh qa qR qU qV qS qT)))) else (some false))
theorem swagelaw17_CodeSames.mono_l : ∀ k, (∀ y0 y1 y2 y3 y4 y5 y6 y7 y8 y9 y10 y11 y12 y13 y14 y15 y16 y17 y18 y19 y20 y21 y22 y23 y24 y25 y26 y27 y28 y29 y30, LeO (swagelaw17_CodeSames.j0 k y0 y1 y2 y3 y4 y5 y6 y7 y8 y9 y10 y11 y12 y13 y14 y15 y16 y17 y18 y19 y20 y21 y22 y23 y24 y25 y26 y27 y28 y29 y30) (swagelaw17_CodeSames.j0 (k + 1) y0 y1 y2 y3 y4 y5 y6 y7 y8 y9 y10 y11 y12 y13 y14 y15 y16 y17 y18 y19 y20 y21 y22 y23 y24 y25 y26 y27 y28 y29 y30))
 | 0 => fun _ _ _ _ _ _ _ _ _ _ _ _ _ _ _ _ _ _ _ _ _ _ _ _ _ _ _ _ _ _ _ r h => by simp [swagelaw17_CodeSames.j0] at h
 | k + 1 => by
  have ih0 := swagelaw17_CodeSames.mono_l k
  ·intro y0 y1 y2 y3 y4 y5 y6 y7 y8 y9 y10 y11 y12 y13 y14 y15 y16 y17 y18 y19 y20 y21 y22 y23 y24 y25 y26 y27 y28 y29 y30
   unfold swagelaw17_CodeSames.j0
   repeat' first
   | (with_reducible exact ih0 ..)
   | (with_reducible exact code_Same.mono _ _ _ _ _ _ _ _ _ _ _ _ _ _ _ _ _ _ _ _ _ _ _ _ _ _ _ _ _ _ _)
   | (with_reducible exact swagelaw17_works.mono _)
   | (with_reducible exact swageref17_Same.mono _ _ _ _ _ _ _ _ _ _ _ _ _ _ _ _ _ _ _ _ _ _ _ _ _ _ _ _ _ _ _)
   | (with_reducible exact LeO.refl _)
   | (with_reducible exact LeO.none _)
   | (with_reducible refine LeO.ite ?_ ?_)
   | (with_reducible refine LeO.bind ?_ (fun _ => ?_))
   | exact ih0 _ _ _ _ _ _ _ _ _ _ _ _ _ _ _ _ _ _ _ _ _ _ _ _ _ _ _ _ _ _ _
   | exact code_Same.mono _ _ _ _ _ _ _ _ _ _ _ _ _ _ _ _ _ _ _ _ _ _ _ _ _ _ _ _ _ _ _
   | exact swagelaw17_works.mono _
   | exact swageref17_Same.mono _ _ _ _ _ _ _ _ _ _ _ _ _ _ _ _ _ _ _ _ _ _ _ _ _ _ _ _ _ _ _
   | exact LeO.none _
   | refine LeO.ite ?_ ?_
   | refine LeO.bind ?_ (fun _ => ?_)
theorem swagelaw17_CodeSames.mono : ∀ a0 a1 a2 a3 a4 a5 a6 a7 a8 a9 a10 a11 a12 a13 a14 a15 a16 a17 a18 a19 a20 a21 a22 a23 a24 a25 a26 a27 a28 a29 k, LeO (swagelaw17_CodeSames.f k a0 a1 a2 a3 a4 a5 a6 a7 a8 a9 a10 a11 a12 a13 a14 a15 a16 a17 a18 a19 a20 a21 a22 a23 a24 a25 a26 a27 a28 a29) (swagelaw17_CodeSames.f (k + 1) a0 a1 a2 a3 a4 a5 a6 a7 a8 a9 a10 a11 a12 a13 a14 a15 a16 a17 a18 a19 a20 a21 a22 a23 a24 a25 a26 a27 a28 a29) := by
 intro a0 a1 a2 a3 a4 a5 a6 a7 a8 a9 a10 a11 a12 a13 a14 a15 a16 a17 a18 a19 a20 a21 a22 a23 a24 a25 a26 a27 a28 a29 k
 have ih0 := swagelaw17_CodeSames.mono_l k
 unfold swagelaw17_CodeSames.f
 repeat' first
   | (with_reducible exact ih0 ..)
   | (with_reducible exact code_Same.mono _ _ _ _ _ _ _ _ _ _ _ _ _ _ _ _ _ _ _ _ _ _ _ _ _ _ _ _ _ _ _)
   | (with_reducible exact swagelaw17_works.mono _)
   | (with_reducible exact swageref17_Same.mono _ _ _ _ _ _ _ _ _ _ _ _ _ _ _ _ _ _ _ _ _ _ _ _ _ _ _ _ _ _ _)
   | (with_reducible exact LeO.refl _)
   | (with_reducible exact LeO.none _)
   | (with_reducible refine LeO.ite ?_ ?_)
   | (with_reducible refine LeO.bind ?_ (fun _ => ?_))
   | exact ih0 _ _ _ _ _ _ _ _ _ _ _ _ _ _ _ _ _ _ _ _ _ _ _ _ _ _ _ _ _ _ _
   | exact code_Same.mono _ _ _ _ _ _ _ _ _ _ _ _ _ _ _ _ _ _ _ _ _ _ _ _ _ _ _ _ _ _ _
   | exact swagelaw17_works.mono _
   | exact swageref17_Same.mono _ _ _ _ _ _ _ _ _ _ _ _ _ _ _ _ _ _ _ _ _ _ _ _ _ _ _ _ _ _ _
   | exact LeO.none _
   | refine LeO.ite ?_ ?_
   | refine LeO.bind ?_ (fun _ => ?_)
def swagelaw17_CodeSames.T5 : Bool × List (List Nat × List Nat) := (true, [([], []), ([], []), ([0, 1], [0, 1]), ([], []), ([], []), ([3, 4, 2], [3, 4]), ([2, 5], [2, 5]), ([6, 5], [6]), ([7], [7]), ([7], [7]), ([8, 9, 7, 7], [7, 8, 9]), ([7], [7]), ([7], [7]), ([11, 12, 10, 7], [7, 11, 12]), ([10, 13, 7], [7, 10, 13]), ([7, 14], [7, 14]), ([15, 13], [15]), ([16], [16]), ([16], [16]), ([18, 16, 16], [16, 18]), ([17, 19, 19, 16], [16, 17, 19]), ([16, 20], [16, 20]), ([21, 20, 0, 1, 2, 3, 4, 5, 6, 7, 8, 9, 10, 11, 12, 13, 14, 15, 16, 17, 18, 19, 20, 21], [21])])
def swagelaw17_CodeSames.B5 : List Nat := [0, 0, 3, 0, 0, 31, 63, 127, 255, 255, 1023, 255, 255, 8191, 16383, 32767, 65535, 131071, 131071, 393215, 1048575, 2097151, 4194303]
theorem swagelaw17_CodeSames.tab5 : rtab .any (opsOf Try.f7 5) = swagelaw17_CodeSames.T5 := by kernel_rfl
theorem swagelaw17_CodeSames.bits5 : waitsOk swagelaw17_CodeSames.T5.2 swagelaw17_CodeSames.B5 = true := by kernel_rfl
/-- A unit is read, field by field. -/
theorem CodeSames_unit_load {ρ : Operand → Value} {o : Oper} {p : Operand} {g : Nat} {W : World} {v0 v1 v2 v3 v4 v5 v6 v7 v8 v9 v10 v11 v12 v13 v14 : Value} (ho : o.op = .load 28 p) (hp : ρ p = .pointer (some ⟨g, 0, none⟩)) (h0 : W.cell? ⟨g, 0, none⟩ = some v0) (h1 : W.cell? ⟨g, 1, none⟩ = some v1) (h2 : W.cell? ⟨g, 2, none⟩ = some v2) (h3 : W.cell? ⟨g, 3, none⟩ = some v3) (h4 : W.cell? ⟨g, 4, none⟩ = some v4) (h5 : W.cell? ⟨g, 5, none⟩ = some v5) (h6 : W.cell? ⟨g, 6, none⟩ = some v6) (h7 : W.cell? ⟨g, 7, none⟩ = some v7) (h8 : W.cell? ⟨g, 8, none⟩ = some v8) (h9 : W.cell? ⟨g, 9, none⟩ = some v9) (h10 : W.cell? ⟨g, 10, none⟩ = some v10) (h11 : W.cell? ⟨g, 11, none⟩ = some v11) (h12 : W.cell? ⟨g, 12, none⟩ = some v12) (h13 : W.cell? ⟨g, 13, none⟩ = some v13) (h14 : W.cell? ⟨g, 14, none⟩ = some v14) : Sem.run Try.prog (execOp ρ o) W = .ok (.value (.agg #[v0, v1, v2, v3, v4, v5, v6, v7, v8, v9, v10, v11, v12, v13, v14])) W := by
 have hu28 := Try.underlying28
 unfold execOp
 rw [ho]
 simp only [hp]
 go_simp
set_option maxHeartbeats 8000000 in
set_option maxRecDepth 100000 in
theorem swagelaw17_CodeSames.calls (k : Nat) (qL : Int) (qM : Int) (jB : Option Addr) (jC : Nat) (qH : List (S48)) (qN : Int) (qO : Int) (jD : Option Addr) (jE : Nat) (qI : List (S63)) (jF : Option Addr) (jG : Nat) (qJ : List Int) (qP : Int) (qQ : Int) (jH : Option Addr) (jI : Nat) (qK : List (S63)) (qq : Option Addr) (qr : Nat) (qC : List Int) (qF : Int) (qG : Int) (qs : Option Addr) (qt : Nat) (qD : List (S63)) (qu : Option Addr) (qv : Nat) (qE : List Int) (qc : Int) (qd : Int) (j1 : Option Addr) (j2 : Nat) (qX : List (S48)) (qe : Int) (qf : Int) (j3 : Option Addr) (j4 : Nat) (qY : List (S63)) (j5 : Option Addr) (j6 : Nat) (qZ : List Int) (qg : Int) (qh : Int) (j7 : Option Addr) (j8 : Nat) (qa : List (S63)) (jQ : Option Addr) (jR : Nat) (qR : List Int) (qU : Int) (qV : Int) (jS : Option Addr) (jT : Nat) (qS : List (S63)) (jU : Option Addr) (jV : Nat) (qT : List Int) (r : Bool) (w : World) (ys : Kd.C k48 w jB qH.length qH) (yt : qH.length ≤ jC) (yu : Kd.C k63 w jD qI.length qI) (yv : qI.length ≤ jE) (yw : Kd.C (Kd.int .i64) w jF qJ.length qJ) (yx : qJ.length ≤ jG) (yy : Kd.C k63 w jH qK.length qK) (yz : qK.length ≤ jI) (yg : Kd.C (Kd.int .i64) w qq qC.length qC) (yh : qC.length ≤ qr) (yi : Kd.C k63 w qs qD.length qD) (yj : qD.length ≤ qt) (yk : Kd.C (Kd.int .i64) w qu qE.length qE) (yl : qE.length ≤ qv) (qAA : Kd.C k48 w j1 qX.length qX) (qAB : qX.length ≤ j2) (qAC : Kd.C k63 w j3 qY.length qY) (qAD : qY.length ≤ j4) (qAE : Kd.C (Kd.int .i64) w j5 qZ.length qZ) (qAF : qZ.length ≤ j6) (qAG : Kd.C k63 w j7 qa.length qa) (qAH : qa.length ≤ j8) (ym : Kd.C (Kd.int .i64) w jQ qR.length qR) (yn : qR.length ≤ jR) (yo : Kd.C k63 w jS qS.length qS) (yp : qS.length ≤ jT) (yq : Kd.C (Kd.int .i64) w jU qT.length qT) (yr : qT.length ≤ jV) (hT : Aside0 (r = true)) (h : swagelaw17_CodeSames.f k qL qM qH qN qO qI qJ qP qQ qK qC qF qG qD qE qc qd qX qe qf qY qZ qg qh qa qR qU qV qS qT = some r) :
  Calls Try.prog 7 #[.agg #[.int .i64 qL, .int .i64 qM, .slice jB qH.length jC, .int .i64 qN, .int .i64 qO, .slice jD qI.length jE, .slice jF qJ.length jG, .int .i64 qP, .int .i64 qQ, .slice jH qK.length jI, .slice qq qC.length qr, .int .i64 qF, .int .i64 qG, .slice qs qD.length qt, .slice qu qE.length qv], .agg #[.int .i64 qc, .int .i64 qd, .slice j1 qX.length j2, .int .i64 qe, .int .i64 qf, .slice j3 qY.length j4, .slice j5 qZ.length j6, .int .i64 qg, .int .i64 qh, .slice j7 qa.length j8, .slice jQ qR.length jR, .int .i64 qU, .int .i64 qV, .slice jS qS.length jT, .slice jU qT.length jV]] w fun e w' => e = .returned (.bool r) ∧ Below w.heap.size w w' := by
 have hu28 := Try.underlying28
 have jW := aM ys
 have jX := aM yt
 clear ys yt
 have jY := aM yu
 have jZ := aM yv
 clear yu yv
 have ja := aM yw
 have jb := aM yx
 clear yw yx
 have jc := aM yy
 have jd := aM yz
 clear yy yz
 have jK := aM yg
 have jL := aM yh
 clear yg yh
 have jM := aM yi
 have jN := aM yj
 clear yi yj
 have jO := aM yk
 have jP := aM yl
 clear yk yl
 have yI := aM qAA
 have yJ := aM qAB
 clear qAA qAB
 have yK := aM qAC
 have yL := aM qAD
 clear qAC qAD
 have yM := aM qAE
 have yN := aM qAF
 clear qAE qAF
 have yO := aM qAG
 have yP := aM qAH
 clear qAG qAH
 have j9 := aM ym
 have yA := aM yn
 clear ym yn
 have yB := aM yo
 have yC := aM yp
 clear yo yp
 have yD := aM yq
 have yE := aM yr
 clear yq yr
 have HB := aM (Below.refl w.heap.size w)
 have H : ((swagelaw17_works.f k).bind fun yF => (if yF = true then ((swagelaw17_long.f qL qM qH qN qO qI qJ qP qQ qK qC qF qG qD qE).bind fun jJ => (if jJ = true then (swagelaw17_CodeSames.j0 k true qL qM qH qN qO qI qJ qP qQ qK qC qF qG qD qE qc qd qX qe qf qY qZ qg qh qa qR qU qV qS qT) else ((swagelaw17_long.f qc qd qX qe qf qY qZ qg qh qa qR qU qV qS qT).bind fun qp => (swagelaw17_CodeSames.j0 k qp qL qM qH qN qO qI qJ qP qQ qK qC qF qG qD qE qc qd qX qe qf qY qZ qg qh qa qR qU qV qS qT)))) else (some false))) = some r := h
 clear h
 replace H := Option.bind_eq_some_iff.mp H
 obtain ⟨yF, A30, H⟩ := H
 replace H : (if yF = true then ((swagelaw17_long.f qL qM qH qN qO qI qJ qP qQ qK qC qF qG qD qE).bind fun jJ => (if jJ = true then (swagelaw17_CodeSames.j0 k true qL qM qH qN qO qI qJ qP qQ qK qC qF qG qD qE qc qd qX qe qf qY qZ qg qh qa qR qU qV qS qT) else ((swagelaw17_long.f qc qd qX qe qf qY qZ qg qh qa qR qU qV qS qT).bind fun qp => (swagelaw17_CodeSames.j0 k qp qL qM qH qN qO qI qJ qP qQ qK qC qF qG qD qE qc qd qX qe qf qY qZ qg qh qa qR qU qV qS qT)))) else (some false)) = some r := H
 have A3 := aM A30
 clear A30
 by_cases c4 : yF = true
 ·subst c4
  have H1 : ((swagelaw17_long.f qL qM qH qN qO qI qJ qP qQ qK qC qF qG qD qE).bind fun jJ => (if jJ = true then (swagelaw17_CodeSames.j0 k true qL qM qH qN qO qI qJ qP qQ qK qC qF qG qD qE qc qd qX qe qf qY qZ qg qh qa qR qU qV qS qT) else ((swagelaw17_long.f qc qd qX qe qf qY qZ qg qh qa qR qU qV qS qT).bind fun qp => (swagelaw17_CodeSames.j0 k qp qL qM qH qN qO qI qJ qP qQ qK qC qF qG qD qE qc qd qX qe qf qY qZ qg qh qa qR qU qV qS qT)))) = some r := by rw [if_pos rfl] at H; exact H
  clear H
  have H := H1
  clear H1
  have HC5 := aM H
  clear H
  go_enter Try.func7, Try.ntmps7
  go_upto_region 3 with (first | ((with_reducible refine gate_dst (N := 2) rfl ?_); refine box_event ?hg (N := 2) ?hd (cs := #[.int .i64 qL, .int .i64 qM, .slice jB qH.length jC, .int .i64 qN, .int .i64 qO, .slice jD qI.length jE, .slice jF qJ.length jG, .int .i64 qP, .int .i64 qQ, .slice jH qK.length jI, .slice qq qC.length qr, .int .i64 qF, .int .i64 qG, .slice qs qD.length qt, .slice qu qE.length qv]) (t := 28) ?hr ?_; (case hd => rfl); (case hg => rfl); (case hr => first | (go_simp; done) | (go_simp; rfl)); intro qW hg w6 hbox hb; have qA := aM (hbox); have qAc := aM ((by rw [hg]; exact (below_size (lB HB)) : w.heap.size ≤ qW)); have qi := aM ((by rw [hg]; exact (below_size (lB HB)) : w.heap.size ≤ qW)); replace HB := aM (below_step (lB HB) hb); clear hb hbox hg) | ((with_reducible refine gate_dst (N := 3) rfl ?_); refine box_event ?hg (N := 3) ?hd (cs := #[.int .i64 qc, .int .i64 qd, .slice j1 qX.length j2, .int .i64 qe, .int .i64 qf, .slice j3 qY.length j4, .slice j5 qZ.length j6, .int .i64 qg, .int .i64 qh, .slice j7 qa.length j8, .slice jQ qR.length jR, .int .i64 qU, .int .i64 qV, .slice jS qS.length jT, .slice jU qT.length jV]) (t := 28) ?hr ?_; (case hd => rfl); (case hg => rfl); (case hr => first | (go_simp; done) | (go_simp; rfl)); intro qb hg w7 hbox hb; have qB := aM (hbox); have qAd := aM ((by rw [hg]; exact (below_size (by have := GEc.mk qi.out; exact lS HB)) : w.heap.size ≤ qb)); have qj := aM ((by rw [hg]; exact (below_size (by have := GEc.mk qi.out; exact lS HB)) : w.heap.size ≤ qb)); replace HB := aM (below_step (by have := GEc.mk qi.out; exact lS HB) hb); have yG := aM ((by rw [hg]; exact Nat.ne_of_lt (blk_lt (g := qW) (lK qA)) : qW ≠ qb)); have yH := aM ((by rw [hg]; exact Nat.ne_of_gt (blk_lt (g := qW) (lK qA)) : qb ≠ qW)); replace qA := aM (blk_below (g := qW) (lK qA) hb); clear hb hbox hg) | ((with_reducible refine gate_callee (f := 10) rfl ?_); refine goesL_ (some 5) rfl rfl Try.func10 (by kernel_rfl) rfl #[] rfl (by (try simp only [List.map_toArray, List.map_cons, List.map_nil]); first | done | rfl | (simp only [List.length_drop, List.length_take]; rfl)) ?_; (with_reducible refine (swagelaw17_works.calls k  true _ A3.out).mono ?_); rintro e w8 ⟨rfl, hb⟩; refine ⟨_, rfl, ?_⟩; replace qA := aM (blk_below (g := qW) (lK qA) hb); replace qB := aM (blk_below (g := qb) (lK qB) hb); replace HB := aM (below_step (by have := GEc.mk qi.out; have := GEc.mk qj.out; exact lS HB) hb); (try clear hb); (try clear hb2); (try clear hk); (try clear hi)))
  (try simp only [Act.put, List.setIfInBounds_toArray, List.set_cons_zero, List.set_cons_succ])
  go_cut [12] (fun v12 wc => ∃ (kq : Nat) (yQ : Bool), v12 = .bool yQ ∧ Aside0 (swagelaw17_CodeSames.j0 kq yQ qL qM qH qN qO qI qJ qP qQ qK qC qF qG qD qE qc qd qX qe qf qY qZ qg qh qa qR qU qV qS qT = some r) ∧ Aside0 (kq ≤ k) ∧ Aside0 (wc.heap[qW]? = some (.cells #[.int .i64 qL, .int .i64 qM, (.slice jB qH.length jC), .int .i64 qN, .int .i64 qO, (.slice jD qI.length jE), (.slice jF qJ.length jG), .int .i64 qP, .int .i64 qQ, (.slice jH qK.length jI), (.slice qq qC.length qr), .int .i64 qF, .int .i64 qG, (.slice qs qD.length qt), (.slice qu qE.length qv)] 28 (0, 0))) ∧ Aside0 (wc.heap[qb]? = some (.cells #[.int .i64 qc, .int .i64 qd, (.slice j1 qX.length j2), .int .i64 qe, .int .i64 qf, (.slice j3 qY.length j4), (.slice j5 qZ.length j6), .int .i64 qg, .int .i64 qh, (.slice j7 qa.length j8), (.slice jQ qR.length jR), .int .i64 qU, .int .i64 qV, (.slice jS qS.length jT), (.slice jU qT.length jV)] 28 (0, 0))) ∧ Aside0 (Below w.heap.size w wc))
  case first =>
   have H := HC5.out
   clear HC5
   replace H := Option.bind_eq_some_iff.mp H
   obtain ⟨jJ, A90, H⟩ := H
   replace H : (if jJ = true then (swagelaw17_CodeSames.j0 k true qL qM qH qN qO qI qJ qP qQ qK qC qF qG qD qE qc qd qX qe qf qY qZ qg qh qa qR qU qV qS qT) else ((swagelaw17_long.f qc qd qX qe qf qY qZ qg qh qa qR qU qV qS qT).bind fun qp => (swagelaw17_CodeSames.j0 k qp qL qM qH qN qO qI qJ qP qQ qK qC qF qG qD qE qc qd qX qe qf qY qZ qg qh qa qR qU qV qS qT))) = some r := H
   have A9 := aM A90
   clear A90
   by_cases c10 : jJ = true
   ·subst c10
    have H1 : (swagelaw17_CodeSames.j0 k true qL qM qH qN qO qI qJ qP qQ qK qC qF qG qD qE qc qd qX qe qf qY qZ qg qh qa qR qU qV qS qT) = some r := by rw [if_pos rfl] at H; exact H
    clear H
    have H := H1
    clear H1
    have H' := aM H
    clear H
    have qAe := yG.out
    have qAf := yH.out
    have qAW := zc15 qA.out
    have qAX := fun i_ : Nat => blk_frozen qA.out i_
    go_wp2_with (first | ((with_reducible refine gate_callee (f := 11) rfl ?_); refine goesL_ (some 8) rfl rfl Try.func11 (by kernel_rfl) rfl #[.agg #[.int .i64 qL, .int .i64 qM, .slice jB qH.length jC, .int .i64 qN, .int .i64 qO, .slice jD qI.length jE, .slice jF qJ.length jG, .int .i64 qP, .int .i64 qQ, .slice jH qK.length jI, .slice qq qC.length qr, .int .i64 qF, .int .i64 qG, .slice qs qD.length qt, .slice qu qE.length qv]] rfl (by (try simp only [List.map_toArray, List.map_cons, List.map_nil]); first | done | rfl | (simp only [List.length_drop, List.length_take]; rfl)) ?_; (with_reducible refine (swagelaw17_long.calls qL qM _ _ qH qN qO _ _ qI _ _ qJ qP qQ _ _ qK _ _ qC qF qG _ _ qD _ _ qE true _ ?side1 ?side2 ?side3 ?side4 ?side5 ?side6 ?side7 ?side8 ?side9 ?side10 ?side11 ?side12 ?side13 ?side14 A9.out).mono ?_); (case side1 => refine lY ?_; exact (Kd.C_below jW.out HB.out)); (case side2 => exact jX.out); (case side3 => refine lY ?_; exact (Kd.C_below jY.out HB.out)); (case side4 => exact jZ.out); (case side5 => refine lY ?_; exact (Kd.C_below ja.out HB.out)); (case side6 => exact jb.out); (case side7 => refine lY ?_; exact (Kd.C_below jc.out HB.out)); (case side8 => exact jd.out); (case side9 => refine lY ?_; exact (Kd.C_below jK.out HB.out)); (case side10 => exact jL.out); (case side11 => refine lY ?_; exact (Kd.C_below jM.out HB.out)); (case side12 => exact jN.out); (case side13 => refine lY ?_; exact (Kd.C_below jO.out HB.out)); (case side14 => exact jP.out); rintro e w13 ⟨rfl, hb⟩; refine ⟨_, rfl, ?_⟩; replace qA := aM (blk_below (g := qW) (lK qA) hb); replace qB := aM (blk_below (g := qb) (lK qB) hb); replace HB := aM (below_step (by have := GEc.mk qi.out; have := GEc.mk qj.out; exact lS HB) hb); (try clear hb); (try clear hb2); (try clear hk); (try clear hi)))
    go_meet
    case rel => exact ⟨_, (true), (by first | rfl | (simp; done) | (simp [*]; done)), H', ⟨by first | omega | exact Nat.le_refl _⟩, ⟨by refine lZ ?_; exact qA.out⟩, ⟨by refine lZ ?_; exact qB.out⟩, ⟨by repeat (first | (with_reducible first | exact HB.out | apply below_alloc | apply pw_below_drewN | apply below_drew1 | refine below_set ?_ qi.out | refine below_set ?_ qj.out) | exact HB.out)⟩⟩
   ·replace c10 := Bool.eq_false_iff.mpr c10
    subst c10
    have H1 : ((swagelaw17_long.f qc qd qX qe qf qY qZ qg qh qa qR qU qV qS qT).bind fun qp => (swagelaw17_CodeSames.j0 k qp qL qM qH qN qO qI qJ qP qQ qK qC qF qG qD qE qc qd qX qe qf qY qZ qg qh qa qR qU qV qS qT)) = some r := by rw [if_neg (show ¬ (false = true) by decide)] at H; exact H
    clear H
    have H := H1
    clear H1
    replace H := Option.bind_eq_some_iff.mp H
    obtain ⟨qp, A140, H⟩ := H
    replace H : (swagelaw17_CodeSames.j0 k qp qL qM qH qN qO qI qJ qP qQ qK qC qF qG qD qE qc qd qX qe qf qY qZ qg qh qa qR qU qV qS qT) = some r := H
    have A14 := aM A140
    clear A140
    have H' := aM H
    clear H
    have qAg := yG.out
    have qAh := yH.out
    have qAY := zc15 qA.out
    have qAZ := fun i_ : Nat => blk_frozen qA.out i_
    go_wp2_with (first | ((with_reducible refine gate_callee (f := 11) rfl ?_); refine goesL_ (some 8) rfl rfl Try.func11 (by kernel_rfl) rfl #[.agg #[.int .i64 qL, .int .i64 qM, .slice jB qH.length jC, .int .i64 qN, .int .i64 qO, .slice jD qI.length jE, .slice jF qJ.length jG, .int .i64 qP, .int .i64 qQ, .slice jH qK.length jI, .slice qq qC.length qr, .int .i64 qF, .int .i64 qG, .slice qs qD.length qt, .slice qu qE.length qv]] rfl (by (try simp only [List.map_toArray, List.map_cons, List.map_nil]); first | done | rfl | (simp only [List.length_drop, List.length_take]; rfl)) ?_; (with_reducible refine (swagelaw17_long.calls qL qM _ _ qH qN qO _ _ qI _ _ qJ qP qQ _ _ qK _ _ qC qF qG _ _ qD _ _ qE false _ ?side1 ?side2 ?side3 ?side4 ?side5 ?side6 ?side7 ?side8 ?side9 ?side10 ?side11 ?side12 ?side13 ?side14 A9.out).mono ?_); (case side1 => refine lY ?_; exact (Kd.C_below jW.out HB.out)); (case side2 => exact jX.out); (case side3 => refine lY ?_; exact (Kd.C_below jY.out HB.out)); (case side4 => exact jZ.out); (case side5 => refine lY ?_; exact (Kd.C_below ja.out HB.out)); (case side6 => exact jb.out); (case side7 => refine lY ?_; exact (Kd.C_below jc.out HB.out)); (case side8 => exact jd.out); (case side9 => refine lY ?_; exact (Kd.C_below jK.out HB.out)); (case side10 => exact jL.out); (case side11 => refine lY ?_; exact (Kd.C_below jM.out HB.out)); (case side12 => exact jN.out); (case side13 => refine lY ?_; exact (Kd.C_below jO.out HB.out)); (case side14 => exact jP.out); rintro e w17 ⟨rfl, hb⟩; refine ⟨_, rfl, ?_⟩; replace qA := aM (blk_below (g := qW) (lK qA) hb); replace qB := aM (blk_below (g := qb) (lK qB) hb); replace HB := aM (below_step (by have := GEc.mk qi.out; have := GEc.mk qj.out; exact lS HB) hb); (try clear hb); (try clear hb2); (try clear hk); (try clear hi); have qAa := zc15 qB.out; have qAb := fun i_ : Nat => blk_frozen qB.out i_) | (go_at_call 11; (with_reducible refine (swagelaw17_long.calls qc qd _ _ qX qe qf _ _ qY _ _ qZ qg qh _ _ qa _ _ qR qU qV _ _ qS _ _ qT qp _ ?side1 ?side2 ?side3 ?side4 ?side5 ?side6 ?side7 ?side8 ?side9 ?side10 ?side11 ?side12 ?side13 ?side14 A14.out).mono ?_); (case side1 => refine lY ?_; exact (Kd.C_below yI.out HB.out)); (case side2 => exact yJ.out); (case side3 => refine lY ?_; exact (Kd.C_below yK.out HB.out)); (case side4 => exact yL.out); (case side5 => refine lY ?_; exact (Kd.C_below yM.out HB.out)); (case side6 => exact yN.out); (case side7 => refine lY ?_; exact (Kd.C_below yO.out HB.out)); (case side8 => exact yP.out); (case side9 => refine lY ?_; exact (Kd.C_below j9.out HB.out)); (case side10 => exact yA.out); (case side11 => refine lY ?_; exact (Kd.C_below yB.out HB.out)); (case side12 => exact yC.out); (case side13 => refine lY ?_; exact (Kd.C_below yD.out HB.out)); (case side14 => exact yE.out); rintro e w19 ⟨rfl, hb⟩; replace qA := aM (blk_below (g := qW) (lK qA) hb); replace qB := aM (blk_below (g := qb) (lK qB) hb); replace HB := aM (below_step (by have := GEc.mk qi.out; have := GEc.mk qj.out; exact lS HB) hb); (try clear hb); (try clear hb2); (try clear hk); (try clear hi)))
    go_meet
    case rel => exact ⟨_, (qp), (by first | rfl | (simp; done) | (simp [*]; done)), H', ⟨by first | omega | exact Nat.le_refl _⟩, ⟨by refine lZ ?_; exact qA.out⟩, ⟨by refine lZ ?_; exact qB.out⟩, ⟨by repeat (first | (with_reducible first | exact HB.out | apply below_alloc | apply pw_below_drewN | apply below_drew1 | refine below_set ?_ qi.out | refine below_set ?_ qj.out) | exact HB.out)⟩⟩
  case rest =>
   clear HC5
   try clear c4
   obtain ⟨kq, yQ, rfl, HA, HJ4, qA, qB, HB⟩ := hcut
   cases kq with
   | zero => exact absurd HA.out (by simp [swagelaw17_CodeSames.j0])
   | succ kj4 =>
    have H := HA.out
    clear HA
    simp only [swagelaw17_CodeSames.j0] at H
    by_cases c20 : yQ = true
    ·subst c20
     have H1 : (some true) = some r := by rw [if_pos rfl] at H; exact H
     clear H
     have H := H1
     clear H1
     obtain rfl := Option.some.inj H
     go_wp2
     go_ret
     exact ⟨by first | rfl | (simp [errW_none, errW_some] <;> rfl) | (simp [*, errW_none, errW_some] <;> rfl), by repeat (first | (with_reducible first | exact HB.out | apply below_alloc | apply pw_below_drewN | apply below_drew1 | refine below_set ?_ qi.out | refine below_set ?_ qj.out) | exact HB.out)⟩
    ·replace c20 := Bool.eq_false_iff.mpr c20
     subst c20
     have H1 : ((code_Same.f kj4 qL qM qH qN qO qI qJ qP qQ qK qC qF qG qD qE qc qd qX qe qf qY qZ qg qh qa qR qU qV qS qT).bind fun qo => ((swageref17_Same.f kj4 qL qM qH qN qO qI qJ qP qQ qK qC qF qG qD qE qc qd qX qe qf qY qZ qg qh qa qR qU qV qS qT).bind fun qm => (if (qo == qm) = true then ((code_Same.f kj4 qc qd qX qe qf qY qZ qg qh qa qR qU qV qS qT qL qM qH qN qO qI qJ qP qQ qK qC qF qG qD qE).bind fun ql => ((swageref17_Same.f kj4 qL qM qH qN qO qI qJ qP qQ qK qC qF qG qD qE qc qd qX qe qf qY qZ qg qh qa qR qU qV qS qT).bind fun qk => (if (ql == qk) = true then ((swagelaw17_copied.f qL qM qH qN qO qI qJ qP qQ qK qC qF qG qD qE).bind fun bt1221 => ((code_Same.f kj4 qL qM qH qN qO qI qJ qP qQ qK qC qF qG qD qE bt1221.1 bt1221.2.1 bt1221.2.2.1 bt1221.2.2.2.1 bt1221.2.2.2.2.1 bt1221.2.2.2.2.2.1 bt1221.2.2.2.2.2.2.1 bt1221.2.2.2.2.2.2.2.1 bt1221.2.2.2.2.2.2.2.2.1 bt1221.2.2.2.2.2.2.2.2.2.1 bt1221.2.2.2.2.2.2.2.2.2.2.1 bt1221.2.2.2.2.2.2.2.2.2.2.2.1 bt1221.2.2.2.2.2.2.2.2.2.2.2.2.1 bt1221.2.2.2.2.2.2.2.2.2.2.2.2.2.1 bt1221.2.2.2.2.2.2.2.2.2.2.2.2.2.2).bind fun qn => (some qn))) else (some false)))) else (some false)))) = some r := by rw [if_neg (show ¬ (false = true) by decide)] at H; exact H
     clear H
     have H := H1
     clear H1
     replace H := Option.bind_eq_some_iff.mp H
     obtain ⟨qo, A210, H⟩ := H
     replace H : ((swageref17_Same.f kj4 qL qM qH qN qO qI qJ qP qQ qK qC qF qG qD qE qc qd qX qe qf qY qZ qg qh qa qR qU qV qS qT).bind fun qm => (if (qo == qm) = true then ((code_Same.f kj4 qc qd qX qe qf qY qZ qg qh qa qR qU qV qS qT qL qM qH qN qO qI qJ qP qQ qK qC qF qG qD qE).bind fun ql => ((swageref17_Same.f kj4 qL qM qH qN qO qI qJ qP qQ qK qC qF qG qD qE qc qd qX qe qf qY qZ qg qh qa qR qU qV qS qT).bind fun qk => (if (ql == qk) = true then ((swagelaw17_copied.f qL qM qH qN qO qI qJ qP qQ qK qC qF qG qD qE).bind fun bt1221 => ((code_Same.f kj4 qL qM qH qN qO qI qJ qP qQ qK qC qF qG qD qE bt1221.1 bt1221.2.1 bt1221.2.2.1 bt1221.2.2.2.1 bt1221.2.2.2.2.1 bt1221.2.2.2.2.2.1 bt1221.2.2.2.2.2.2.1 bt1221.2.2.2.2.2.2.2.1 bt1221.2.2.2.2.2.2.2.2.1 bt1221.2.2.2.2.2.2.2.2.2.1 bt1221.2.2.2.2.2.2.2.2.2.2.1 bt1221.2.2.2.2.2.2.2.2.2.2.2.1 bt1221.2.2.2.2.2.2.2.2.2.2.2.2.1 bt1221.2.2.2.2.2.2.2.2.2.2.2.2.2.1 bt1221.2.2.2.2.2.2.2.2.2.2.2.2.2.2).bind fun qn => (some qn))) else (some false)))) else (some false))) = some r := H
     have A21 := aM A210
     clear A210
     replace H := Option.bind_eq_some_iff.mp H
     obtain ⟨qm, A220, H⟩ := H
     replace H : (if (qo == qm) = true then ((code_Same.f kj4 qc qd qX qe qf qY qZ qg qh qa qR qU qV qS qT qL qM qH qN qO qI qJ qP qQ qK qC qF qG qD qE).bind fun ql => ((swageref17_Same.f kj4 qL qM qH qN qO qI qJ qP qQ qK qC qF qG qD qE qc qd qX qe qf qY qZ qg qh qa qR qU qV qS qT).bind fun qk => (if (ql == qk) = true then ((swagelaw17_copied.f qL qM qH qN qO qI qJ qP qQ qK qC qF qG qD qE).bind fun bt1221 => ((code_Same.f kj4 qL qM qH qN qO qI qJ qP qQ qK qC qF qG qD qE bt1221.1 bt1221.2.1 bt1221.2.2.1 bt1221.2.2.2.1 bt1221.2.2.2.2.1 bt1221.2.2.2.2.2.1 bt1221.2.2.2.2.2.2.1 bt1221.2.2.2.2.2.2.2.1 bt1221.2.2.2.2.2.2.2.2.1 bt1221.2.2.2.2.2.2.2.2.2.1 bt1221.2.2.2.2.2.2.2.2.2.2.1 bt1221.2.2.2.2.2.2.2.2.2.2.2.1 bt1221.2.2.2.2.2.2.2.2.2.2.2.2.1 bt1221.2.2.2.2.2.2.2.2.2.2.2.2.2.1 bt1221.2.2.2.2.2.2.2.2.2.2.2.2.2.2).bind fun qn => (some qn))) else (some false)))) else (some false)) = some r := H
     have A22 := aM A220
     clear A220
     by_cases c23 : (qo == qm) = true
     ·rw [if_pos c23] at H
      have c23b0 : (qo == qm) = true := c23
      (try (have c23b1 : decide (qo = qm) = true := by simpa using c23))
      (try (have c23b2 : (qo == qm) = true := by simpa using c23))
      clear c23
      replace H := Option.bind_eq_some_iff.mp H
      obtain ⟨ql, A240, H⟩ := H
      replace H : ((swageref17_Same.f kj4 qL qM qH qN qO qI qJ qP qQ qK qC qF qG qD qE qc qd qX qe qf qY qZ qg qh qa qR qU qV qS qT).bind fun qk => (if (ql == qk) = true then ((swagelaw17_copied.f qL qM qH qN qO qI qJ qP qQ qK qC qF qG qD qE).bind fun bt1221 => ((code_Same.f kj4 qL qM qH qN qO qI qJ qP qQ qK qC qF qG qD qE bt1221.1 bt1221.2.1 bt1221.2.2.1 bt1221.2.2.2.1 bt1221.2.2.2.2.1 bt1221.2.2.2.2.2.1 bt1221.2.2.2.2.2.2.1 bt1221.2.2.2.2.2.2.2.1 bt1221.2.2.2.2.2.2.2.2.1 bt1221.2.2.2.2.2.2.2.2.2.1 bt1221.2.2.2.2.2.2.2.2.2.2.1 bt1221.2.2.2.2.2.2.2.2.2.2.2.1 bt1221.2.2.2.2.2.2.2.2.2.2.2.2.1 bt1221.2.2.2.2.2.2.2.2.2.2.2.2.2.1 bt1221.2.2.2.2.2.2.2.2.2.2.2.2.2.2).bind fun qn => (some qn))) else (some false))) = some r := H
      have A24 := aM A240
      clear A240
      replace H := Option.bind_eq_some_iff.mp H
      obtain ⟨qk, A250, H⟩ := H
      replace H : (if (ql == qk) = true then ((swagelaw17_copied.f qL qM qH qN qO qI qJ qP qQ qK qC qF qG qD qE).bind fun bt1221 => ((code_Same.f kj4 qL qM qH qN qO qI qJ qP qQ qK qC qF qG qD qE bt1221.1 bt1221.2.1 bt1221.2.2.1 bt1221.2.2.2.1 bt1221.2.2.2.2.1 bt1221.2.2.2.2.2.1 bt1221.2.2.2.2.2.2.1 bt1221.2.2.2.2.2.2.2.1 bt1221.2.2.2.2.2.2.2.2.1 bt1221.2.2.2.2.2.2.2.2.2.1 bt1221.2.2.2.2.2.2.2.2.2.2.1 bt1221.2.2.2.2.2.2.2.2.2.2.2.1 bt1221.2.2.2.2.2.2.2.2.2.2.2.2.1 bt1221.2.2.2.2.2.2.2.2.2.2.2.2.2.1 bt1221.2.2.2.2.2.2.2.2.2.2.2.2.2.2).bind fun qn => (some qn))) else (some false)) = some r := H
      have A25 := aM A250
      clear A250
      by_cases c26 : (ql == qk) = true
      ·rw [if_pos c26] at H
       have c26b0 : (ql == qk) = true := c26
       (try (have c26b1 : decide (ql = qk) = true := by simpa using c26))
       (try (have c26b2 : (ql == qk) = true := by simpa using c26))
       clear c26
       replace H := Option.bind_eq_some_iff.mp H
       obtain ⟨⟨yR, yS, yT, yU, yV, yW, yX, yY, yZ, ya, yb, yc, yd, ye, yf⟩, A270, H⟩ := H
       replace H : ((code_Same.f kj4 qL qM qH qN qO qI qJ qP qQ qK qC qF qG qD qE yR yS yT yU yV yW yX yY yZ ya yb yc yd ye yf).bind fun qn => (some qn)) = some r := H
       have A27 := aM A270
       clear A270
       replace H := Option.bind_eq_some_iff.mp H
       obtain ⟨qn, A280, H⟩ := H
       replace H : (some qn) = some r := H
       have A28 := aM A280
       clear A280
       obtain rfl := Option.some.inj H
       try go_wp2
       have n0_ := aM (blk_drew qA.out)
       have n1_ := aM (blk_drew qB.out)
       have n2_ := aM (below_drew1 HB.out)
       clear qA
       clear qB
       clear HB
       have qA := n0_
       have qB := n1_
       have HB := n2_
       clear n0_ n1_ n2_
       refine start_ (n := 23) (S := fun w' => w'.cell? ⟨qW, 0, none⟩ = some (.int .i64 qL) ∧ w'.cell? ⟨qW, 1, none⟩ = some (.int .i64 qM) ∧ w'.cell? ⟨qW, 2, none⟩ = some (.slice jB qH.length jC) ∧ w'.cell? ⟨qW, 3, none⟩ = some (.int .i64 qN) ∧ w'.cell? ⟨qW, 4, none⟩ = some (.int .i64 qO) ∧ w'.cell? ⟨qW, 5, none⟩ = some (.slice jD qI.length jE) ∧ w'.cell? ⟨qW, 6, none⟩ = some (.slice jF qJ.length jG) ∧ w'.cell? ⟨qW, 7, none⟩ = some (.int .i64 qP) ∧ w'.cell? ⟨qW, 8, none⟩ = some (.int .i64 qQ) ∧ w'.cell? ⟨qW, 9, none⟩ = some (.slice jH qK.length jI) ∧ w'.cell? ⟨qW, 10, none⟩ = some (.slice qq qC.length qr) ∧ w'.cell? ⟨qW, 11, none⟩ = some (.int .i64 qF) ∧ w'.cell? ⟨qW, 12, none⟩ = some (.int .i64 qG) ∧ w'.cell? ⟨qW, 13, none⟩ = some (.slice qs qD.length qt) ∧ w'.cell? ⟨qW, 14, none⟩ = some (.slice qu qE.length qv) ∧ w'.cell? ⟨qb, 0, none⟩ = some (.int .i64 qc) ∧ w'.cell? ⟨qb, 1, none⟩ = some (.int .i64 qd) ∧ w'.cell? ⟨qb, 2, none⟩ = some (.slice j1 qX.length j2) ∧ w'.cell? ⟨qb, 3, none⟩ = some (.int .i64 qe) ∧ w'.cell? ⟨qb, 4, none⟩ = some (.int .i64 qf) ∧ w'.cell? ⟨qb, 5, none⟩ = some (.slice j3 qY.length j4) ∧ w'.cell? ⟨qb, 6, none⟩ = some (.slice j5 qZ.length j6) ∧ w'.cell? ⟨qb, 7, none⟩ = some (.int .i64 qg) ∧ w'.cell? ⟨qb, 8, none⟩ = some (.int .i64 qh) ∧ w'.cell? ⟨qb, 9, none⟩ = some (.slice j7 qa.length j8) ∧ w'.cell? ⟨qb, 10, none⟩ = some (.slice jQ qR.length jR) ∧ w'.cell? ⟨qb, 11, none⟩ = some (.int .i64 qU) ∧ w'.cell? ⟨qb, 12, none⟩ = some (.int .i64 qV) ∧ w'.cell? ⟨qb, 13, none⟩ = some (.slice jS qS.length jT) ∧ w'.cell? ⟨qb, 14, none⟩ = some (.slice jU qT.length jV)) (ds := []) #[false, false, false, false, false, false, false, false, false, false, false, false, false, false, false, false, false, false, false, false, false, false, false] (by kernel_rfl) rfl rfl ⟨(blk_cell qA.out 0).trans rfl, (blk_cell qA.out 1).trans rfl, (blk_cell qA.out 2).trans rfl, (blk_cell qA.out 3).trans rfl, (blk_cell qA.out 4).trans rfl, (blk_cell qA.out 5).trans rfl, (blk_cell qA.out 6).trans rfl, (blk_cell qA.out 7).trans rfl, (blk_cell qA.out 8).trans rfl, (blk_cell qA.out 9).trans rfl, (blk_cell qA.out 10).trans rfl, (blk_cell qA.out 11).trans rfl, (blk_cell qA.out 12).trans rfl, (blk_cell qA.out 13).trans rfl, (blk_cell qA.out 14).trans rfl, (blk_cell qB.out 0).trans rfl, (blk_cell qB.out 1).trans rfl, (blk_cell qB.out 2).trans rfl, (blk_cell qB.out 3).trans rfl, (blk_cell qB.out 4).trans rfl, (blk_cell qB.out 5).trans rfl, (blk_cell qB.out 6).trans rfl, (blk_cell qB.out 7).trans rfl, (blk_cell qB.out 8).trans rfl, (blk_cell qB.out 9).trans rfl, (blk_cell qB.out 10).trans rfl, (blk_cell qB.out 11).trans rfl, (blk_cell qB.out 12).trans rfl, (blk_cell qB.out 13).trans rfl, (blk_cell qB.out 14).trans rfl⟩ (fun hHeld => ?_); refine with_tabW swagelaw17_CodeSames.tab5 swagelaw17_CodeSames.bits5 (fun HT_ HW_ => ?_)
       generalize wc.drew = w29 at qA qB HB hHeld ⊢
       refine take_ (i := 0) (N := some 13) (v := ?_) (a' := ?_) #[true, false, false, false, false, false, false, false, false, false, false, false, false, false, false, false, false, false, false, false, false, false, false] rfl rfl (take_ofW HT_.out HW_.out (by kernel_rfl)) (fun _ _ _ h => h) (Or.inl ⟨by rfl, ?_⟩) hHeld ?_ ?_
       rotate_left
       ·rintro w' ⟨s0, s1, s2, s3, s4, s5, s6, s7, s8, s9, s10, s11, s12, s13, s14, s15, s16, s17, s18, s19, s20, s21, s22, s23, s24, s25, s26, s27, s28, s29⟩
        first | (refine (CodeSames_unit_load (p := .tmp 2) ?ho ?hp s0 s1 s2 s3 s4 s5 s6 s7 s8 s9 s10 s11 s12 s13 s14); (case ho => rfl); (case hp => (go_simp; done))) | (refine (CodeSames_unit_load (p := .tmp 3) ?ho ?hp s0 s1 s2 s3 s4 s5 s6 s7 s8 s9 s10 s11 s12 s13 s14); (case ho => rfl); (case hp => (go_simp; done))) | (refine (CodeSames_unit_load (p := .tmp 2) ?ho ?hp s15 s16 s17 s18 s19 s20 s21 s22 s23 s24 s25 s26 s27 s28 s29); (case ho => rfl); (case hp => (go_simp; done))) | (refine (CodeSames_unit_load (p := .tmp 3) ?ho ?hp s15 s16 s17 s18 s19 s20 s21 s22 s23 s24 s25 s26 s27 s28 s29); (case ho => rfl); (case hp => (go_simp; done))) | (go_simp; with_reducible rfl)
       rotate_left
       ·simp only [Act.put, List.setIfInBounds_toArray, List.set_cons_zero, List.set_cons_succ, i64_w, i32_w]
        rfl
       refine take_ (i := 1) (N := some 14) (v := ?_) (a' := ?_) #[true, true, false, false, false, false, false, false, false, false, false, false, false, false, false, false, false, false, false, false, false, false, false] rfl rfl (take_ofW HT_.out HW_.out (by kernel_rfl)) (fun _ _ _ h => h) (Or.inl ⟨by rfl, ?_⟩) hHeld ?_ ?_
       rotate_left
       ·rintro w' ⟨s0, s1, s2, s3, s4, s5, s6, s7, s8, s9, s10, s11, s12, s13, s14, s15, s16, s17, s18, s19, s20, s21, s22, s23, s24, s25, s26, s27, s28, s29⟩
        first | (refine (CodeSames_unit_load (p := .tmp 2) ?ho ?hp s0 s1 s2 s3 s4 s5 s6 s7 s8 s9 s10 s11 s12 s13 s14); (case ho => rfl); (case hp => (go_simp; done))) | (refine (CodeSames_unit_load (p := .tmp 3) ?ho ?hp s0 s1 s2 s3 s4 s5 s6 s7 s8 s9 s10 s11 s12 s13 s14); (case ho => rfl); (case hp => (go_simp; done))) | (refine (CodeSames_unit_load (p := .tmp 2) ?ho ?hp s15 s16 s17 s18 s19 s20 s21 s22 s23 s24 s25 s26 s27 s28 s29); (case ho => rfl); (case hp => (go_simp; done))) | (refine (CodeSames_unit_load (p := .tmp 3) ?ho ?hp s15 s16 s17 s18 s19 s20 s21 s22 s23 s24 s25 s26 s27 s28 s29); (case ho => rfl); (case hp => (go_simp; done))) | (go_simp; with_reducible rfl)
       rotate_left
       ·simp only [Act.put, List.setIfInBounds_toArray, List.set_cons_zero, List.set_cons_succ, i64_w, i32_w]
        rfl
       refine take_ (i := 3) (N := some 16) (v := ?_) (a' := ?_) #[true, true, false, true, false, false, false, false, false, false, false, false, false, false, false, false, false, false, false, false, false, false, false] rfl rfl (take_ofW HT_.out HW_.out (by kernel_rfl)) (fun _ _ _ h => h) (Or.inl ⟨by rfl, ?_⟩) hHeld ?_ ?_
       rotate_left
       ·rintro w' ⟨s0, s1, s2, s3, s4, s5, s6, s7, s8, s9, s10, s11, s12, s13, s14, s15, s16, s17, s18, s19, s20, s21, s22, s23, s24, s25, s26, s27, s28, s29⟩
        first | (refine (CodeSames_unit_load (p := .tmp 2) ?ho ?hp s0 s1 s2 s3 s4 s5 s6 s7 s8 s9 s10 s11 s12 s13 s14); (case ho => rfl); (case hp => (go_simp; done))) | (refine (CodeSames_unit_load (p := .tmp 3) ?ho ?hp s0 s1 s2 s3 s4 s5 s6 s7 s8 s9 s10 s11 s12 s13 s14); (case ho => rfl); (case hp => (go_simp; done))) | (refine (CodeSames_unit_load (p := .tmp 2) ?ho ?hp s15 s16 s17 s18 s19 s20 s21 s22 s23 s24 s25 s26 s27 s28 s29); (case ho => rfl); (case hp => (go_simp; done))) | (refine (CodeSames_unit_load (p := .tmp 3) ?ho ?hp s15 s16 s17 s18 s19 s20 s21 s22 s23 s24 s25 s26 s27 s28 s29); (case ho => rfl); (case hp => (go_simp; done))) | (go_simp; with_reducible rfl)
       rotate_left
       ·simp only [Act.put, List.setIfInBounds_toArray, List.set_cons_zero, List.set_cons_succ, i64_w, i32_w]
        rfl
       refine take_ (i := 4) (N := some 17) (v := ?_) (a' := ?_) #[true, true, false, true, true, false, false, false, false, false, false, false, false, false, false, false, false, false, false, false, false, false, false] rfl rfl (take_ofW HT_.out HW_.out (by kernel_rfl)) (fun _ _ _ h => h) (Or.inl ⟨by rfl, ?_⟩) hHeld ?_ ?_
       rotate_left
       ·rintro w' ⟨s0, s1, s2, s3, s4, s5, s6, s7, s8, s9, s10, s11, s12, s13, s14, s15, s16, s17, s18, s19, s20, s21, s22, s23, s24, s25, s26, s27, s28, s29⟩
        first | (refine (CodeSames_unit_load (p := .tmp 2) ?ho ?hp s0 s1 s2 s3 s4 s5 s6 s7 s8 s9 s10 s11 s12 s13 s14); (case ho => rfl); (case hp => (go_simp; done))) | (refine (CodeSames_unit_load (p := .tmp 3) ?ho ?hp s0 s1 s2 s3 s4 s5 s6 s7 s8 s9 s10 s11 s12 s13 s14); (case ho => rfl); (case hp => (go_simp; done))) | (refine (CodeSames_unit_load (p := .tmp 2) ?ho ?hp s15 s16 s17 s18 s19 s20 s21 s22 s23 s24 s25 s26 s27 s28 s29); (case ho => rfl); (case hp => (go_simp; done))) | (refine (CodeSames_unit_load (p := .tmp 3) ?ho ?hp s15 s16 s17 s18 s19 s20 s21 s22 s23 s24 s25 s26 s27 s28 s29); (case ho => rfl); (case hp => (go_simp; done))) | (go_simp; with_reducible rfl)
       rotate_left
       ·simp only [Act.put, List.setIfInBounds_toArray, List.set_cons_zero, List.set_cons_succ, i64_w, i32_w]
        rfl
       refine one_ (i := 2) (N := some 15) #[true, true, true, true, true, false, false, false, false, false, false, false, false, false, false, false, false, false, false, false, false, false, false] rfl rfl (one_of HT_.out (by kernel_rfl)) (by decide) (fun K hK => ?_)
       refine goes_ Try.func14 (by kernel_rfl) rfl #[.agg #[.int .i64 qL, .int .i64 qM, .slice jB qH.length jC, .int .i64 qN, .int .i64 qO, .slice jD qI.length jE, .slice jF qJ.length jG, .int .i64 qP, .int .i64 qQ, .slice jH qK.length jI, .slice qq qC.length qr, .int .i64 qF, .int .i64 qG, .slice qs qD.length qt, .slice qu qE.length qv], .agg #[.int .i64 qc, .int .i64 qd, .slice j1 qX.length j2, .int .i64 qe, .int .i64 qf, .slice j3 qY.length j4, .slice j5 qZ.length j6, .int .i64 qg, .int .i64 qh, .slice j7 qa.length j8, .slice jQ qR.length jR, .int .i64 qU, .int .i64 qV, .slice jS qS.length jT, .slice jU qT.length jV]] (by rfl) rfl rfl (by (try simp only [List.map_toArray, List.map_cons, List.map_nil]); first | done | rfl | (simp only [List.length_drop, List.length_take]; rfl)) ?_
       with_reducible refine (code_Same.calls kj4 qL qM _ _ qH qN qO _ _ qI _ _ qJ qP qQ _ _ qK _ _ qC qF qG _ _ qD _ _ qE qc qd _ _ qX qe qf _ _ qY _ _ qZ qg qh _ _ qa _ _ qR qU qV _ _ qS _ _ qT qo _ ?side1 ?side2 ?side3 ?side4 ?side5 ?side6 ?side7 ?side8 ?side9 ?side10 ?side11 ?side12 ?side13 ?side14 ?side15 ?side16 ?side17 ?side18 ?side19 ?side20 ?side21 ?side22 ?side23 ?side24 ?side25 ?side26 ?side27 ?side28 A21.out).mono ?_
       (case side1 => refine lY ?_; exact (Kd.C_below jW.out HB.out))
       (case side2 => exact jX.out)
       (case side3 => refine lY ?_; exact (Kd.C_below jY.out HB.out))
       (case side4 => exact jZ.out)
       (case side5 => refine lY ?_; exact (Kd.C_below ja.out HB.out))
       (case side6 => exact jb.out)
       (case side7 => refine lY ?_; exact (Kd.C_below jc.out HB.out))
       (case side8 => exact jd.out)
       (case side9 => refine lY ?_; exact (Kd.C_below jK.out HB.out))
       (case side10 => exact jL.out)
       (case side11 => refine lY ?_; exact (Kd.C_below jM.out HB.out))
       (case side12 => exact jN.out)
       (case side13 => refine lY ?_; exact (Kd.C_below jO.out HB.out))
       (case side14 => exact jP.out)
       (case side15 => refine lY ?_; exact (Kd.C_below yI.out HB.out))
       (case side16 => exact yJ.out)
       (case side17 => refine lY ?_; exact (Kd.C_below yK.out HB.out))
       (case side18 => exact yL.out)
       (case side19 => refine lY ?_; exact (Kd.C_below yM.out HB.out))
       (case side20 => exact yN.out)
       (case side21 => refine lY ?_; exact (Kd.C_below yO.out HB.out))
       (case side22 => exact yP.out)
       (case side23 => refine lY ?_; exact (Kd.C_below j9.out HB.out))
       (case side24 => exact yA.out)
       (case side25 => refine lY ?_; exact (Kd.C_below yB.out HB.out))
       (case side26 => exact yC.out)
       (case side27 => refine lY ?_; exact (Kd.C_below yD.out HB.out))
       (case side28 => exact yE.out)
       rintro e w30 ⟨rfl, hb⟩
       refine ⟨_, rfl, ?_⟩
       have n0_ := aM (blk_below (g := qW) (lK qA) hb)
       have n1_ := aM (blk_below (g := qb) (lK qB) hb)
       have n2_ := aM (below_step (by have := GEc.mk qi.out; have := GEc.mk qj.out; exact lS HB) hb)
       clear qA
       clear qB
       clear HB
       have qA := n0_
       have qB := n1_
       have HB := n2_
       clear n0_ n1_ n2_
       (try clear hb)
       (try clear hb2)
       (try clear hk)
       (try clear hi)
       refine hK.out _ _ ⟨(blk_cell qA.out 0).trans rfl, (blk_cell qA.out 1).trans rfl, (blk_cell qA.out 2).trans rfl, (blk_cell qA.out 3).trans rfl, (blk_cell qA.out 4).trans rfl, (blk_cell qA.out 5).trans rfl, (blk_cell qA.out 6).trans rfl, (blk_cell qA.out 7).trans rfl, (blk_cell qA.out 8).trans rfl, (blk_cell qA.out 9).trans rfl, (blk_cell qA.out 10).trans rfl, (blk_cell qA.out 11).trans rfl, (blk_cell qA.out 12).trans rfl, (blk_cell qA.out 13).trans rfl, (blk_cell qA.out 14).trans rfl, (blk_cell qB.out 0).trans rfl, (blk_cell qB.out 1).trans rfl, (blk_cell qB.out 2).trans rfl, (blk_cell qB.out 3).trans rfl, (blk_cell qB.out 4).trans rfl, (blk_cell qB.out 5).trans rfl, (blk_cell qB.out 6).trans rfl, (blk_cell qB.out 7).trans rfl, (blk_cell qB.out 8).trans rfl, (blk_cell qB.out 9).trans rfl, (blk_cell qB.out 10).trans rfl, (blk_cell qB.out 11).trans rfl, (blk_cell qB.out 12).trans rfl, (blk_cell qB.out 13).trans rfl, (blk_cell qB.out 14).trans rfl⟩ (fun hHeld => ?_)
       clear hK K
       refine norm_ (a' := ?_) ?_ ?_
       rotate_left
       ·show Act.put _ (some 15) _ = _
        simp only [Act.put, List.setIfInBounds_toArray, List.set_cons_zero, List.set_cons_succ, i64_w, i32_w]
        rfl
       refine one_ (i := 5) (N := some 18) #[true, true, true, true, true, true, false, false, false, false, false, false, false, false, false, false, false, false, false, false, false, false, false] rfl rfl (one_of HT_.out (by kernel_rfl)) (by decide) (fun K hK => ?_)
       refine goes_ Try.func25 (by kernel_rfl) rfl #[.agg #[.int .i64 qL, .int .i64 qM, .slice jB qH.length jC, .int .i64 qN, .int .i64 qO, .slice jD qI.length jE, .slice jF qJ.length jG, .int .i64 qP, .int .i64 qQ, .slice jH qK.length jI, .slice qq qC.length qr, .int .i64 qF, .int .i64 qG, .slice qs qD.length qt, .slice qu qE.length qv], .agg #[.int .i64 qc, .int .i64 qd, .slice j1 qX.length j2, .int .i64 qe, .int .i64 qf, .slice j3 qY.length j4, .slice j5 qZ.length j6, .int .i64 qg, .int .i64 qh, .slice j7 qa.length j8, .slice jQ qR.length jR, .int .i64 qU, .int .i64 qV, .slice jS qS.length jT, .slice jU qT.length jV]] (by rfl) rfl rfl (by (try simp only [List.map_toArray, List.map_cons, List.map_nil]); first | done | rfl | (simp only [List.length_drop, List.length_take]; rfl)) ?_
       with_reducible refine (swageref17_Same.calls kj4 qL qM _ _ qH qN qO _ _ qI _ _ qJ qP qQ _ _ qK _ _ qC qF qG _ _ qD _ _ qE qc qd _ _ qX qe qf _ _ qY _ _ qZ qg qh _ _ qa _ _ qR qU qV _ _ qS _ _ qT qm _ ?side1 ?side2 ?side3 ?side4 ?side5 ?side6 ?side7 ?side8 ?side9 ?side10 ?side11 ?side12 ?side13 ?side14 ?side15 ?side16 ?side17 ?side18 ?side19 ?side20 ?side21 ?side22 ?side23 ?side24 ?side25 ?side26 ?side27 ?side28 A22.out).mono ?_
       (case side1 => refine lY ?_; exact (Kd.C_below jW.out HB.out))
       (case side2 => exact jX.out)
       (case side3 => refine lY ?_; exact (Kd.C_below jY.out HB.out))
       (case side4 => exact jZ.out)
       (case side5 => refine lY ?_; exact (Kd.C_below ja.out HB.out))
       (case side6 => exact jb.out)
       (case side7 => refine lY ?_; exact (Kd.C_below jc.out HB.out))
       (case side8 => exact jd.out)
       (case side9 => refine lY ?_; exact (Kd.C_below jK.out HB.out))
       (case side10 => exact jL.out)
       (case side11 => refine lY ?_; exact (Kd.C_below jM.out HB.out))
       (case side12 => exact jN.out)
       (case side13 => refine lY ?_; exact (Kd.C_below jO.out HB.out))
       (case side14 => exact jP.out)
       (case side15 => refine lY ?_; exact (Kd.C_below yI.out HB.out))
       (case side16 => exact yJ.out)
       (case side17 => refine lY ?_; exact (Kd.C_below yK.out HB.out))
       (case side18 => exact yL.out)
       (case side19 => refine lY ?_; exact (Kd.C_below yM.out HB.out))
       (case side20 => exact yN.out)
       (case side21 => refine lY ?_; exact (Kd.C_below yO.out HB.out))
       (case side22 => exact yP.out)
       (case side23 => refine lY ?_; exact (Kd.C_below j9.out HB.out))
       (case side24 => exact yA.out)
       (case side25 => refine lY ?_; exact (Kd.C_below yB.out HB.out))
       (case side26 => exact yC.out)
       (case side27 => refine lY ?_; exact (Kd.C_below yD.out HB.out))
       (case side28 => exact yE.out)
       rintro e w31 ⟨rfl, hb⟩
       refine ⟨_, rfl, ?_⟩
       have n0_ := aM (blk_below (g := qW) (lK qA) hb)
       have n1_ := aM (blk_below (g := qb) (lK qB) hb)
       have n2_ := aM (below_step (by have := GEc.mk qi.out; have := GEc.mk qj.out; exact lS HB) hb)
       clear qA
       clear qB
       clear HB
       have qA := n0_
       have qB := n1_
       have HB := n2_
       clear n0_ n1_ n2_
       (try clear hb)
       (try clear hb2)
       (try clear hk)
       (try clear hi)
       refine hK.out _ _ ⟨(blk_cell qA.out 0).trans rfl, (blk_cell qA.out 1).trans rfl, (blk_cell qA.out 2).trans rfl, (blk_cell qA.out 3).trans rfl, (blk_cell qA.out 4).trans rfl, (blk_cell qA.out 5).trans rfl, (blk_cell qA.out 6).trans rfl, (blk_cell qA.out 7).trans rfl, (blk_cell qA.out 8).trans rfl, (blk_cell qA.out 9).trans rfl, (blk_cell qA.out 10).trans rfl, (blk_cell qA.out 11).trans rfl, (blk_cell qA.out 12).trans rfl, (blk_cell qA.out 13).trans rfl, (blk_cell qA.out 14).trans rfl, (blk_cell qB.out 0).trans rfl, (blk_cell qB.out 1).trans rfl, (blk_cell qB.out 2).trans rfl, (blk_cell qB.out 3).trans rfl, (blk_cell qB.out 4).trans rfl, (blk_cell qB.out 5).trans rfl, (blk_cell qB.out 6).trans rfl, (blk_cell qB.out 7).trans rfl, (blk_cell qB.out 8).trans rfl, (blk_cell qB.out 9).trans rfl, (blk_cell qB.out 10).trans rfl, (blk_cell qB.out 11).trans rfl, (blk_cell qB.out 12).trans rfl, (blk_cell qB.out 13).trans rfl, (blk_cell qB.out 14).trans rfl⟩ (fun hHeld => ?_)
       clear hK K
       refine norm_ (a' := ?_) ?_ ?_
       rotate_left
       ·show Act.put _ (some 18) _ = _
        simp only [Act.put, List.setIfInBounds_toArray, List.set_cons_zero, List.set_cons_succ, i64_w, i32_w]
        rfl
       refine pure_ (i := 6) (N := some 19) (v := ?_) (a' := ?_) #[true, true, true, true, true, true, true, false, false, false, false, false, false, false, false, false, false, false, false, false, false, false, false] rfl rfl (any_of HT_.out (by kernel_rfl)) (fun _ _ _ h => h) (Or.inl ⟨by rfl, ?_⟩) ?_ ?_
       rotate_left
       ·intro w'
        go_simp
        with_reducible rfl
       rotate_left
       ·simp only [Act.put, List.setIfInBounds_toArray, List.set_cons_zero, List.set_cons_succ, i64_w, i32_w]
        rfl
       refine pure_ (i := 7) (N := some 20) (v := ?_) (a' := ?_) #[true, true, true, true, true, true, true, true, false, false, false, false, false, false, false, false, false, false, false, false, false, false, false] rfl rfl (any_of HT_.out (by kernel_rfl)) (fun _ _ _ h => h) (Or.inl ⟨by rfl, ?_⟩) ?_ ?_
       rotate_left
       ·intro w'
        go_simp
        with_reducible rfl
       rotate_left
       ·simp only [Act.put, List.setIfInBounds_toArray, List.set_cons_zero, List.set_cons_succ, i64_w, i32_w]
        rfl
       refine take_ (i := 8) (N := some 21) (v := ?_) (a' := ?_) #[true, true, true, true, true, true, true, true, true, false, false, false, false, false, false, false, false, false, false, false, false, false, false] rfl rfl (take_ofW HT_.out HW_.out (by kernel_rfl)) (fun _ _ _ h => h) (Or.inl ⟨by rfl, ?_⟩) hHeld ?_ ?_
       rotate_left
       ·rintro w' ⟨s0, s1, s2, s3, s4, s5, s6, s7, s8, s9, s10, s11, s12, s13, s14, s15, s16, s17, s18, s19, s20, s21, s22, s23, s24, s25, s26, s27, s28, s29⟩
        first | (refine (CodeSames_unit_load (p := .tmp 2) ?ho ?hp s0 s1 s2 s3 s4 s5 s6 s7 s8 s9 s10 s11 s12 s13 s14); (case ho => rfl); (case hp => (go_simp; done))) | (refine (CodeSames_unit_load (p := .tmp 3) ?ho ?hp s0 s1 s2 s3 s4 s5 s6 s7 s8 s9 s10 s11 s12 s13 s14); (case ho => rfl); (case hp => (go_simp; done))) | (refine (CodeSames_unit_load (p := .tmp 2) ?ho ?hp s15 s16 s17 s18 s19 s20 s21 s22 s23 s24 s25 s26 s27 s28 s29); (case ho => rfl); (case hp => (go_simp; done))) | (refine (CodeSames_unit_load (p := .tmp 3) ?ho ?hp s15 s16 s17 s18 s19 s20 s21 s22 s23 s24 s25 s26 s27 s28 s29); (case ho => rfl); (case hp => (go_simp; done))) | (go_simp; with_reducible rfl)
       rotate_left
       ·simp only [Act.put, List.setIfInBounds_toArray, List.set_cons_zero, List.set_cons_succ, i64_w, i32_w]
        rfl
       refine take_ (i := 9) (N := some 22) (v := ?_) (a' := ?_) #[true, true, true, true, true, true, true, true, true, true, false, false, false, false, false, false, false, false, false, false, false, false, false] rfl rfl (take_ofW HT_.out HW_.out (by kernel_rfl)) (fun _ _ _ h => h) (Or.inl ⟨by rfl, ?_⟩) hHeld ?_ ?_
       rotate_left
       ·rintro w' ⟨s0, s1, s2, s3, s4, s5, s6, s7, s8, s9, s10, s11, s12, s13, s14, s15, s16, s17, s18, s19, s20, s21, s22, s23, s24, s25, s26, s27, s28, s29⟩
        first | (refine (CodeSames_unit_load (p := .tmp 2) ?ho ?hp s0 s1 s2 s3 s4 s5 s6 s7 s8 s9 s10 s11 s12 s13 s14); (case ho => rfl); (case hp => (go_simp; done))) | (refine (CodeSames_unit_load (p := .tmp 3) ?ho ?hp s0 s1 s2 s3 s4 s5 s6 s7 s8 s9 s10 s11 s12 s13 s14); (case ho => rfl); (case hp => (go_simp; done))) | (refine (CodeSames_unit_load (p := .tmp 2) ?ho ?hp s15 s16 s17 s18 s19 s20 s21 s22 s23 s24 s25 s26 s27 s28 s29); (case ho => rfl); (case hp => (go_simp; done))) | (refine (CodeSames_unit_load (p := .tmp 3) ?ho ?hp s15 s16 s17 s18 s19 s20 s21 s22 s23 s24 s25 s26 s27 s28 s29); (case ho => rfl); (case hp => (go_simp; done))) | (go_simp; with_reducible rfl)
       rotate_left
       ·simp only [Act.put, List.setIfInBounds_toArray, List.set_cons_zero, List.set_cons_succ, i64_w, i32_w]
        rfl
       refine take_ (i := 11) (N := some 24) (v := ?_) (a' := ?_) #[true, true, true, true, true, true, true, true, true, true, false, true, false, false, false, false, false, false, false, false, false, false, false] rfl rfl (take_ofW HT_.out HW_.out (by kernel_rfl)) (fun _ _ _ h => h) (Or.inl ⟨by rfl, ?_⟩) hHeld ?_ ?_
       rotate_left
       ·rintro w' ⟨s0, s1, s2, s3, s4, s5, s6, s7, s8, s9, s10, s11, s12, s13, s14, s15, s16, s17, s18, s19, s20, s21, s22, s23, s24, s25, s26, s27, s28, s29⟩
        first | (refine (CodeSames_unit_load (p := .tmp 2) ?ho ?hp s0 s1 s2 s3 s4 s5 s6 s7 s8 s9 s10 s11 s12 s13 s14); (case ho => rfl); (case hp => (go_simp; done))) | (refine (CodeSames_unit_load (p := .tmp 3) ?ho ?hp s0 s1 s2 s3 s4 s5 s6 s7 s8 s9 s10 s11 s12 s13 s14); (case ho => rfl); (case hp => (go_simp; done))) | (refine (CodeSames_unit_load (p := .tmp 2) ?ho ?hp s15 s16 s17 s18 s19 s20 s21 s22 s23 s24 s25 s26 s27 s28 s29); (case ho => rfl); (case hp => (go_simp; done))) | (refine (CodeSames_unit_load (p := .tmp 3) ?ho ?hp s15 s16 s17 s18 s19 s20 s21 s22 s23 s24 s25 s26 s27 s28 s29); (case ho => rfl); (case hp => (go_simp; done))) | (go_simp; with_reducible rfl)
       rotate_left
       ·simp only [Act.put, List.setIfInBounds_toArray, List.set_cons_zero, List.set_cons_succ, i64_w, i32_w]
        rfl
       refine take_ (i := 12) (N := some 25) (v := ?_) (a' := ?_) #[true, true, true, true, true, true, true, true, true, true, false, true, true, false, false, false, false, false, false, false, false, false, false] rfl rfl (take_ofW HT_.out HW_.out (by kernel_rfl)) (fun _ _ _ h => h) (Or.inl ⟨by rfl, ?_⟩) hHeld ?_ ?_
       rotate_left
       ·rintro w' ⟨s0, s1, s2, s3, s4, s5, s6, s7, s8, s9, s10, s11, s12, s13, s14, s15, s16, s17, s18, s19, s20, s21, s22, s23, s24, s25, s26, s27, s28, s29⟩
        first | (refine (CodeSames_unit_load (p := .tmp 2) ?ho ?hp s0 s1 s2 s3 s4 s5 s6 s7 s8 s9 s10 s11 s12 s13 s14); (case ho => rfl); (case hp => (go_simp; done))) | (refine (CodeSames_unit_load (p := .tmp 3) ?ho ?hp s0 s1 s2 s3 s4 s5 s6 s7 s8 s9 s10 s11 s12 s13 s14); (case ho => rfl); (case hp => (go_simp; done))) | (refine (CodeSames_unit_load (p := .tmp 2) ?ho ?hp s15 s16 s17 s18 s19 s20 s21 s22 s23 s24 s25 s26 s27 s28 s29); (case ho => rfl); (case hp => (go_simp; done))) | (refine (CodeSames_unit_load (p := .tmp 3) ?ho ?hp s15 s16 s17 s18 s19 s20 s21 s22 s23 s24 s25 s26 s27 s28 s29); (case ho => rfl); (case hp => (go_simp; done))) | (go_simp; with_reducible rfl)
       rotate_left
       ·simp only [Act.put, List.setIfInBounds_toArray, List.set_cons_zero, List.set_cons_succ, i64_w, i32_w]
        rfl
       refine one_ (i := 10) (N := some 23) #[true, true, true, true, true, true, true, true, true, true, true, true, true, false, false, false, false, false, false, false, false, false, false] rfl rfl (one_of HT_.out (by kernel_rfl)) (by decide) (fun K hK => ?_)
       refine goes_ Try.func14 (by kernel_rfl) rfl #[.agg #[.int .i64 qc, .int .i64 qd, .slice j1 qX.length j2, .int .i64 qe, .int .i64 qf, .slice j3 qY.length j4, .slice j5 qZ.length j6, .int .i64 qg, .int .i64 qh, .slice j7 qa.length j8, .slice jQ qR.length jR, .int .i64 qU, .int .i64 qV, .slice jS qS.length jT, .slice jU qT.length jV], .agg #[.int .i64 qL, .int .i64 qM, .slice jB qH.length jC, .int .i64 qN, .int .i64 qO, .slice jD qI.length jE, .slice jF qJ.length jG, .int .i64 qP, .int .i64 qQ, .slice jH qK.length jI, .slice qq qC.length qr, .int .i64 qF, .int .i64 qG, .slice qs qD.length qt, .slice qu qE.length qv]] (by rfl) rfl rfl (by (try simp only [List.map_toArray, List.map_cons, List.map_nil]); first | done | rfl | (simp only [List.length_drop, List.length_take]; rfl)) ?_
       with_reducible refine (code_Same.calls kj4 qc qd _ _ qX qe qf _ _ qY _ _ qZ qg qh _ _ qa _ _ qR qU qV _ _ qS _ _ qT qL qM _ _ qH qN qO _ _ qI _ _ qJ qP qQ _ _ qK _ _ qC qF qG _ _ qD _ _ qE ql _ ?side1 ?side2 ?side3 ?side4 ?side5 ?side6 ?side7 ?side8 ?side9 ?side10 ?side11 ?side12 ?side13 ?side14 ?side15 ?side16 ?side17 ?side18 ?side19 ?side20 ?side21 ?side22 ?side23 ?side24 ?side25 ?side26 ?side27 ?side28 A24.out).mono ?_
       (case side1 => refine lY ?_; exact (Kd.C_below yI.out HB.out))
       (case side2 => exact yJ.out)
       (case side3 => refine lY ?_; exact (Kd.C_below yK.out HB.out))
       (case side4 => exact yL.out)
       (case side5 => refine lY ?_; exact (Kd.C_below yM.out HB.out))
       (case side6 => exact yN.out)
       (case side7 => refine lY ?_; exact (Kd.C_below yO.out HB.out))
       (case side8 => exact yP.out)
       (case side9 => refine lY ?_; exact (Kd.C_below j9.out HB.out))
       (case side10 => exact yA.out)
       (case side11 => refine lY ?_; exact (Kd.C_below yB.out HB.out))
       (case side12 => exact yC.out)
       (case side13 => refine lY ?_; exact (Kd.C_below yD.out HB.out))
       (case side14 => exact yE.out)
       (case side15 => refine lY ?_; exact (Kd.C_below jW.out HB.out))
       (case side16 => exact jX.out)
       (case side17 => refine lY ?_; exact (Kd.C_below jY.out HB.out))
       (case side18 => exact jZ.out)
       (case side19 => refine lY ?_; exact (Kd.C_below ja.out HB.out))
       (case side20 => exact jb.out)
       (case side21 => refine lY ?_; exact (Kd.C_below jc.out HB.out))
       (case side22 => exact jd.out)
       (case side23 => refine lY ?_; exact (Kd.C_below jK.out HB.out))
       (case side24 => exact jL.out)
       (case side25 => refine lY ?_; exact (Kd.C_below jM.out HB.out))
       (case side26 => exact jN.out)
       (case side27 => refine lY ?_; exact (Kd.C_below jO.out HB.out))
       (case side28 => exact jP.out)
       rintro e w32 ⟨rfl, hb⟩
       refine ⟨_, rfl, ?_⟩
       have n0_ := aM (blk_below (g := qW) (lK qA) hb)
       have n1_ := aM (blk_below (g := qb) (lK qB) hb)
       have n2_ := aM (below_step (by have := GEc.mk qi.out; have := GEc.mk qj.out; exact lS HB) hb)
       clear qA
       clear qB
       clear HB
       have qA := n0_
       have qB := n1_
       have HB := n2_
       clear n0_ n1_ n2_
       (try clear hb)
       (try clear hb2)
       (try clear hk)
       (try clear hi)
       refine hK.out _ _ ⟨(blk_cell qA.out 0).trans rfl, (blk_cell qA.out 1).trans rfl, (blk_cell qA.out 2).trans rfl, (blk_cell qA.out 3).trans rfl, (blk_cell qA.out 4).trans rfl, (blk_cell qA.out 5).trans rfl, (blk_cell qA.out 6).trans rfl, (blk_cell qA.out 7).trans rfl, (blk_cell qA.out 8).trans rfl, (blk_cell qA.out 9).trans rfl, (blk_cell qA.out 10).trans rfl, (blk_cell qA.out 11).trans rfl, (blk_cell qA.out 12).trans rfl, (blk_cell qA.out 13).trans rfl, (blk_cell qA.out 14).trans rfl, (blk_cell qB.out 0).trans rfl, (blk_cell qB.out 1).trans rfl, (blk_cell qB.out 2).trans rfl, (blk_cell qB.out 3).trans rfl, (blk_cell qB.out 4).trans rfl, (blk_cell qB.out 5).trans rfl, (blk_cell qB.out 6).trans rfl, (blk_cell qB.out 7).trans rfl, (blk_cell qB.out 8).trans rfl, (blk_cell qB.out 9).trans rfl, (blk_cell qB.out 10).trans rfl, (blk_cell qB.out 11).trans rfl, (blk_cell qB.out 12).trans rfl, (blk_cell qB.out 13).trans rfl, (blk_cell qB.out 14).trans rfl⟩ (fun hHeld => ?_)
       clear hK K
       refine norm_ (a' := ?_) ?_ ?_
       rotate_left
       ·show Act.put _ (some 23) _ = _
        simp only [Act.put, List.setIfInBounds_toArray, List.set_cons_zero, List.set_cons_succ, i64_w, i32_w]
        rfl
       refine one_ (i := 13) (N := some 26) #[true, true, true, true, true, true, true, true, true, true, true, true, true, true, false, false, false, false, false, false, false, false, false] rfl rfl (one_of HT_.out (by kernel_rfl)) (by decide) (fun K hK => ?_)
       refine goes_ Try.func25 (by kernel_rfl) rfl #[.agg #[.int .i64 qL, .int .i64 qM, .slice jB qH.length jC, .int .i64 qN, .int .i64 qO, .slice jD qI.length jE, .slice jF qJ.length jG, .int .i64 qP, .int .i64 qQ, .slice jH qK.length jI, .slice qq qC.length qr, .int .i64 qF, .int .i64 qG, .slice qs qD.length qt, .slice qu qE.length qv], .agg #[.int .i64 qc, .int .i64 qd, .slice j1 qX.length j2, .int .i64 qe, .int .i64 qf, .slice j3 qY.length j4, .slice j5 qZ.length j6, .int .i64 qg, .int .i64 qh, .slice j7 qa.length j8, .slice jQ qR.length jR, .int .i64 qU, .int .i64 qV, .slice jS qS.length jT, .slice jU qT.length jV]] (by rfl) rfl rfl (by (try simp only [List.map_toArray, List.map_cons, List.map_nil]); first | done | rfl | (simp only [List.length_drop, List.length_take]; rfl)) ?_
       with_reducible refine (swageref17_Same.calls kj4 qL qM _ _ qH qN qO _ _ qI _ _ qJ qP qQ _ _ qK _ _ qC qF qG _ _ qD _ _ qE qc qd _ _ qX qe qf _ _ qY _ _ qZ qg qh _ _ qa _ _ qR qU qV _ _ qS _ _ qT qk _ ?side1 ?side2 ?side3 ?side4 ?side5 ?side6 ?side7 ?side8 ?side9 ?side10 ?side11 ?side12 ?side13 ?side14 ?side15 ?side16 ?side17 ?side18 ?side19 ?side20 ?side21 ?side22 ?side23 ?side24 ?side25 ?side26 ?side27 ?side28 A25.out).mono ?_
       (case side1 => refine lY ?_; exact (Kd.C_below jW.out HB.out))
       (case side2 => exact jX.out)
       (case side3 => refine lY ?_; exact (Kd.C_below jY.out HB.out))
       (case side4 => exact jZ.out)
       (case side5 => refine lY ?_; exact (Kd.C_below ja.out HB.out))
       (case side6 => exact jb.out)
       (case side7 => refine lY ?_; exact (Kd.C_below jc.out HB.out))
       (case side8 => exact jd.out)
       (case side9 => refine lY ?_; exact (Kd.C_below jK.out HB.out))
       (case side10 => exact jL.out)
       (case side11 => refine lY ?_; exact (Kd.C_below jM.out HB.out))
       (case side12 => exact jN.out)
       (case side13 => refine lY ?_; exact (Kd.C_below jO.out HB.out))
       (case side14 => exact jP.out)
       (case side15 => refine lY ?_; exact (Kd.C_below yI.out HB.out))
       (case side16 => exact yJ.out)
       (case side17 => refine lY ?_; exact (Kd.C_below yK.out HB.out))
       (case side18 => exact yL.out)
       (case side19 => refine lY ?_; exact (Kd.C_below yM.out HB.out))
       (case side20 => exact yN.out)
       (case side21 => refine lY ?_; exact (Kd.C_below yO.out HB.out))
       (case side22 => exact yP.out)
       (case side23 => refine lY ?_; exact (Kd.C_below j9.out HB.out))
       (case side24 => exact yA.out)
       (case side25 => refine lY ?_; exact (Kd.C_below yB.out HB.out))
       (case side26 => exact yC.out)
       (case side27 => refine lY ?_; exact (Kd.C_below yD.out HB.out))
       (case side28 => exact yE.out)
       rintro e w33 ⟨rfl, hb⟩
       refine ⟨_, rfl, ?_⟩
       have n0_ := aM (blk_below (g := qW) (lK qA) hb)
       have n1_ := aM (blk_below (g := qb) (lK qB) hb)
       have n2_ := aM (below_step (by have := GEc.mk qi.out; have := GEc.mk qj.out; exact lS HB) hb)
       clear qA
       clear qB
       clear HB
       have qA := n0_
       have qB := n1_
       have HB := n2_
       clear n0_ n1_ n2_
       (try clear hb)
       (try clear hb2)
       (try clear hk)
       (try clear hi)
       refine hK.out _ _ ⟨(blk_cell qA.out 0).trans rfl, (blk_cell qA.out 1).trans rfl, (blk_cell qA.out 2).trans rfl, (blk_cell qA.out 3).trans rfl, (blk_cell qA.out 4).trans rfl, (blk_cell qA.out 5).trans rfl, (blk_cell qA.out 6).trans rfl, (blk_cell qA.out 7).trans rfl, (blk_cell qA.out 8).trans rfl, (blk_cell qA.out 9).trans rfl, (blk_cell qA.out 10).trans rfl, (blk_cell qA.out 11).trans rfl, (blk_cell qA.out 12).trans rfl, (blk_cell qA.out 13).trans rfl, (blk_cell qA.out 14).trans rfl, (blk_cell qB.out 0).trans rfl, (blk_cell qB.out 1).trans rfl, (blk_cell qB.out 2).trans rfl, (blk_cell qB.out 3).trans rfl, (blk_cell qB.out 4).trans rfl, (blk_cell qB.out 5).trans rfl, (blk_cell qB.out 6).trans rfl, (blk_cell qB.out 7).trans rfl, (blk_cell qB.out 8).trans rfl, (blk_cell qB.out 9).trans rfl, (blk_cell qB.out 10).trans rfl, (blk_cell qB.out 11).trans rfl, (blk_cell qB.out 12).trans rfl, (blk_cell qB.out 13).trans rfl, (blk_cell qB.out 14).trans rfl⟩ (fun hHeld => ?_)
       clear hK K
       refine norm_ (a' := ?_) ?_ ?_
       rotate_left
       ·show Act.put _ (some 26) _ = _
        simp only [Act.put, List.setIfInBounds_toArray, List.set_cons_zero, List.set_cons_succ, i64_w, i32_w]
        rfl
       refine pure_ (i := 14) (N := some 27) (v := ?_) (a' := ?_) #[true, true, true, true, true, true, true, true, true, true, true, true, true, true, true, false, false, false, false, false, false, false, false] rfl rfl (any_of HT_.out (by kernel_rfl)) (fun _ _ _ h => h) (Or.inl ⟨by rfl, ?_⟩) ?_ ?_
       rotate_left
       ·intro w'
        go_simp
        with_reducible rfl
       rotate_left
       ·simp only [Act.put, List.setIfInBounds_toArray, List.set_cons_zero, List.set_cons_succ, i64_w, i32_w]
        rfl
       refine pure_ (i := 15) (N := some 28) (v := ?_) (a' := ?_) #[true, true, true, true, true, true, true, true, true, true, true, true, true, true, true, true, false, false, false, false, false, false, false] rfl rfl (any_of HT_.out (by kernel_rfl)) (fun _ _ _ h => h) (Or.inl ⟨by rfl, ?_⟩) ?_ ?_
       rotate_left
       ·intro w'
        go_simp
        with_reducible rfl
       rotate_left
       ·simp only [Act.put, List.setIfInBounds_toArray, List.set_cons_zero, List.set_cons_succ, i64_w, i32_w]
        rfl
       refine pure_ (i := 16) (N := some 29) (v := ?_) (a' := ?_) #[true, true, true, true, true, true, true, true, true, true, true, true, true, true, true, true, true, false, false, false, false, false, false] rfl rfl (any_of HT_.out (by kernel_rfl)) (fun _ _ _ h => h) (Or.inl ⟨by rfl, ?_⟩) ?_ ?_
       rotate_left
       ·intro w'
        go_simp
        with_reducible rfl
       rotate_left
       ·simp only [Act.put, List.setIfInBounds_toArray, List.set_cons_zero, List.set_cons_succ, i64_w, i32_w]
        rfl
       refine take_ (i := 17) (N := some 30) (v := ?_) (a' := ?_) #[true, true, true, true, true, true, true, true, true, true, true, true, true, true, true, true, true, true, false, false, false, false, false] rfl rfl (take_ofW HT_.out HW_.out (by kernel_rfl)) (fun _ _ _ h => h) (Or.inl ⟨by rfl, ?_⟩) hHeld ?_ ?_
       rotate_left
       ·rintro w' ⟨s0, s1, s2, s3, s4, s5, s6, s7, s8, s9, s10, s11, s12, s13, s14, s15, s16, s17, s18, s19, s20, s21, s22, s23, s24, s25, s26, s27, s28, s29⟩
        first | (refine (CodeSames_unit_load (p := .tmp 2) ?ho ?hp s0 s1 s2 s3 s4 s5 s6 s7 s8 s9 s10 s11 s12 s13 s14); (case ho => rfl); (case hp => (go_simp; done))) | (refine (CodeSames_unit_load (p := .tmp 3) ?ho ?hp s0 s1 s2 s3 s4 s5 s6 s7 s8 s9 s10 s11 s12 s13 s14); (case ho => rfl); (case hp => (go_simp; done))) | (refine (CodeSames_unit_load (p := .tmp 2) ?ho ?hp s15 s16 s17 s18 s19 s20 s21 s22 s23 s24 s25 s26 s27 s28 s29); (case ho => rfl); (case hp => (go_simp; done))) | (refine (CodeSames_unit_load (p := .tmp 3) ?ho ?hp s15 s16 s17 s18 s19 s20 s21 s22 s23 s24 s25 s26 s27 s28 s29); (case ho => rfl); (case hp => (go_simp; done))) | (go_simp; with_reducible rfl)
       rotate_left
       ·simp only [Act.put, List.setIfInBounds_toArray, List.set_cons_zero, List.set_cons_succ, i64_w, i32_w]
        rfl
       refine take_ (i := 18) (N := some 31) (v := ?_) (a' := ?_) #[true, true, true, true, true, true, true, true, true, true, true, true, true, true, true, true, true, true, true, false, false, false, false] rfl rfl (take_ofW HT_.out HW_.out (by kernel_rfl)) (fun _ _ _ h => h) (Or.inl ⟨by rfl, ?_⟩) hHeld ?_ ?_
       rotate_left
       ·rintro w' ⟨s0, s1, s2, s3, s4, s5, s6, s7, s8, s9, s10, s11, s12, s13, s14, s15, s16, s17, s18, s19, s20, s21, s22, s23, s24, s25, s26, s27, s28, s29⟩
        first | (refine (CodeSames_unit_load (p := .tmp 2) ?ho ?hp s0 s1 s2 s3 s4 s5 s6 s7 s8 s9 s10 s11 s12 s13 s14); (case ho => rfl); (case hp => (go_simp; done))) | (refine (CodeSames_unit_load (p := .tmp 3) ?ho ?hp s0 s1 s2 s3 s4 s5 s6 s7 s8 s9 s10 s11 s12 s13 s14); (case ho => rfl); (case hp => (go_simp; done))) | (refine (CodeSames_unit_load (p := .tmp 2) ?ho ?hp s15 s16 s17 s18 s19 s20 s21 s22 s23 s24 s25 s26 s27 s28 s29); (case ho => rfl); (case hp => (go_simp; done))) | (refine (CodeSames_unit_load (p := .tmp 3) ?ho ?hp s15 s16 s17 s18 s19 s20 s21 s22 s23 s24 s25 s26 s27 s28 s29); (case ho => rfl); (case hp => (go_simp; done))) | (go_simp; with_reducible rfl)
       rotate_left
       ·simp only [Act.put, List.setIfInBounds_toArray, List.set_cons_zero, List.set_cons_succ, i64_w, i32_w]
        rfl
       refine one_ (i := 19) (N := some 32) #[true, true, true, true, true, true, true, true, true, true, true, true, true, true, true, true, true, true, true, true, false, false, false] rfl rfl (one_of HT_.out (by kernel_rfl)) (by decide) (fun K hK => ?_)
       refine goes_ Try.func19 (by kernel_rfl) rfl #[.agg #[.int .i64 qL, .int .i64 qM, .slice jB qH.length jC, .int .i64 qN, .int .i64 qO, .slice jD qI.length jE, .slice jF qJ.length jG, .int .i64 qP, .int .i64 qQ, .slice jH qK.length jI, .slice qq qC.length qr, .int .i64 qF, .int .i64 qG, .slice qs qD.length qt, .slice qu qE.length qv]] (by rfl) rfl rfl (by (try simp only [List.map_toArray, List.map_cons, List.map_nil]); first | done | rfl | (simp only [List.length_drop, List.length_take]; rfl)) ?_
       with_reducible refine (swagelaw17_copied.calls qL qM _ _ qH qN qO _ _ qI _ _ qJ qP qQ _ _ qK _ _ qC qF qG _ _ qD _ _ qE yR yS yT yU yV yW yX yY yZ ya yb yc yd ye yf _ ?side1 ?side2 ?side3 ?side4 ?side5 ?side6 ?side7 ?side8 ?side9 ?side10 ?side11 ?side12 ?side13 ?side14 A27.out).mono ?_
       (case side1 => refine lY ?_; exact (Kd.C_below jW.out HB.out))
       (case side2 => exact jX.out)
       (case side3 => refine lY ?_; exact (Kd.C_below jY.out HB.out))
       (case side4 => exact jZ.out)
       (case side5 => refine lY ?_; exact (Kd.C_below ja.out HB.out))
       (case side6 => exact jb.out)
       (case side7 => refine lY ?_; exact (Kd.C_below jc.out HB.out))
       (case side8 => exact jd.out)
       (case side9 => refine lY ?_; exact (Kd.C_below jK.out HB.out))
       (case side10 => exact jL.out)
       (case side11 => refine lY ?_; exact (Kd.C_below jM.out HB.out))
       (case side12 => exact jN.out)
       (case side13 => refine lY ?_; exact (Kd.C_below jO.out HB.out))
       (case side14 => exact jP.out)
       rintro e w34 ⟨v1224, v1229, v1232, v1237, v1240, v1245, v1248, rfl, ho0, ho1, ho2, ho3, ho4, ho5, ho6, hb⟩
       refine ⟨_, rfl, ?_⟩
       have n0_ := aM (Kd.R_lower ho0 (below_size (by have := GEc.mk qi.out; have := GEc.mk qj.out; exact lS HB)))
       have n1_ := aM (Kd.R_lower ho1 (below_size (by have := GEc.mk qi.out; have := GEc.mk qj.out; exact lS HB)))
       have n2_ := aM (Kd.R_lower ho2 (below_size (by have := GEc.mk qi.out; have := GEc.mk qj.out; exact lS HB)))
       have n3_ := aM (Kd.R_lower ho3 (below_size (by have := GEc.mk qi.out; have := GEc.mk qj.out; exact lS HB)))
       have n4_ := aM (Kd.R_lower ho4 (below_size (by have := GEc.mk qi.out; have := GEc.mk qj.out; exact lS HB)))
       have n5_ := aM (Kd.R_lower ho5 (below_size (by have := GEc.mk qi.out; have := GEc.mk qj.out; exact lS HB)))
       have n6_ := aM (Kd.R_lower ho6 (below_size (by have := GEc.mk qi.out; have := GEc.mk qj.out; exact lS HB)))
       have n7_ := aM (blk_below (g := qW) (lK qA) hb)
       have n8_ := aM (blk_below (g := qb) (lK qB) hb)
       have n9_ := aM (below_step (by have := GEc.mk qi.out; have := GEc.mk qj.out; exact lS HB) hb)
       clear qA
       clear qB
       clear HB
       have je := n0_
       have jf := n1_
       have jg := n2_
       have jh := n3_
       have ji := n4_
       have jj := n5_
       have jk := n6_
       have qA := n7_
       have qB := n8_
       have HB := n9_
       clear n0_ n1_ n2_ n3_ n4_ n5_ n6_ n7_ n8_ n9_
       (try clear hb)
       (try clear hb2)
       (try clear hk)
       (try clear hi)
       (try clear ho0)
       (try clear ho1)
       (try clear ho2)
       (try clear ho3)
       (try clear ho4)
       (try clear ho5)
       (try clear ho6)
       obtain ⟨qAI, qAJ, eo35⟩ := Kd.R_slice je.out
       (first | subst eo35 | (injection eo35 with f1_ f2_ f3_; have f4_ := f1_.symm; have f5_ := f3_.symm; clear f1_ f2_ f3_; subst f4_; subst f5_))
       obtain ⟨qAK, qAL, eo36⟩ := Kd.R_slice jf.out
       (first | subst eo36 | (injection eo36 with f1_ f2_ f3_; have f4_ := f1_.symm; have f5_ := f3_.symm; clear f1_ f2_ f3_; subst f4_; subst f5_))
       obtain ⟨qAM, qAN, eo37⟩ := Kd.R_slice jg.out
       (first | subst eo37 | (injection eo37 with f1_ f2_ f3_; have f4_ := f1_.symm; have f5_ := f3_.symm; clear f1_ f2_ f3_; subst f4_; subst f5_))
       obtain ⟨qAO, qAP, eo38⟩ := Kd.R_slice jh.out
       (first | subst eo38 | (injection eo38 with f1_ f2_ f3_; have f4_ := f1_.symm; have f5_ := f3_.symm; clear f1_ f2_ f3_; subst f4_; subst f5_))
       obtain ⟨qAQ, qAR, eo39⟩ := Kd.R_slice ji.out
       (first | subst eo39 | (injection eo39 with f1_ f2_ f3_; have f4_ := f1_.symm; have f5_ := f3_.symm; clear f1_ f2_ f3_; subst f4_; subst f5_))
       obtain ⟨qAS, qAT, eo40⟩ := Kd.R_slice jj.out
       (first | subst eo40 | (injection eo40 with f1_ f2_ f3_; have f4_ := f1_.symm; have f5_ := f3_.symm; clear f1_ f2_ f3_; subst f4_; subst f5_))
       obtain ⟨qAU, qAV, eo41⟩ := Kd.R_slice jk.out
       (first | subst eo41 | (injection eo41 with f1_ f2_ f3_; have f4_ := f1_.symm; have f5_ := f3_.symm; clear f1_ f2_ f3_; subst f4_; subst f5_))
       refine hK.out _ _ ⟨(blk_cell qA.out 0).trans rfl, (blk_cell qA.out 1).trans rfl, (blk_cell qA.out 2).trans rfl, (blk_cell qA.out 3).trans rfl, (blk_cell qA.out 4).trans rfl, (blk_cell qA.out 5).trans rfl, (blk_cell qA.out 6).trans rfl, (blk_cell qA.out 7).trans rfl, (blk_cell qA.out 8).trans rfl, (blk_cell qA.out 9).trans rfl, (blk_cell qA.out 10).trans rfl, (blk_cell qA.out 11).trans rfl, (blk_cell qA.out 12).trans rfl, (blk_cell qA.out 13).trans rfl, (blk_cell qA.out 14).trans rfl, (blk_cell qB.out 0).trans rfl, (blk_cell qB.out 1).trans rfl, (blk_cell qB.out 2).trans rfl, (blk_cell qB.out 3).trans rfl, (blk_cell qB.out 4).trans rfl, (blk_cell qB.out 5).trans rfl, (blk_cell qB.out 6).trans rfl, (blk_cell qB.out 7).trans rfl, (blk_cell qB.out 8).trans rfl, (blk_cell qB.out 9).trans rfl, (blk_cell qB.out 10).trans rfl, (blk_cell qB.out 11).trans rfl, (blk_cell qB.out 12).trans rfl, (blk_cell qB.out 13).trans rfl, (blk_cell qB.out 14).trans rfl⟩ (fun hHeld => ?_)
       clear hK K
       refine norm_ (a' := ?_) ?_ ?_
       rotate_left
       ·show Act.put _ (some 32) _ = _
        simp only [Act.put, List.setIfInBounds_toArray, List.set_cons_zero, List.set_cons_succ, i64_w, i32_w]
        rfl
       refine one_ (i := 20) (N := some 33) #[true, true, true, true, true, true, true, true, true, true, true, true, true, true, true, true, true, true, true, true, true, false, false] rfl rfl (one_of HT_.out (by kernel_rfl)) (by decide) (fun K hK => ?_)
       refine goes_ Try.func14 (by kernel_rfl) rfl #[.agg #[.int .i64 qL, .int .i64 qM, .slice jB qH.length jC, .int .i64 qN, .int .i64 qO, .slice jD qI.length jE, .slice jF qJ.length jG, .int .i64 qP, .int .i64 qQ, .slice jH qK.length jI, .slice qq qC.length qr, .int .i64 qF, .int .i64 qG, .slice qs qD.length qt, .slice qu qE.length qv], .agg #[.int .i64 yR, .int .i64 yS, .slice qAI yT.length qAJ, .int .i64 yU, .int .i64 yV, .slice qAK yW.length qAL, .slice qAM yX.length qAN, .int .i64 yY, .int .i64 yZ, .slice qAO ya.length qAP, .slice qAQ yb.length qAR, .int .i64 yc, .int .i64 yd, .slice qAS ye.length qAT, .slice qAU yf.length qAV]] (by rfl) rfl rfl (by (try simp only [List.map_toArray, List.map_cons, List.map_nil]); first | done | rfl | (simp only [List.length_drop, List.length_take]; rfl)) ?_
       with_reducible refine (code_Same.calls kj4 qL qM _ _ qH qN qO _ _ qI _ _ qJ qP qQ _ _ qK _ _ qC qF qG _ _ qD _ _ qE yR yS _ _ yT yU yV _ _ yW _ _ yX yY yZ _ _ ya _ _ yb yc yd _ _ ye _ _ yf qn _ ?side1 ?side2 ?side3 ?side4 ?side5 ?side6 ?side7 ?side8 ?side9 ?side10 ?side11 ?side12 ?side13 ?side14 ?side15 ?side16 ?side17 ?side18 ?side19 ?side20 ?side21 ?side22 ?side23 ?side24 ?side25 ?side26 ?side27 ?side28 A28.out).mono ?_
       (case side1 => refine lY ?_; exact (Kd.C_below jW.out HB.out))
       (case side2 => exact jX.out)
       (case side3 => refine lY ?_; exact (Kd.C_below jY.out HB.out))
       (case side4 => exact jZ.out)
       (case side5 => refine lY ?_; exact (Kd.C_below ja.out HB.out))
       (case side6 => exact jb.out)
       (case side7 => refine lY ?_; exact (Kd.C_below jc.out HB.out))
       (case side8 => exact jd.out)
       (case side9 => refine lY ?_; exact (Kd.C_below jK.out HB.out))
       (case side10 => exact jL.out)
       (case side11 => refine lY ?_; exact (Kd.C_below jM.out HB.out))
       (case side12 => exact jN.out)
       (case side13 => refine lY ?_; exact (Kd.C_below jO.out HB.out))
       (case side14 => exact jP.out)
       (case side15 => refine lY ?_; exact (Kd.R_reads' je.out).2.2)
       (case side16 => exact (Kd.R_reads' je.out).2.1)
       (case side17 => refine lY ?_; exact (Kd.R_reads' jf.out).2.2)
       (case side18 => exact (Kd.R_reads' jf.out).2.1)
       (case side19 => refine lY ?_; exact (Kd.R_reads' jg.out).2.2)
       (case side20 => exact (Kd.R_reads' jg.out).2.1)
       (case side21 => refine lY ?_; exact (Kd.R_reads' jh.out).2.2)
       (case side22 => exact (Kd.R_reads' jh.out).2.1)
       (case side23 => refine lY ?_; exact (Kd.R_reads' ji.out).2.2)
       (case side24 => exact (Kd.R_reads' ji.out).2.1)
       (case side25 => refine lY ?_; exact (Kd.R_reads' jj.out).2.2)
       (case side26 => exact (Kd.R_reads' jj.out).2.1)
       (case side27 => refine lY ?_; exact (Kd.R_reads' jk.out).2.2)
       (case side28 => exact (Kd.R_reads' jk.out).2.1)
       rintro e w42 ⟨rfl, hb⟩
       refine ⟨_, rfl, ?_⟩
       have n0_ := aM (Kd.R_below (lR je) hb)
       have n1_ := aM (Kd.R_below (lR jf) hb)
       have n2_ := aM (Kd.R_below (lR jg) hb)
       have n3_ := aM (Kd.R_below (lR jh) hb)
       have n4_ := aM (Kd.R_below (lR ji) hb)
       have n5_ := aM (Kd.R_below (lR jj) hb)
       have n6_ := aM (Kd.R_below (lR jk) hb)
       have n7_ := aM (blk_below (g := qW) (lK qA) hb)
       have n8_ := aM (blk_below (g := qb) (lK qB) hb)
       have n9_ := aM (below_step (by have := GEc.mk qi.out; have := GEc.mk qj.out; exact lS HB) hb)
       clear je
       clear jf
       clear jg
       clear jh
       clear ji
       clear jj
       clear jk
       clear qA
       clear qB
       clear HB
       have je := n0_
       have jf := n1_
       have jg := n2_
       have jh := n3_
       have ji := n4_
       have jj := n5_
       have jk := n6_
       have qA := n7_
       have qB := n8_
       have HB := n9_
       clear n0_ n1_ n2_ n3_ n4_ n5_ n6_ n7_ n8_ n9_
       (try clear hb)
       (try clear hb2)
       (try clear hk)
       (try clear hi)
       refine hK.out _ _ ⟨(blk_cell qA.out 0).trans rfl, (blk_cell qA.out 1).trans rfl, (blk_cell qA.out 2).trans rfl, (blk_cell qA.out 3).trans rfl, (blk_cell qA.out 4).trans rfl, (blk_cell qA.out 5).trans rfl, (blk_cell qA.out 6).trans rfl, (blk_cell qA.out 7).trans rfl, (blk_cell qA.out 8).trans rfl, (blk_cell qA.out 9).trans rfl, (blk_cell qA.out 10).trans rfl, (blk_cell qA.out 11).trans rfl, (blk_cell qA.out 12).trans rfl, (blk_cell qA.out 13).trans rfl, (blk_cell qA.out 14).trans rfl, (blk_cell qB.out 0).trans rfl, (blk_cell qB.out 1).trans rfl, (blk_cell qB.out 2).trans rfl, (blk_cell qB.out 3).trans rfl, (blk_cell qB.out 4).trans rfl, (blk_cell qB.out 5).trans rfl, (blk_cell qB.out 6).trans rfl, (blk_cell qB.out 7).trans rfl, (blk_cell qB.out 8).trans rfl, (blk_cell qB.out 9).trans rfl, (blk_cell qB.out 10).trans rfl, (blk_cell qB.out 11).trans rfl, (blk_cell qB.out 12).trans rfl, (blk_cell qB.out 13).trans rfl, (blk_cell qB.out 14).trans rfl⟩ (fun hHeld => ?_)
       clear hK K
       refine norm_ (a' := ?_) ?_ ?_
       rotate_left
       ·show Act.put _ (some 33) _ = _
        simp only [Act.put, List.setIfInBounds_toArray, List.set_cons_zero, List.set_cons_succ, i64_w, i32_w]
        rfl
       refine pure_ (i := 21) (N := some 34) (v := ?_) (a' := ?_) #[true, true, true, true, true, true, true, true, true, true, true, true, true, true, true, true, true, true, true, true, true, true, false] rfl rfl (any_of HT_.out (by kernel_rfl)) (fun _ _ _ h => h) (Or.inl ⟨by rfl, ?_⟩) ?_ ?_
       rotate_left
       ·intro w'
        go_simp
        with_reducible rfl
       rotate_left
       ·simp only [Act.put, List.setIfInBounds_toArray, List.set_cons_zero, List.set_cons_succ, i64_w, i32_w]
        rfl
       refine pure_ (i := 22) (N := some 4) (v := ?_) (a' := ?_) #[true, true, true, true, true, true, true, true, true, true, true, true, true, true, true, true, true, true, true, true, true, true, true] rfl rfl (any_of HT_.out (by kernel_rfl)) (fun _ _ _ h => h) (Or.inl ⟨by rfl, ?_⟩) ?_ ?_
       rotate_left
       ·intro w'
        go_simp
        with_reducible rfl
       rotate_left
       ·simp only [Act.put, List.setIfInBounds_toArray, List.set_cons_zero, List.set_cons_succ, i64_w, i32_w]
        rfl
       refine done_ (done_of HT_.out (by kernel_rfl)) ?_
       try go_wp2
       go_ret
       exact ⟨by first | rfl | (simp [errW_none, errW_some] <;> rfl) | (simp [*, errW_none, errW_some] <;> rfl), by repeat (first | (with_reducible first | exact HB.out | apply below_alloc | apply pw_below_drewN | apply below_drew1 | refine below_set ?_ qi.out | refine below_set ?_ qj.out) | exact HB.out)⟩
      ·rw [if_neg c26] at H
       have c26b0 : (ql == qk) = false := by simpa using c26
       (try (have c26b1 : decide (ql = qk) = false := by simpa using c26))
       (try (have c26b2 : (ql == qk) = false := by simpa using c26))
       (try (have c26b3 : ¬ (ql = qk) := by simpa using c26))
       clear c26
       obtain rfl := Option.some.inj H
       exact absurd hT.out (by simp)
     ·rw [if_neg c23] at H
      have c23b0 : (qo == qm) = false := by simpa using c23
      (try (have c23b1 : decide (qo = qm) = false := by simpa using c23))
      (try (have c23b2 : (qo == qm) = false := by simpa using c23))
      (try (have c23b3 : ¬ (qo = qm) := by simpa using c23))
      clear c23
      obtain rfl := Option.some.inj H
      exact absurd hT.out (by simp)
 ·replace c4 := Bool.eq_false_iff.mpr c4
  subst c4
  have H1 : (some false) = some r := by rw [if_neg (show ¬ (false = true) by decide)] at H; exact H
  clear H
  have H := H1
  clear H1
  obtain rfl := Option.some.inj H
  exact absurd hT.out (by simp)

end Go.Proofs.Ytccbdcbeinkjgaa.XA
end

section
/- Arguments opened by their kinds: what is read as data at a type is a Lean value of that type's kind. Of every seat alike; its own words alone. -/
namespace Go.Proofs.Ytccbdcbeinkjgaa.Opn
open Go.ChangeShapes Go.WideShapes Go.Proofs.YtccbdcbeinkjgaaW.PrintWords
set_option linter.unusedVariables false

/-- Whatever is read at type t is of kind d, and wf. -/
structure Opn {α : Type} (P : Program) (t : TypeId) (d : Kd α) (wf : α → Prop) : Prop where
  get : ∀ {H : Type} {enc : TypeId × Value → H} {w : World} {base : Nat} {spare : Nat → Bool} {held : Bool} {fuel : Nat} {cs : List Value} {x : DataW H × List MemPlace},
    DataW.trod enc P w base spare held fuel t cs = some x → (∀ n ∈ DataW.weights P t x.1, n ≤ reachBytes) → ∃ a : α, d.K w a cs ∧ wf a

section
variable {P : Program} {t : TypeId}
theorem opn_int {k : IntKind} (ht : P.underlying t = some (.int k)) : Opn P t (Kd.int k) (fun n => (Lit.int k n).wf = true) :=
  ⟨fun h _ => by
    obtain ⟨n, rfl, rfl, hw⟩ := DataW.trod_int ht h
    exact ⟨n, rfl, hw⟩⟩
theorem choose_list {α : Type} {Q : Nat → α → Prop} : ∀ n : Nat, (∀ i, i < n → ∃ x, Q i x) → ∃ xs : List α, xs.length = n ∧ ∀ i x, xs[i]? = some x → Q i x := by
  intro n h
  induction n with
  | zero => exact ⟨[], rfl, fun i x hx => by simp at hx⟩
  | succ n ih =>
    obtain ⟨xs, hl, hq⟩ := ih (fun i hi => h i (by omega))
    obtain ⟨y, hy⟩ := h n (by omega)
    refine ⟨xs ++ [y], by simp [hl], fun i x hx => ?_⟩
    by_cases hi : i < n
    · rw [List.getElem?_append_left (by omega)] at hx
      exact hq i x hx
    · rw [List.getElem?_append_right (by omega)] at hx
      have : i = n := by
        have := (List.getElem?_eq_some_iff.1 hx).1
        simp at this
        omega
      subst this
      rw [hl, Nat.sub_self] at hx
      simp at hx
      subst hx
      exact hy

theorem opn_slice {α : Type} {e : TypeId} {d : Kd α} {wf : α → Prop} {B : Nat} (ht : P.underlying t = some (.slice e)) (hC : P.cellsOf e = d.sz) (hB : P.bytesOf e = B) (ho : Opn P e d wf) :
    Opn P t (Kd.slice e d) (fun xs => xs.length * B ≤ 140737488351232 ∧ xs.length ≤ 9223372036854775807 ∧ ∀ x ∈ xs, wf x) :=
  ⟨fun {H enc w base spare held fuel cs x} h hz => by
    rcases DataW.trod_slice ht h with ⟨rfl, rfl⟩ | ⟨a, len, cap, elems, rest, n, rfl, rfl, rfl, hb, hl, hm, hlen, hel, _, _⟩
    · refine ⟨[], ⟨none, 0, rfl, by simp, Kd.C_nil d w⟩, by simp⟩
    · have hw : ∀ n ∈ DataW.weightsAll P e (elems.map (·.1)), n ≤ reachBytes := fun n hn => hz n (by simp only [DataW.weights, ht]; exact List.mem_cons_of_mem _ (List.mem_append_left _ hn))
      have hwi : ∀ (i : Nat) (y : DataW H × List MemPlace), elems[i]? = some y → ∀ n ∈ DataW.weights P e y.1, n ≤ reachBytes := by
        have : ∀ (l : List (DataW H)) (d : DataW H), d ∈ l → ∀ n ∈ DataW.weights P e d, n ∈ DataW.weightsAll P e l := by
          intro l
          induction l with
          | nil => intro d hd; simp at hd
          | cons z l ih =>
            intro d hd n hn
            simp only [DataW.weightsAll, List.mem_append]
            rcases List.mem_cons.1 hd with rfl | hd
            · exact Or.inl hn
            · exact Or.inr (ih d hd n hn)
        intro i y hy n hn
        exact hw n (this _ y.1 (List.mem_map.2 ⟨y, List.mem_of_getElem? hy, rfl⟩) n hn)
      have hx : ∀ i, i < len → ∃ x : α, (∃ c, c.length = d.sz ∧ d.K w x c ∧ ∀ j u, c[j]? = some u → w.cell? (a.add (i * d.sz + j)) = some u) ∧ wf x := by
        intro i hi
        have h1 := hel i hi
        rw [List.getElem?_eq_getElem (by omega)] at h1
        obtain ⟨c, hc, hd⟩ := Option.bind_eq_some_iff.1 h1
        obtain ⟨x, hK, hwf⟩ := ho.get hd (hwi i _ (List.getElem?_eq_getElem (by omega)))
        obtain ⟨_, hcl, hcell⟩ := World.cells?_some hc
        refine ⟨x, ⟨c, by rw [hcl, hC], hK, fun j u hj => ?_⟩, hwf⟩
        have hj' : j < P.cellsOf e := by rw [← hcl]; exact (List.getElem?_eq_some_iff.1 hj).1
        rw [← hC, ← add_add, hcell j hj', hj]
      obtain ⟨xs, hxl, hq⟩ := choose_list len hx
      refine ⟨xs, ⟨some a, cap, by rw [hxl], by omega, ?_⟩, ?_, by unfold maxLen at hm; omega, fun x hx => ?_⟩
      · refine ⟨rfl, by unfold maxLen at hm; omega, fun _ => ⟨a, rfl, fun j p hj => ?_⟩⟩
        exact (hq j p hj).1
      · have := hz ((elems.map (·.1)).length + (rest.map (·.1)).length |> (· * P.bytesOf e)) (by simp only [DataW.weights, ht]; exact List.mem_cons_self)
        simp only [List.length_map, hB] at this
        rw [hxl, ← hlen]
        exact Nat.le_trans (Nat.mul_le_mul_right _ (Nat.le_add_right _ _)) this
      · obtain ⟨i, hi⟩ := List.mem_iff_getElem?.1 hx
        exact (hq i x hi).2⟩

/-- The fields of a struct, from offset off on. -/
structure OpnFs {α : Type} (P : Program) (fs : List Field) (off : Nat) (d : Kd α) (wf : α → Prop) : Prop where
  get : ∀ {H : Type} {enc : TypeId × Value → H} {w : World} {base : Nat} {spare : Nat → Bool} {held : Bool} {fuel : Nat} {cs : List Value} {xs : List (DataW H × List MemPlace)},
    cs.length = off + d.sz → xs.length = fs.length →
    (∀ (i : Nat) (f : Field), fs[i]? = some f → DataW.trod enc P w base spare held fuel f.type ((cs.drop f.offset).take (P.cellsOf f.type)) = xs[i]?) →
    (∀ n ∈ DataW.weightsEach P (fs.map (·.type)) (xs.map (·.1)), n ≤ reachBytes) → ∃ a : α, d.K w a (cs.drop off) ∧ wf a

theorem fs_one {α : Type} {f : Field} {off : Nat} {d : Kd α} {wf : α → Prop} (hoff : f.offset = off) (hC : P.cellsOf f.type = d.sz) (ho : Opn P f.type d wf) : OpnFs P [f] off d wf :=
  ⟨fun {H enc w base spare held fuel cs xs} hl hx hf hz => by
    match xs, hx with
    | [y], _ =>
      have h := hf 0 f rfl
      rw [hoff, hC, List.take_of_length_le (by simp; omega)] at h
      exact ho.get h (fun n hn => hz n (by simp only [List.map_cons, List.map_nil, DataW.weightsEach]; exact List.mem_append_left _ hn))⟩
theorem fs_cons {α β : Type} {f : Field} {fs : List Field} {off : Nat} {d : Kd α} {d' : Kd β} {wf : α → Prop} {wf' : β → Prop} (hoff : f.offset = off) (hC : P.cellsOf f.type = d.sz) (ho : Opn P f.type d wf) (hs : OpnFs P fs (off + d.sz) d' wf') :
    OpnFs P (f :: fs) off (Kd.pair d d') (fun x => wf x.1 ∧ wf' x.2) :=
  ⟨fun {H enc w base spare held fuel cs xs} hl hx hf hz => by
    match xs, hx with
    | y :: ys, hx =>
      have hl' : cs.length = off + (d.sz + d'.sz) := hl
      have h := hf 0 f rfl
      rw [hoff, hC] at h
      obtain ⟨a, hK, hwf⟩ := ho.get h (fun n hn => hz n (by simp only [List.map_cons, DataW.weightsEach]; exact List.mem_append_left _ hn))
      obtain ⟨b, hK', hwf'⟩ := hs.get (cs := cs) (xs := ys) (by omega) (by simpa using hx) (fun i g hg => by simpa using hf (i + 1) g (by simpa using hg))
        (fun n hn => hz n (by simp only [List.map_cons, DataW.weightsEach]; exact List.mem_append_right _ hn))
      refine ⟨(a, b), ⟨_, _, ?_, hK, hK'⟩, hwf, hwf'⟩
      rw [← List.drop_drop, List.take_append_drop]⟩
theorem opn_struct {α : Type} {fs : Array Field} {d : Kd α} {wf : α → Prop} (ht : P.underlying t = some (.struct fs)) (hC : P.cellsOf t = d.sz) (hs : OpnFs P fs.toList 0 d wf) : Opn P t d wf :=
  ⟨fun {H enc w base spare held fuel cs x} h hz => by
    obtain ⟨xs, n, rfl, rfl, hl, hxl, hf⟩ := DataW.trod_struct ht h
    have := hs.get (cs := cs) (xs := xs) (by rw [hl, hC]; simp) (by simpa using hxl) (fun i f hi => hf i f (by simpa using hi)) (fun n hn => hz n (by simp only [DataW.weights, ht]; exact hn))
    simpa using this⟩
/-- A Lean structure in the place of its fields' pairs. -/
theorem opn_iso {α β : Type} {d : Kd α} {wf : α → Prop} (f : β → α) (g : α → β) (hfg : ∀ a, f (g a) = a) (h : Opn P t d wf) : Opn P t (Kd.iso d f) (fun b => wf (f b)) :=
  ⟨fun ht hz => by
    obtain ⟨a, hK, hwf⟩ := h.get ht hz
    exact ⟨g a, by show d.K _ (f (g a)) _; rw [hfg]; exact hK, by rw [hfg]; exact hwf⟩⟩
end

section
variable {H : Type} {enc : TypeId × Value → H} {P : Program} {w : World} {base : Nat} {spare : Nat → Bool} {held : Bool} {t : TypeId}
theorem opened {α : Type} {d : Kd α} {wf : α → Prop} (ho : Opn P t d wf) {v : Value} {dd : DataW H} {ps : List MemPlace} {ts : List TypeId} {ds : List (DataW H)} {j : Nat}
    (hsz : (DataW.weightsEach P ts ds).all (· ≤ reachBytes) = true) (ht : ts[j]? = some t) (hd : ds[j]? = some dd) (h : DataW.Trod enc P w base spare held t v dd ps) : ∃ a : α, d.K w a v.cells.toList ∧ wf a := by
  obtain ⟨fuel, hf⟩ := h
  exact ho.get hf (fun n hn => by simpa using List.all_eq_true.1 hsz n (DataW.weights_mem_each ht hd n hn))
theorem trod_lt {v : Value} {d : DataW H} {ps : List MemPlace} (h : DataW.Trod enc P w base spare held t v d ps) : ∀ x ∈ ps, x.block < w.heap.size := by
  obtain ⟨m, hm⟩ := h
  exact DataW.trod_lt m _ _ _ hm
end
end Go.Proofs.Ytccbdcbeinkjgaa.Opn
end

section
namespace Go.Proofs.Ytccbdcbeinkjgaa.SaidCodeSames
open Go.RowKit Go.Proofs.YtccbdcbeinkjgaaW.PrintWords Go.Proofs.YtccbdcbeinkjgaaW.PrintLast Go.Proofs.Ytccbdcbeinkjgaa.Opn Go.Proofs.Ytccbdcbeinkjgaa.XA
set_option linter.unusedVariables false
/-- What is known of whatever is read at this type. -/
def wfS48 (x : S48) : Prop := (Lit.int .i64 x.f0).wf = true ∧ (Lit.int .i64 x.f1).wf = true
theorem opnS48 : Opn Try.prog 48 k48 wfS48 := opn_iso (fun x : S48 => (x.f0, x.f1)) (fun p => ⟨p.1, p.2⟩) (fun _ => rfl) (opn_struct Try.underlying48 (by kernel_rfl) (fs_cons rfl (by kernel_rfl) (opn_int Try.underlying3) (fs_one rfl (by kernel_rfl) (opn_int Try.underlying3))))
/-- What is known of whatever is read at this type. -/
def wfS63 (x : S63) : Prop := (Lit.int .i64 x.f0).wf = true ∧ (Lit.int .i64 x.f1).wf = true ∧ (Lit.int .i64 x.f2).wf = true ∧ (Lit.int .i64 x.f3).wf = true ∧ (Lit.int .i64 x.f4).wf = true
theorem opnS63 : Opn Try.prog 63 k63 wfS63 := opn_iso (fun x : S63 => (x.f0, x.f1, x.f2, x.f3, x.f4)) (fun p => ⟨p.1, p.2.1, p.2.2.1, p.2.2.2.1, p.2.2.2.2⟩) (fun _ => rfl) (opn_struct Try.underlying63 (by kernel_rfl) (fs_cons rfl (by kernel_rfl) (opn_int Try.underlying3) (fs_cons rfl (by kernel_rfl) (opn_int Try.underlying3) (fs_cons rfl (by kernel_rfl) (opn_int Try.underlying3) (fs_cons rfl (by kernel_rfl) (opn_int Try.underlying3) (fs_one rfl (by kernel_rfl) (opn_int Try.underlying3)))))))
/-- What is known of whatever is read at this type. -/
def wfS26 (x : S26) : Prop := (Lit.int .i64 x.f0).wf = true ∧ (Lit.int .i64 x.f1).wf = true ∧ (x.f2.length * 40 ≤ 140737488351232 ∧ x.f2.length ≤ 9223372036854775807 ∧ ∀ y ∈ x.f2, wfS63 y) ∧ (x.f3.length * 8 ≤ 140737488351232 ∧ x.f3.length ≤ 9223372036854775807 ∧ ∀ y ∈ x.f3, (Lit.int .i64 y).wf = true)
theorem opnS26 : Opn Try.prog 26 k26 wfS26 := opn_iso (fun x : S26 => (x.f0, x.f1, x.f2, x.f3)) (fun p => ⟨p.1, p.2.1, p.2.2.1, p.2.2.2⟩) (fun _ => rfl) (opn_struct Try.underlying26 (by kernel_rfl) (fs_cons rfl (by kernel_rfl) (opn_int Try.underlying3) (fs_cons rfl (by kernel_rfl) (opn_int Try.underlying3) (fs_cons rfl (by kernel_rfl) (opn_slice (B := 40) Try.underlying23 (by kernel_rfl) (by kernel_rfl) (opnS63)) (fs_one rfl (by kernel_rfl) (opn_slice (B := 8) Try.underlying24 (by kernel_rfl) (by kernel_rfl) (opn_int Try.underlying3)))))))
/-- What is known of whatever is read at this type. -/
def wfS28 (x : S28) : Prop := (Lit.int .i64 x.f0).wf = true ∧ (Lit.int .i64 x.f1).wf = true ∧ (x.f2.length * 16 ≤ 140737488351232 ∧ x.f2.length ≤ 9223372036854775807 ∧ ∀ y ∈ x.f2, wfS48 y) ∧ wfS26 x.f3 ∧ wfS26 x.f4 ∧ wfS26 x.f5
theorem opnS28 : Opn Try.prog 28 k28 wfS28 := opn_iso (fun x : S28 => (x.f0, x.f1, x.f2, x.f3, x.f4, x.f5)) (fun p => ⟨p.1, p.2.1, p.2.2.1, p.2.2.2.1, p.2.2.2.2.1, p.2.2.2.2.2⟩) (fun _ => rfl) (opn_struct Try.underlying28 (by kernel_rfl) (fs_cons rfl (by kernel_rfl) (opn_int Try.underlying3) (fs_cons rfl (by kernel_rfl) (opn_int Try.underlying3) (fs_cons rfl (by kernel_rfl) (opn_slice (B := 16) Try.underlying22 (by kernel_rfl) (by kernel_rfl) (opnS48)) (fs_cons rfl (by kernel_rfl) (opnS26) (fs_cons rfl (by kernel_rfl) (opnS26) (fs_one rfl (by kernel_rfl) (opnS26))))))))
/-- THE PURE STATEMENT. -/
def Pure : Prop := ∀ (x0 : S28) (x1 : S28), wfS28 x0 → wfS28 x1 → ∃ k, swagelaw17_CodeSames.f k x0.f0 x0.f1 x0.f2 x0.f3.f0 x0.f3.f1 x0.f3.f2 x0.f3.f3 x0.f4.f0 x0.f4.f1 x0.f4.f2 x0.f4.f3 x0.f5.f0 x0.f5.f1 x0.f5.f2 x0.f5.f3 x1.f0 x1.f1 x1.f2 x1.f3.f0 x1.f3.f1 x1.f3.f2 x1.f3.f3 x1.f4.f0 x1.f4.f1 x1.f4.f2 x1.f4.f3 x1.f5.f0 x1.f5.f1 x1.f5.f2 x1.f5.f3 = some true
end Go.Proofs.Ytccbdcbeinkjgaa.SaidCodeSames
end

section
/- Rounds that suffice: words beside the printer's 'Ev'. -/
namespace Go.Proofs.Ytccbdcbeinkjgaa.Evs
open Go.Proofs.YtccbdcbeinkjgaaW.PrintWords
section
variable {β : Type} {c : Prop} [Decidable c] {f g : Nat → Option β} {r : β}
theorem ev_pos (hc : c) (h : Ev f r) : Ev (fun n => if c then f n else g n) r := Ev.congr (fun _ => if_pos hc) h
theorem ev_neg (hc : ¬ c) (h : Ev g r) : Ev (fun n => if c then f n else g n) r := Ev.congr (fun _ => if_neg hc) h
end
end Go.Proofs.Ytccbdcbeinkjgaa.Evs
end

section
/- Two units are one: what code.Same and the document's answer tell. -/
namespace Go.Proofs.Ytccbdcbeinkjgaa.PlainCode
open Go.RowKit Go.Proofs.YtccbdcbeinkjgaaW.PrintWords Go.Proofs.YtccbdcbeinkjgaaW.PrintLast Go.Proofs.YtccbdcbeinkjgaaW.PrintMore Go.Proofs.Ytccbdcbeinkjgaa.XA Go.Proofs.Ytccbdcbeinkjgaa.Evs
set_option linter.unusedVariables false
theorem wrapNext {j n : Nat} (h : j < n) (hn : n ≤ 4611686018427387904) : wrap64 ((j : Int) + 1) = ((j + 1 : Nat) : Int) := by unfold wrap64; omega
deriving instance DecidableEq for S48
deriving instance DecidableEq for S63
/-- A loop that goes through two lists as long as each other, as long as they are alike. -/
theorem eqloop {α : Type} [DecidableEq α] {l : Nat → Int → Option Bool} {x y : List α} {R : Bool} (d : α) (hlen : x.length = y.length) (hb : x.length ≤ 4611686018427387904)
    (hstep : ∀ (k j : Nat), j < x.length → l (k + 1) (j : Int) = if x.getD j d = y.getD j d then l k (wrap64 ((j : Int) + 1)) else some false)
    (hend : ∃ K, ∀ k, K ≤ k → l k (x.length : Int) = some R) :
    ∀ m j : Nat, j + m = x.length → ∃ K, ∀ k, K ≤ k → l k (j : Int) = some (decide (x.drop j = y.drop j) && R) := by
  intro m
  induction m with
  | zero =>
    intro j hj
    obtain rfl : j = x.length := by omega
    obtain ⟨K, h⟩ := hend
    refine ⟨K, fun k hk => ?_⟩
    rw [h k hk, List.drop_length, List.drop_eq_nil_of_le (by omega)]
    simp
  | succ m ih =>
    intro j hj
    have hlt : j < x.length := by omega
    have hlt2 : j < y.length := by omega
    obtain ⟨K, h⟩ := ih (j + 1) (by omega)
    refine ⟨K + 1, fun k hk => ?_⟩
    obtain ⟨k, rfl⟩ : ∃ q, k = q + 1 := ⟨k - 1, by omega⟩
    rw [hstep k j hlt, List.drop_eq_getElem_cons hlt, List.drop_eq_getElem_cons hlt2, List.getD_eq_getElem?_getD, List.getD_eq_getElem?_getD, List.getElem?_eq_getElem hlt, List.getElem?_eq_getElem hlt2]
    simp only [Option.getD_some, List.cons.injEq]
    by_cases he : x[j] = y[j]
    · rw [if_pos he, wrapNext hlt hb, h k (by omega)]
      simp [he]
    · rw [if_neg he]
      simp [he]
theorem s48_ne (p q : S48) : ((!(p.f0 == q.f0) || (!(p.f1 == q.f1))) = true) = ¬ p = q := by
  cases p with | mk p0 p1 => cases q with | mk q0 q1 =>
  simp only [S48.mk.injEq, Bool.or_eq_true, Bool.not_eq_true', beq_eq_false_iff_ne, ne_eq, eq_iff_iff]
  by_cases h0 : p0 = q0 <;> by_cases h1 : p1 = q1 <;> simp [h0, h1]
theorem s63_ne (p q : S63) : ((!(p.f0 == q.f0) || (!(p.f1 == q.f1) || (!(p.f2 == q.f2) || (!(p.f3 == q.f3) || (!(p.f4 == q.f4)))))) = true) = ¬ p = q := by
  cases p with | mk p0 p1 p2 p3 p4 => cases q with | mk q0 q1 q2 q3 q4 =>
  simp only [S63.mk.injEq, Bool.or_eq_true, Bool.not_eq_true', beq_eq_false_iff_ne, ne_eq, eq_iff_iff]
  by_cases h0 : p0 = q0 <;> by_cases h1 : p1 = q1 <;> by_cases h2 : p2 = q2 <;> by_cases h3 : p3 = q3 <;> by_cases h4 : p4 = q4 <;> simp [h0, h1, h2, h3, h4]
theorem ints_ev {x y : List Int} (hb : x.length ≤ 4611686018427387904) : Ev (fun k => slices_Equal_int_int.f k x y) (decide (x = y)) := by
  unfold slices_Equal_int_int.f
  by_cases hl : (x.length : Int) = (y.length : Int)
  · refine ev_pos hl ?_
    have := eqloop (l := fun k i => slices_Equal_int_int.l0 k x y (x.length : Int) i) (x := x) (y := y) (R := true) 0 (by omega) hb
      (fun k j hj => by
        simp only [slices_Equal_int_int.l0]
        rw [if_pos (by omega), if_pos (by omega), if_pos (by omega), if_pos (by omega)]
        rfl)
      ⟨1, fun k hk => by obtain ⟨k, rfl⟩ : ∃ q, k = q + 1 := ⟨k - 1, by omega⟩; simp only [slices_Equal_int_int.l0]; rw [if_neg (by omega)]⟩ x.length 0 (by omega)
    simp only [List.drop_zero, Bool.and_true] at this
    exact this
  · refine ev_neg hl ?_
    have hne : x ≠ y := fun h => hl (by rw [h])
    rw [decide_eq_false hne]
    exact Ev.now _
theorem points_ev {x y : List S48} (hb : x.length ≤ 4611686018427387904) : Ev (fun k => api_Point_30.f k x y) (decide (x = y)) := by
  unfold api_Point_30.f
  by_cases hl : (x.length : Int) = (y.length : Int)
  · refine ev_pos hl ?_
    have := eqloop (l := fun k i => api_Point_30.l0 k x y (x.length : Int) i) (x := x) (y := y) (R := true) z48 (by omega) hb
      (fun k j hj => by
        simp only [api_Point_30.l0, s48_ne]
        rw [if_pos (by omega), if_pos (by omega), if_pos (by omega), if_pos (by omega)]
        show (if ¬ x.getD j z48 = y.getD j z48 then _ else _) = _
        rw [ite_not])
      ⟨1, fun k hk => by obtain ⟨k, rfl⟩ : ∃ q, k = q + 1 := ⟨k - 1, by omega⟩; simp only [api_Point_30.l0]; rw [if_neg (by omega)]⟩ x.length 0 (by omega)
    simp only [List.drop_zero, Bool.and_true] at this
    exact this
  · refine ev_neg hl ?_
    have hne : x ≠ y := fun h => hl (by rw [h])
    rw [decide_eq_false hne]
    exact Ev.now _
theorem instrs_ev {x y : List S63} (hb : x.length ≤ 4611686018427387904) : Ev (fun k => api_Instr.f k x y) (decide (x = y)) := by
  unfold api_Instr.f
  by_cases hl : (x.length : Int) = (y.length : Int)
  · refine ev_pos hl ?_
    have := eqloop (l := fun k i => api_Instr.l0 k x y (x.length : Int) i) (x := x) (y := y) (R := true) z63 (by omega) hb
      (fun k j hj => by
        simp only [api_Instr.l0, s63_ne]
        rw [if_pos (by omega), if_pos (by omega), if_pos (by omega), if_pos (by omega)]
        show (if ¬ x.getD j z63 = y.getD j z63 then _ else _) = _
        rw [ite_not])
      ⟨1, fun k hk => by obtain ⟨k, rfl⟩ : ∃ q, k = q + 1 := ⟨k - 1, by omega⟩; simp only [api_Instr.l0]; rw [if_neg (by omega)]⟩ x.length 0 (by omega)
    simp only [List.drop_zero, Bool.and_true] at this
    exact this
  · refine ev_neg hl ?_
    have hne : x ≠ y := fun h => hl (by rw [h])
    rw [decide_eq_false hne]
    exact Ev.now _
/-- Two programs are one. -/
def psame (a0 a1 : Int) (c : List S63) (o : List Int) (b0 b1 : Int) (d : List S63) (p : List Int) : Bool := decide (a0 = b0) && (decide (a1 = b1) && (decide (c = d) && decide (o = p)))
section
variable {a0 a1 b0 b1 : Int} {c d : List S63} {o p : List Int}
theorem psame_ev (hc : c.length ≤ 4611686018427387904) (ho : o.length ≤ 4611686018427387904) : Ev (fun k => prog_Same.f k a0 a1 c o b0 b1 d p) (psame a0 a1 c o b0 b1 d p) := by
  unfold prog_Same.f psame
  by_cases h0 : a0 = b0
  · refine ev_pos h0 ?_
    by_cases h1 : a1 = b1
    · refine ev_pos h1 ?_
      rw [decide_eq_true h0, decide_eq_true h1, Bool.true_and, Bool.true_and]
      refine Ev.bind (instrs_ev hc) ?_
      by_cases h2 : c = d
      · rw [decide_eq_true h2, Bool.true_and]
        exact ev_pos rfl (Ev.bind (ints_ev ho) (Ev.now _))
      · rw [decide_eq_false h2, Bool.false_and]
        exact ev_neg (by decide) (Ev.now _)
    · refine ev_neg h1 ?_
      rw [decide_eq_false h1, Bool.false_and, Bool.and_false]
      exact Ev.now _
  · refine ev_neg h0 ?_
    rw [decide_eq_false h0, Bool.false_and]
    exact Ev.now _
theorem rsame_l1 (hl : o.length = p.length) (ho : o.length ≤ 4611686018427387904) : Ev (fun k => swageref08_Same.l1 k 0 a0 a1 c o b0 b1 d p) (decide (o = p)) := by
  have := eqloop (l := fun k i => swageref08_Same.l1 k i a0 a1 c o b0 b1 d p) (x := o) (y := p) (R := true) 0 hl ho
    (fun k j hj => by
      simp only [swageref08_Same.l1]
      rw [if_pos (by omega), if_pos (by omega), if_pos (by omega)]
      rfl)
    ⟨1, fun k hk => by obtain ⟨k, rfl⟩ : ∃ q, k = q + 1 := ⟨k - 1, by omega⟩; simp only [swageref08_Same.l1]; rw [if_neg (by omega)]⟩ o.length 0 (by omega)
  simp only [List.drop_zero, Bool.and_true] at this
  exact this
theorem rsame_l0 (hl : o.length = p.length) (hc2 : c.length = d.length) (hc : c.length ≤ 4611686018427387904) (ho : o.length ≤ 4611686018427387904) : Ev (fun k => swageref08_Same.l0 k 0 a0 a1 c o b0 b1 d p) (decide (c = d) && decide (o = p)) := by
  obtain ⟨K, hK⟩ := rsame_l1 (a0 := a0) (a1 := a1) (b0 := b0) (b1 := b1) (c := c) (d := d) hl ho
  have := eqloop (l := fun k i => swageref08_Same.l0 k i a0 a1 c o b0 b1 d p) (x := c) (y := d) (R := decide (o = p)) z63 hc2 hc
    (fun k j hj => by
      simp only [swageref08_Same.l0, s63_ne]
      rw [if_pos (by omega), if_pos (by omega), if_pos (by omega)]
      show (if ¬ c.getD j z63 = d.getD j z63 then _ else _) = _
      rw [ite_not])
    ⟨K + 1, fun k hk => by obtain ⟨k, rfl⟩ : ∃ q, k = q + 1 := ⟨k - 1, by omega⟩; simp only [swageref08_Same.l0]; rw [if_neg (by omega)]; exact hK k (by omega)⟩ c.length 0 (by omega)
  simp only [List.drop_zero] at this
  exact this
theorem rsame_ev (hc : c.length ≤ 4611686018427387904) (ho : o.length ≤ 4611686018427387904) : Ev (fun k => swageref08_Same.f k a0 a1 c o b0 b1 d p) (psame a0 a1 c o b0 b1 d p) := by
  have hj : Ev (fun k => swageref08_Same.j0 k true a0 a1 c o b0 b1 d p) false := ⟨1, fun k hk => by obtain ⟨k, rfl⟩ : ∃ q, k = q + 1 := ⟨k - 1, by omega⟩; simp only [swageref08_Same.j0]; rw [if_pos trivial]⟩
  unfold swageref08_Same.f psame
  by_cases h0 : a0 = b0
  · refine ev_pos h0 ?_
    by_cases h1 : a1 = b1
    · refine ev_pos h1 ?_
      rw [decide_eq_true h0, decide_eq_true h1, Bool.true_and, Bool.true_and]
      by_cases h2 : (c.length : Int) = (d.length : Int)
      · refine ev_pos h2 ?_
        by_cases h3 : (o.length : Int) = (p.length : Int)
        · obtain ⟨K, hK⟩ := rsame_l0 (a0 := a0) (a1 := a1) (b0 := b0) (b1 := b1) (c := c) (d := d) (o := o) (p := p) (by omega) (by omega) hc ho
          refine ⟨K + 1, fun k hk => ?_⟩
          obtain ⟨k, rfl⟩ : ∃ q, k = q + 1 := ⟨k - 1, by omega⟩
          simp only [swageref08_Same.j0]
          rw [if_neg (by simpa using h3)]
          exact hK k (by omega)
        · have hne : o ≠ p := fun h => h3 (by rw [h])
          rw [decide_eq_false hne, Bool.and_false, show ((o.length : Int) != (p.length : Int)) = true by simpa using h3]
          exact hj
      · refine ev_neg h2 ?_
        have hne : c ≠ d := fun h => h2 (by rw [h])
        rw [decide_eq_false hne, Bool.false_and]
        exact hj
    · refine ev_neg h1 ?_
      rw [decide_eq_false h1, Bool.false_and, Bool.and_false]
      exact hj
  · refine ev_neg h0 ?_
    rw [decide_eq_false h0, Bool.false_and]
    exact hj
end
/-- Two units are one. -/
def usame (a b : S28) : Bool := decide (a.f0 = b.f0) && (decide (a.f1 = b.f1) && (decide (a.f2 = b.f2) && (psame a.f3.f0 a.f3.f1 a.f3.f2 a.f3.f3 b.f3.f0 b.f3.f1 b.f3.f2 b.f3.f3 && (psame a.f4.f0 a.f4.f1 a.f4.f2 a.f4.f3 b.f4.f0 b.f4.f1 b.f4.f2 b.f4.f3 && psame a.f5.f0 a.f5.f1 a.f5.f2 a.f5.f3 b.f5.f0 b.f5.f1 b.f5.f2 b.f5.f3))))
/-- Lists that a machine can hold. -/
structure Held (a : S28) : Prop where
  p : a.f2.length ≤ 4611686018427387904
  c3 : a.f3.f2.length ≤ 4611686018427387904
  o3 : a.f3.f3.length ≤ 4611686018427387904
  c4 : a.f4.f2.length ≤ 4611686018427387904
  o4 : a.f4.f3.length ≤ 4611686018427387904
  c5 : a.f5.f2.length ≤ 4611686018427387904
  o5 : a.f5.f3.length ≤ 4611686018427387904
theorem three_ev {f g h : Nat → Option Bool} {x y z : Bool} (hf : Ev f x) (hg : Ev g y) (hh : Ev h z) : Ev (fun k => (f k).bind fun s => if s = true then (g k).bind fun t => (if t = true then (h k).bind fun u => some u else some false) else some false) (x && (y && z)) := by
  refine Ev.bind hf ?_
  cases x
  · exact ev_neg (by decide) (Ev.now _)
  · refine ev_pos rfl (Ev.bind hg ?_)
    cases y
    · exact ev_neg (by decide) (Ev.now _)
    · exact ev_pos rfl (Ev.bind hh (Ev.now _))
theorem usame_ev {a b : S28} (ha : Held a) : Ev (fun k => code_Same.f k a.f0 a.f1 a.f2 a.f3.f0 a.f3.f1 a.f3.f2 a.f3.f3 a.f4.f0 a.f4.f1 a.f4.f2 a.f4.f3 a.f5.f0 a.f5.f1 a.f5.f2 a.f5.f3 b.f0 b.f1 b.f2 b.f3.f0 b.f3.f1 b.f3.f2 b.f3.f3 b.f4.f0 b.f4.f1 b.f4.f2 b.f4.f3 b.f5.f0 b.f5.f1 b.f5.f2 b.f5.f3) (usame a b) := by
  unfold code_Same.f usame
  by_cases h0 : a.f0 = b.f0
  · refine ev_pos h0 ?_
    by_cases h1 : a.f1 = b.f1
    · refine ev_pos h1 ?_
      rw [decide_eq_true h0, decide_eq_true h1, Bool.true_and, Bool.true_and]
      refine Ev.bind (points_ev ha.p) ?_
      by_cases h2 : a.f2 = b.f2
      · rw [decide_eq_true h2, Bool.true_and]
        exact ev_pos rfl (three_ev (psame_ev ha.c3 ha.o3) (psame_ev ha.c4 ha.o4) (psame_ev ha.c5 ha.o5))
      · rw [decide_eq_false h2, Bool.false_and]
        exact ev_neg (by decide) (Ev.now _)
    · refine ev_neg h1 ?_
      rw [decide_eq_false h1, Bool.false_and, Bool.and_false]
      exact Ev.now _
  · refine ev_neg h0 ?_
    rw [decide_eq_false h0, Bool.false_and]
    exact Ev.now _
theorem ref_ev {a b : S28} (ha : Held a) : Ev (fun k => swageref17_Same.f k a.f0 a.f1 a.f2 a.f3.f0 a.f3.f1 a.f3.f2 a.f3.f3 a.f4.f0 a.f4.f1 a.f4.f2 a.f4.f3 a.f5.f0 a.f5.f1 a.f5.f2 a.f5.f3 b.f0 b.f1 b.f2 b.f3.f0 b.f3.f1 b.f3.f2 b.f3.f3 b.f4.f0 b.f4.f1 b.f4.f2 b.f4.f3 b.f5.f0 b.f5.f1 b.f5.f2 b.f5.f3) (usame a b) := by
  have hj : Ev (fun k => swageref17_Same.j0 k true a.f0 a.f1 a.f2 a.f3.f0 a.f3.f1 a.f3.f2 a.f3.f3 a.f4.f0 a.f4.f1 a.f4.f2 a.f4.f3 a.f5.f0 a.f5.f1 a.f5.f2 a.f5.f3 b.f0 b.f1 b.f2 b.f3.f0 b.f3.f1 b.f3.f2 b.f3.f3 b.f4.f0 b.f4.f1 b.f4.f2 b.f4.f3 b.f5.f0 b.f5.f1 b.f5.f2 b.f5.f3) false := ⟨1, fun k hk => by obtain ⟨k, rfl⟩ : ∃ q, k = q + 1 := ⟨k - 1, by omega⟩; simp only [swageref17_Same.j0]; rw [if_pos trivial]⟩
  unfold swageref17_Same.f usame
  by_cases h0 : a.f0 = b.f0
  · refine ev_pos h0 ?_
    by_cases h1 : a.f1 = b.f1
    · refine ev_pos h1 ?_
      rw [decide_eq_true h0, decide_eq_true h1, Bool.true_and, Bool.true_and]
      by_cases h2 : (a.f2.length : Int) = (b.f2.length : Int)
      · obtain ⟨K, hK⟩ := three_ev (rsame_ev (a0 := a.f3.f0) (a1 := a.f3.f1) (b0 := b.f3.f0) (b1 := b.f3.f1) (d := b.f3.f2) (p := b.f3.f3) ha.c3 ha.o3) (rsame_ev (a0 := a.f4.f0) (a1 := a.f4.f1) (b0 := b.f4.f0) (b1 := b.f4.f1) (d := b.f4.f2) (p := b.f4.f3) ha.c4 ha.o4) (rsame_ev (a0 := a.f5.f0) (a1 := a.f5.f1) (b0 := b.f5.f0) (b1 := b.f5.f1) (d := b.f5.f2) (p := b.f5.f3) ha.c5 ha.o5)
        have := eqloop (l := fun k i => swageref17_Same.l0 k i a.f0 a.f1 a.f2 a.f3.f0 a.f3.f1 a.f3.f2 a.f3.f3 a.f4.f0 a.f4.f1 a.f4.f2 a.f4.f3 a.f5.f0 a.f5.f1 a.f5.f2 a.f5.f3 b.f0 b.f1 b.f2 b.f3.f0 b.f3.f1 b.f3.f2 b.f3.f3 b.f4.f0 b.f4.f1 b.f4.f2 b.f4.f3 b.f5.f0 b.f5.f1 b.f5.f2 b.f5.f3) (x := a.f2) (y := b.f2) z48 (by omega) ha.p
          (fun k j hj => by
            simp only [swageref17_Same.l0, s48_ne]
            rw [if_pos (by omega), if_pos (by omega), if_pos (by omega)]
            show (if ¬ a.f2.getD j z48 = b.f2.getD j z48 then _ else _) = _
            rw [ite_not])
          ⟨K + 1, fun k hk => by obtain ⟨k, rfl⟩ : ∃ q, k = q + 1 := ⟨k - 1, by omega⟩; simp only [swageref17_Same.l0]; rw [if_neg (by omega)]; exact hK k (by omega)⟩ a.f2.length 0 (by omega)
        simp only [List.drop_zero] at this
        obtain ⟨K2, h2'⟩ := this
        refine ⟨K2 + 1, fun k hk => ?_⟩
        obtain ⟨k, rfl⟩ : ∃ q, k = q + 1 := ⟨k - 1, by omega⟩
        simp only [swageref17_Same.j0]
        rw [if_neg (by simpa using h2)]
        exact h2' k (by omega)
      · have hne : a.f2 ≠ b.f2 := fun h => h2 (by rw [h])
        rw [decide_eq_false hne, Bool.false_and, show ((a.f2.length : Int) != (b.f2.length : Int)) = true by simpa using h2]
        exact hj
    · refine ev_neg h1 ?_
      rw [decide_eq_false h1, Bool.false_and, Bool.and_false]
      exact hj
  · refine ev_neg h0 ?_
    rw [decide_eq_false h0, Bool.false_and]
    exact hj
theorem usame_comm (a b : S28) : usame a b = usame b a := by
  unfold usame psame
  simp only [eq_comm]
theorem usame_self (a : S28) : usame a a = true := by simp [usame, psame]
end Go.Proofs.Ytccbdcbeinkjgaa.PlainCode
end

section
/- The law CodeSames, over numbers and lists. -/
namespace Go.Proofs.Ytccbdcbeinkjgaa.Pure
open Go.RowKit Go.Proofs.YtccbdcbeinkjgaaW.PrintWords Go.Proofs.YtccbdcbeinkjgaaW.PrintLast Go.Proofs.YtccbdcbeinkjgaaW.PrintMore Go.Proofs.Ytccbdcbeinkjgaa.XA Go.Proofs.Ytccbdcbeinkjgaa.SaidCodeSames Go.Proofs.Ytccbdcbeinkjgaa.PlainCode Go.Proofs.Ytccbdcbeinkjgaa.Evs
set_option linter.unusedVariables false
set_option maxRecDepth 100000 in
theorem works_ev : Ev (fun k => swagelaw17_works.f k) true := Ev.of swagelaw17_works.mono (k := 300) (by decide +kernel)
/-- Lists that the statement's memory can hold. -/
theorem held {a : S28} (h : wfS28 a) : Held a := by
  obtain ⟨_, _, ⟨h2, _⟩, ⟨_, _, ⟨h3, _⟩, ⟨h4, _⟩⟩, ⟨_, _, ⟨h5, _⟩, ⟨h6, _⟩⟩, ⟨_, _, ⟨h7, _⟩, ⟨h8, _⟩⟩⟩ := h
  exact ⟨by omega, by omega, by omega, by omega, by omega, by omega, by omega⟩
theorem copied_at {a : S28} (h : wfS28 a) : swagelaw17_copied.f a.f0 a.f1 a.f2 a.f3.f0 a.f3.f1 a.f3.f2 a.f3.f3 a.f4.f0 a.f4.f1 a.f4.f2 a.f4.f3 a.f5.f0 a.f5.f1 a.f5.f2 a.f5.f3 = some (a.f0, a.f1, a.f2, a.f3.f0, a.f3.f1, a.f3.f2, a.f3.f3, a.f4.f0, a.f4.f1, a.f4.f2, a.f4.f3, a.f5.f0, a.f5.f1, a.f5.f2, a.f5.f3) := by
  obtain ⟨_, _, ⟨h2, _⟩, ⟨_, _, ⟨h3, _⟩, ⟨h4, _⟩⟩, ⟨_, _, ⟨h5, _⟩, ⟨h6, _⟩⟩, ⟨_, _, ⟨h7, _⟩, ⟨h8, _⟩⟩⟩ := h
  unfold swagelaw17_copied.f api_Point_36.f swageref08_Copy.f
  simp only [Option.bind_some, List.length_nil, Nat.zero_add, List.nil_append]
  rw [if_pos (by omega), if_pos (by omega), if_pos (by omega), if_pos (by omega), if_pos (by omega), if_pos (by omega), if_pos (by omega)]
  rfl
theorem long_at (a : S28) : ∃ b, swagelaw17_long.f a.f0 a.f1 a.f2 a.f3.f0 a.f3.f1 a.f3.f2 a.f3.f3 a.f4.f0 a.f4.f1 a.f4.f2 a.f4.f3 a.f5.f0 a.f5.f1 a.f5.f2 a.f5.f3 = some b := by
  unfold swagelaw17_long.f
  split <;> exact ⟨_, rfl⟩
theorem sames_j0 {a b : S28} (ha : wfS28 a) (hb : wfS28 b) (c : Bool) : Ev (fun k => swagelaw17_CodeSames.j0 k c a.f0 a.f1 a.f2 a.f3.f0 a.f3.f1 a.f3.f2 a.f3.f3 a.f4.f0 a.f4.f1 a.f4.f2 a.f4.f3 a.f5.f0 a.f5.f1 a.f5.f2 a.f5.f3 b.f0 b.f1 b.f2 b.f3.f0 b.f3.f1 b.f3.f2 b.f3.f3 b.f4.f0 b.f4.f1 b.f4.f2 b.f4.f3 b.f5.f0 b.f5.f1 b.f5.f2 b.f5.f3) true := by
  refine Ev.step (f := _) (fun k => by simp only [swagelaw17_CodeSames.j0]; rfl) ?_
  cases c
  · refine ev_neg (by decide) ?_
    refine Ev.bind (usame_ev (held ha)) (Ev.bind (ref_ev (held ha)) (ev_pos (by simp) (Ev.bind (usame_ev (held hb)) (Ev.bind (ref_ev (held ha)) (ev_pos (by rw [usame_comm]; simp) ?_)))))
    rw [copied_at ha]
    refine Ev.congr (fun k => Option.bind_some _ _) ?_
    exact Ev.bind (usame_ev (b := a) (held ha)) (by rw [usame_self]; exact Ev.now _)
  · exact ev_pos rfl (Ev.now _)
theorem CodeSames : SaidCodeSames.Pure := by
  intro x0 x1 h0 h1
  refine Ev.rounds (g := fun k => swagelaw17_CodeSames.f k x0.f0 x0.f1 x0.f2 x0.f3.f0 x0.f3.f1 x0.f3.f2 x0.f3.f3 x0.f4.f0 x0.f4.f1 x0.f4.f2 x0.f4.f3 x0.f5.f0 x0.f5.f1 x0.f5.f2 x0.f5.f3 x1.f0 x1.f1 x1.f2 x1.f3.f0 x1.f3.f1 x1.f3.f2 x1.f3.f3 x1.f4.f0 x1.f4.f1 x1.f4.f2 x1.f4.f3 x1.f5.f0 x1.f5.f1 x1.f5.f2 x1.f5.f3) ?_
  unfold swagelaw17_CodeSames.f
  refine Ev.bind works_ev (ev_pos rfl ?_)
  obtain ⟨b, hb⟩ := long_at x0
  rw [hb]
  refine Ev.congr (fun k => Option.bind_some _ _) ?_
  cases b
  · refine ev_neg (by decide) ?_
    obtain ⟨c, hc⟩ := long_at x1
    rw [hc]
    exact Ev.congr (fun k => Option.bind_some _ _) (sames_j0 h0 h1 c)
  · exact ev_pos rfl (sames_j0 h0 h1 true)
end Go.Proofs.Ytccbdcbeinkjgaa.Pure
end

section
/- The row of the law CodeSames, for every input: out of the pure statement and the walk. No condition. -/
namespace Go.Proofs.Ytccbdcbeinkjgaa.codeSames
open Go.ChangeShapes Go.WideShapes Go.ChangeAt Go.RowKit Go.Proofs.YtccbdcbeinkjgaaW.PrintWords Go.Proofs.Ytccbdcbeinkjgaa.Opn Go.Proofs.Ytccbdcbeinkjgaa.XA Go.Proofs.Ytccbdcbeinkjgaa.SaidCodeSames
open Go.ChangeMaps (open_string shut_string)
set_option linter.unusedVariables false
theorem own : ownKnob Try.prog.godebug = none := by kernel_rfl
theorem laidOut : laidOutB Try.prog = true := by kernel_rfl
set_option maxRecDepth 100000 in
theorem lifted (os : Os) (started : os.Started) (H : Type) (enc : TypeId × Value → H) :
    ReturnsInHanded {} Try.checked os 7 .any (Rows.codeSamesSpec.pre6 enc Try.prog Try.f7 Rows.codeSamesRow.domain false) (Rows.codeSamesSpec.post enc Try.prog Try.f7 false true false false) := by
  refine returnsInHanded_of_change_sized (C := Try.checked) own started (by kernel_rfl) Try.func7
    (ChangeSpec.witness6 (enc := enc) (C := Try.checked) false ⟨#[], #[.agg #[.int .i64 0, .int .i64 0, .slice none 0 0, .int .i64 0, .int .i64 0, .slice none 0 0, .slice none 0 0, .int .i64 0, .int .i64 0, .slice none 0 0, .slice none 0 0, .int .i64 0, .int .i64 0, .slice none 0 0, .slice none 0 0], .agg #[.int .i64 0, .int .i64 0, .slice none 0 0, .int .i64 0, .int .i64 0, .slice none 0 0, .slice none 0 0, .int .i64 0, .int .i64 0, .slice none 0 0, .slice none 0 0, .int .i64 0, .int .i64 0, .slice none 0 0, .slice none 0 0]], []⟩ 8 (by kernel_rfl) (by kernel_rfl) (by kernel_rfl) (by kernel_rfl)) ?_
  intro W base args ds gs before hval0 hW hcnd hsz0 _
  have hsz : (DataW.weightsEach Try.prog (Try.f7.params.toList ++ Rows.codeSamesSpec.plain.varTypes Try.prog) (ds ++ gs)).all (· ≤ reachBytes) = true := hsz0
  have hval : ∀ (j : Nat) t v, Try.f7.params[j]? = some t → args[j]? = some v → Value.okWide Try.prog W .any base t v := hval0
  have hW' := hW
  obtain ⟨p, q, hA0, hV, rfl, hfz, hnd⟩ := hW
  have hA : DataW.TrodAll enc Try.prog W 0 (fun _ => true) true Try.f7.params.toList args.toList ds p := hA0
  rw [Try.params7] at hA hval hsz
  obtain ⟨v0, vs0, d0, ds0, p0, q0, hargs, rfl, rfl, h0, r0⟩ := trodAll_cons hA
  obtain ⟨v1, vs1, d1, ds1, p1, q1, rfl, rfl, rfl, h1, r1⟩ := trodAll_cons r0
  obtain ⟨rfl, rfl, rfl⟩ := trodAll_nil r1
  obtain rfl : args = #[v0, v1] := by cases args; simp_all
  obtain ⟨rfl, rfl⟩ := trodVars_none hV
  have lt0 := trod_lt h0
  obtain ⟨⟨cs0⟩, rfl, _⟩ := okWide_struct Try.underlying28 (hval 0 28 v0 rfl rfl)
  obtain ⟨x0, hK00, w0⟩ := opened (opnS28) hsz (j := 0) (t := 28) rfl rfl h0
  have hK0 : k28.K W x0 cs0 := hK00
  clear hK00
  obtain ⟨_, _, rfl, rfl, ⟨_, _, rfl, rfl, ⟨_, _, rfl, ⟨A0_2, c0_2, rfl, hl0_2, hC0_2⟩, ⟨_, _, rfl, ⟨_, _, rfl, rfl, ⟨_, _, rfl, rfl, ⟨_, _, rfl, ⟨A0_5, c0_5, rfl, hl0_5, hC0_5⟩, ⟨A0_6, c0_6, rfl, hl0_6, hC0_6⟩⟩⟩⟩, ⟨_, _, rfl, ⟨_, _, rfl, rfl, ⟨_, _, rfl, rfl, ⟨_, _, rfl, ⟨A0_9, c0_9, rfl, hl0_9, hC0_9⟩, ⟨A0_10, c0_10, rfl, hl0_10, hC0_10⟩⟩⟩⟩, ⟨_, _, rfl, rfl, ⟨_, _, rfl, rfl, ⟨_, _, rfl, ⟨A0_13, c0_13, rfl, hl0_13, hC0_13⟩, ⟨A0_14, c0_14, rfl, hl0_14, hC0_14⟩⟩⟩⟩⟩⟩⟩⟩⟩ := hK0
  have lt1 := trod_lt h1
  obtain ⟨⟨cs1⟩, rfl, _⟩ := okWide_struct Try.underlying28 (hval 1 28 v1 rfl rfl)
  obtain ⟨x1, hK01, w1⟩ := opened (opnS28) hsz (j := 1) (t := 28) rfl rfl h1
  have hK1 : k28.K W x1 cs1 := hK01
  clear hK01
  obtain ⟨_, _, rfl, rfl, ⟨_, _, rfl, rfl, ⟨_, _, rfl, ⟨A1_2, c1_2, rfl, hl1_2, hC1_2⟩, ⟨_, _, rfl, ⟨_, _, rfl, rfl, ⟨_, _, rfl, rfl, ⟨_, _, rfl, ⟨A1_5, c1_5, rfl, hl1_5, hC1_5⟩, ⟨A1_6, c1_6, rfl, hl1_6, hC1_6⟩⟩⟩⟩, ⟨_, _, rfl, ⟨_, _, rfl, rfl, ⟨_, _, rfl, rfl, ⟨_, _, rfl, ⟨A1_9, c1_9, rfl, hl1_9, hC1_9⟩, ⟨A1_10, c1_10, rfl, hl1_10, hC1_10⟩⟩⟩⟩, ⟨_, _, rfl, rfl, ⟨_, _, rfl, rfl, ⟨_, _, rfl, ⟨A1_13, c1_13, rfl, hl1_13, hC1_13⟩, ⟨A1_14, c1_14, rfl, hl1_14, hC1_14⟩⟩⟩⟩⟩⟩⟩⟩⟩ := hK1
  clear hA0 hval0 hsz0 hsz
  obtain ⟨k, h⟩ := Pure.CodeSames x0 x1 w0 w1
  refine (swagelaw17_CodeSames.calls k x0.f0 x0.f1 A0_2 c0_2 x0.f2 x0.f3.f0 x0.f3.f1 A0_5 c0_5 x0.f3.f2 A0_6 c0_6 x0.f3.f3 x0.f4.f0 x0.f4.f1 A0_9 c0_9 x0.f4.f2 A0_10 c0_10 x0.f4.f3 x0.f5.f0 x0.f5.f1 A0_13 c0_13 x0.f5.f2 A0_14 c0_14 x0.f5.f3 x1.f0 x1.f1 A1_2 c1_2 x1.f2 x1.f3.f0 x1.f3.f1 A1_5 c1_5 x1.f3.f2 A1_6 c1_6 x1.f3.f3 x1.f4.f0 x1.f4.f1 A1_9 c1_9 x1.f4.f2 A1_10 c1_10 x1.f4.f3 x1.f5.f0 x1.f5.f1 A1_13 c1_13 x1.f5.f2 A1_14 c1_14 x1.f5.f3 true W hC0_2 hl0_2 hC0_5 hl0_5 hC0_6 hl0_6 hC0_9 hl0_9 hC0_10 hl0_10 hC0_13 hl0_13 hC0_14 hl0_14 hC1_2 hl1_2 hC1_5 hl1_5 hC1_6 hl1_6 hC1_9 hl1_9 hC1_10 hl1_10 hC1_13 hl1_13 hC1_14 hl1_14 (⟨rfl⟩) h).mono fun e W' he_ => ?_
  obtain ⟨rfl, bel⟩ := he_
  exact ⟨_, rfl, _, _, _, [], _, [], hW', trodAll_mk1 (shut_bool Try.underlying4 _), (trodAll_cons_mk (Below.trod laidOut (by kernel_rfl) (of_decide_eq_true (by kernel_rfl)) h0 bel lt0) (trodAll_cons_mk (Below.trod laidOut (by kernel_rfl) (of_decide_eq_true (by kernel_rfl)) h1 bel lt1) trodAll_mk0)), rfl, bel.frame _, fun h => by cases h⟩
theorem over : Rows.codeSamesRow.holds Try.pinned (OpenSpec.ofChange Rows.codeSamesSpec) :=
  OpenClaim.holds_of_wide 7 Try.f7 rfl rfl rfl rfl rfl rfl rfl ⟨rfl, rfl, rfl, rfl, rfl⟩ rfl rfl rfl rfl rfl (by kernel_rfl) Try.func7 (by kernel_rfl)
    (of_decide_eq_true (by kernel_rfl)) (by unfold Func.isWrapper; first | (rw [if_pos (by decide +kernel)]; kernel_rfl) | (rw [if_neg (by decide +kernel)]; exact ⟨rfl, rfl⟩))
    (fun os started H enc _ => lifted os started H enc)
theorem proved : Rows.CodeSamesSaid := over
#print axioms proved
end Go.Proofs.Ytccbdcbeinkjgaa.codeSames
namespace Go.Proofs.Ytccbdcbeinkjgaa
/-- The row, under a short name, for the claim. -/
theorem codeSames_holds : Rows.CodeSamesSaid := codeSames.proved
end Go.Proofs.Ytccbdcbeinkjgaa
end
