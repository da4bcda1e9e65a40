/- Part 10 of the proof of the law CodeDecodes for every input: words, walks and plain laws. No condition. -/
import Derived.Test.YtccbdcbeinkjgaaKCodeDecodes9
set_option linter.unusedVariables false
set_option linter.unusedSimpArgs false
set_option maxHeartbeats 8000000
set_option maxRecDepth 100000
section
namespace Go.Proofs.Ytccbdcbeinkjgaa.XA
open Go.Proofs.Ytccbdcbeinkjgaa.Lift Go.RowKit Go.Proofs.YtccbdcbeinkjgaaW.PrintWords Go.Proofs.YtccbdcbeinkjgaaW.PrintLast Go.Proofs.YtccbdcbeinkjgaaW.PrintMore
attribute [local go_sem] max2_int min2_int max_two min_two max_three min_three max_four min_four
theorem eqA48 (d : Nat) (w : World) (x0 y0 : Int) (x1 y1 : Int) :
  (Op.equalIn (d + 2) 48 (.agg #[.int .i64 x0, .int .i64 x1]) (.agg #[.int .i64 y0, .int .i64 y1])).run Try.prog w = .ok (x0 == y0 && (x1 == y1)) w := by
 refine eqA_of Try.underlying48 zk ?_
 refine eqf_cons (by rfl) (by go_simp; rfl) (by go_simp; rfl) (by go_simp) ?_
 exact eqf_last (by rfl) (by go_simp; rfl) (by go_simp; rfl) (by go_simp)
theorem eqA63 (d : Nat) (w : World) (x0 y0 : Int) (x1 y1 : Int) (x2 y2 : Int) (x3 y3 : Int) (x4 y4 : Int) :
  (Op.equalIn (d + 2) 63 (.agg #[.int .i64 x0, .int .i64 x1, .int .i64 x2, .int .i64 x3, .int .i64 x4]) (.agg #[.int .i64 y0, .int .i64 y1, .int .i64 y2, .int .i64 y3, .int .i64 y4])).run Try.prog w = .ok (x0 == y0 && (x1 == y1 && (x2 == y2 && (x3 == y3 && (x4 == y4))))) w := by
 refine eqA_of Try.underlying63 zk ?_
 refine eqf_cons (by rfl) (by go_simp; rfl) (by go_simp; rfl) (by go_simp) ?_
 refine eqf_cons (by rfl) (by go_simp; rfl) (by go_simp; rfl) (by go_simp) ?_
 refine eqf_cons (by rfl) (by go_simp; rfl) (by go_simp; rfl) (by go_simp) ?_
 refine eqf_cons (by rfl) (by go_simp; rfl) (by go_simp; rfl) (by go_simp) ?_
 exact eqf_last (by rfl) (by go_simp; rfl) (by go_simp; rfl) (by go_simp)
end Go.Proofs.Ytccbdcbeinkjgaa.XA
end
section
namespace Go.Proofs.Ytccbdcbeinkjgaa.XA
open Go.Proofs.Ytccbdcbeinkjgaa.Lift Go.RowKit Go.Proofs.YtccbdcbeinkjgaaW.PrintWords Go.Proofs.YtccbdcbeinkjgaaW.PrintLast Go.Proofs.YtccbdcbeinkjgaaW.PrintMore
attribute [local go_sem] max2_int min2_int max_two min_two max_three min_three max_four min_four
attribute [local go_sem high] eqA63
mutual
def sP_Same.j0 : Nat → Bool → Int → Int → List (S63) → List Int → Int → Int → List (S63) → List Int → Option (Bool)
 | 0, _, _, _, _, _, _, _, _, _ => none
 | k + 1, x36, qU, qV, qP, qS, qW, qX, qQ, qT => if x36 = true then (some false) else (sP_Same.l0 k 0 qU qV qP qS qW qX qQ qT)
def sP_Same.l0 : Nat → Int → Int → Int → List (S63) → List Int → Int → Int → List (S63) → List Int → Option (Bool)
 | 0, _, _, _, _, _, _, _, _, _ => none
 | k + 1, x5, qU, qV, qP, qS, qW, qX, qQ, qT => if x5 < (qP.length : Int) then (if 0 ≤ x5 then (if x5 < (qQ.length : Int) then (if (!(((rd_T63 qP x5).f0) == ((rd_T63 qQ x5).f0)) || (!(((rd_T63 qP x5).f1) == ((rd_T63 qQ x5).f1)) || (!(((rd_T63 qP x5).f2) == ((rd_T63 qQ x5).f2)) || (!(((rd_T63 qP x5).f3) == ((rd_T63 qQ x5).f3)) || (!(((rd_T63 qP x5).f4) == ((rd_T63 qQ x5).f4))))))) = true then (some false) else (sP_Same.l0 k (wrap64 (x5 + 1)) qU qV qP qS qW qX qQ qT)) else (none)) else (none)) else (sP_Same.l1 k 0 qU qV qP qS qW qX qQ qT)
def sP_Same.l1 : Nat → Int → Int → Int → List (S63) → List Int → Int → Int → List (S63) → List Int → Option (Bool)
 | 0, _, _, _, _, _, _, _, _, _ => none
 | k + 1, x6, qU, qV, qP, qS, qW, qX, qQ, qT => if x6 < (qS.length : Int) then (if 0 ≤ x6 then (if x6 < (qT.length : Int) then (if (rd qS x6) = (rd qT x6) then (sP_Same.l1 k (wrap64 (x6 + 1)) qU qV qP qS qW qX qQ qT) else (some false)) else (none)) else (none)) else (some true)
end
def sP_Same.f (k : Nat) (qL : Int) (qM : Int) (qB : List (S63)) (qF : List Int) (qN : Int) (qO : Int) (qC : List (S63)) (qG : List Int) : Option (Bool) := if qL = qN then (if qM = qO then (if (qB.length : Int) = (qC.length : Int) then (sP_Same.j0 k ((qF.length : Int) != (qG.length : Int)) qL qM qB qF qN qO qC qG) else (sP_Same.j0 k true qL qM qB qF qN qO qC qG)) else (sP_Same.j0 k true qL qM qB qF qN qO qC qG)) else (sP_Same.j0 k true qL qM qB qF qN qO qC qG)
theorem sP_Same.mono_l : ∀ k, (∀ y0 y1 y2 y3 y4 y5 y6 y7 y8, LeO (sP_Same.j0 k y0 y1 y2 y3 y4 y5 y6 y7 y8) (sP_Same.j0 (k + 1) y0 y1 y2 y3 y4 y5 y6 y7 y8)) ∧ (∀ y0 y1 y2 y3 y4 y5 y6 y7 y8, LeO (sP_Same.l0 k y0 y1 y2 y3 y4 y5 y6 y7 y8) (sP_Same.l0 (k + 1) y0 y1 y2 y3 y4 y5 y6 y7 y8)) ∧ (∀ y0 y1 y2 y3 y4 y5 y6 y7 y8, LeO (sP_Same.l1 k y0 y1 y2 y3 y4 y5 y6 y7 y8) (sP_Same.l1 (k + 1) y0 y1 y2 y3 y4 y5 y6 y7 y8))
 | 0 => ⟨fun _ _ _ _ _ _ _ _ _ r h => by simp [sP_Same.j0] at h, fun _ _ _ _ _ _ _ _ _ r h => by simp [sP_Same.l0] at h, fun _ _ _ _ _ _ _ _ _ r h => by simp [sP_Same.l1] at h⟩
 | k + 1 => by
  obtain ⟨ih0, ih1, ih2⟩ := sP_Same.mono_l k
  refine ⟨?_, ?_, ?_⟩
  ·intro y0 y1 y2 y3 y4 y5 y6 y7 y8
   unfold sP_Same.j0
   exact zM
  ·intro y0 y1 y2 y3 y4 y5 y6 y7 y8
   unfold sP_Same.l0
   exact zM
  ·intro y0 y1 y2 y3 y4 y5 y6 y7 y8
   unfold sP_Same.l1
   exact zM
theorem sP_Same.mono : ∀ a0 a1 a2 a3 a4 a5 a6 a7 k, LeO (sP_Same.f k a0 a1 a2 a3 a4 a5 a6 a7) (sP_Same.f (k + 1) a0 a1 a2 a3 a4 a5 a6 a7) := by
 intro a0 a1 a2 a3 a4 a5 a6 a7 k
 obtain ⟨ih0, ih1, ih2⟩ := sP_Same.mono_l k
 unfold sP_Same.f
 exact zM
theorem sP_Same.calls (k : Nat) (qL : Int) (qM : Int) (qY : Option Addr) (qZ : Nat) (qB : List (S63)) (qa : Option Addr) (qb : Nat) (qF : List Int) (qN : Int) (qO : Int) (qc : Option Addr) (qd : Nat) (qC : List (S63)) (qe : Option Addr) (qf : Nat) (qG : List Int) (r : Bool) (w : World) (qh : Kd.C k63 w qY qB.length qB) (qi : qB.length ≤ qZ) (qj : Kd.C (Kd.int .i64) w qa qF.length qF) (qk : qF.length ≤ qb) (ql : Kd.C k63 w qc qC.length qC) (qm : qC.length ≤ qd) (qn : Kd.C (Kd.int .i64) w qe qG.length qG) (qo : qG.length ≤ qf) (h : sP_Same.f k qL qM qB qF qN qO qC qG = some r) :
  Calls Try.prog 48 #[.agg #[.int .i64 qL, .int .i64 qM, .slice qY qB.length qZ, .slice qa qF.length qb], .agg #[.int .i64 qN, .int .i64 qO, .slice qc qC.length qd, .slice qe qG.length qf]] w fun e w' => e = .returned (.bool r) ∧ Below w.heap.size w w' := by
 have hu26 := Try.underlying26
 have hu63 := Try.underlying63
 have qp := aM qh
 have jX := aM qi
 clear qh qi
 have qq := aM qj
 have jY := aM qk
 clear qj qk
 have qr := aM ql
 have jZ := aM qm
 clear ql qm
 have qs := aM qn
 have ja := aM qo
 clear qn qo
 have HB := aM (Below.refl w.heap.size w)
 have H : (if qL = qN then (if qM = qO then (if (qB.length : Int) = (qC.length : Int) then (sP_Same.j0 k ((qF.length : Int) != (qG.length : Int)) qL qM qB qF qN qO qC qG) else (sP_Same.j0 k true qL qM qB qF qN qO qC qG)) else (sP_Same.j0 k true qL qM qB qF qN qO qC qG)) else (sP_Same.j0 k true qL qM qB qF qN qO qC qG)) = some r := h
 clear h
 have HC3 := aM H
 clear H
 go_enter Try.func48, Try.ntmps48
 go_upto_region 1 with (first | ((with_reducible refine gate_dst (N := 2) rfl ?_); (try (refine gate_guard (by rfl) ?_; dsimp only)); refine z16_ rfl (N := 2) rfl (cs := #[.int .i64 qL, .int .i64 qM, .slice qY qB.length qZ, .slice qa qF.length qb]) (t := 26) zG ?_; intro qH hg w4 hbox hb; have qA := aM (hbox); have qt := aM ((by rw [hg]; exact (z4_ (lB HB)) : w.heap.size ≤ qH)); have qu := aM ((by rw [hg]; exact (z4_ (lB HB)) : w.heap.size ≤ qH)); replace HB := aM (z6_ (lB HB) hb); clear hb hbox hg) | ((with_reducible refine gate_dst (N := 3) rfl ?_); (try (refine gate_guard (by rfl) ?_; dsimp only)); refine z16_ rfl (N := 3) rfl (cs := #[.int .i64 qN, .int .i64 qO, .slice qc qC.length qd, .slice qe qG.length qf]) (t := 26) zG ?_; intro qR hg w5 hbox hb; have qE := aM (hbox); have qv := aM ((by rw [hg]; exact (z4_ (zB HB)) : w.heap.size ≤ qR)); have qw := aM ((by rw [hg]; exact (z4_ (zB HB)) : w.heap.size ≤ qR)); replace HB := aM (z6_ (zB HB) hb); have qJ := aM ((by rw [hg]; exact Nat.ne_of_lt (z19_ (g := qH) (lK qA)) : qH ≠ qR)); have qK := aM ((by rw [hg]; exact Nat.ne_of_gt (z19_ (g := qH) (lK qA)) : qR ≠ qH)); replace qA := aM (z5_ (g := qH) (lK qA) hb); clear hb hbox hg))
 repeat (go_quiet (first | ((with_reducible refine gate_dst (N := 2) rfl ?_); (try (refine gate_guard (by rfl) ?_; dsimp only)); refine z16_ rfl (N := 2) rfl (cs := #[.int .i64 qL, .int .i64 qM, .slice qY qB.length qZ, .slice qa qF.length qb]) (t := 26) zG ?_; intro qH hg w4 hbox hb; have qA := aM (hbox); have qt := aM ((by rw [hg]; exact (z4_ (lB HB)) : w.heap.size ≤ qH)); have qu := aM ((by rw [hg]; exact (z4_ (lB HB)) : w.heap.size ≤ qH)); replace HB := aM (z6_ (lB HB) hb); clear hb hbox hg) | ((with_reducible refine gate_dst (N := 3) rfl ?_); (try (refine gate_guard (by rfl) ?_; dsimp only)); refine z16_ rfl (N := 3) rfl (cs := #[.int .i64 qN, .int .i64 qO, .slice qc qC.length qd, .slice qe qG.length qf]) (t := 26) zG ?_; intro qR hg w5 hbox hb; have qE := aM (hbox); have qv := aM ((by rw [hg]; exact (z4_ (zB HB)) : w.heap.size ≤ qR)); have qw := aM ((by rw [hg]; exact (z4_ (zB HB)) : w.heap.size ≤ qR)); replace HB := aM (z6_ (zB HB) hb); have qJ := aM ((by rw [hg]; exact Nat.ne_of_lt (z19_ (g := qH) (lK qA)) : qH ≠ qR)); have qK := aM ((by rw [hg]; exact Nat.ne_of_gt (z19_ (g := qH) (lK qA)) : qR ≠ qH)); replace qA := aM (z5_ (g := qH) (lK qA) hb); clear hb hbox hg)); go_upto_region 1 with (first | ((with_reducible refine gate_dst (N := 2) rfl ?_); (try (refine gate_guard (by rfl) ?_; dsimp only)); refine z16_ rfl (N := 2) rfl (cs := #[.int .i64 qL, .int .i64 qM, .slice qY qB.length qZ, .slice qa qF.length qb]) (t := 26) zG ?_; intro qH hg w4 hbox hb; have qA := aM (hbox); have qt := aM ((by rw [hg]; exact (z4_ (lB HB)) : w.heap.size ≤ qH)); have qu := aM ((by rw [hg]; exact (z4_ (lB HB)) : w.heap.size ≤ qH)); replace HB := aM (z6_ (lB HB) hb); clear hb hbox hg) | ((with_reducible refine gate_dst (N := 3) rfl ?_); (try (refine gate_guard (by rfl) ?_; dsimp only)); refine z16_ rfl (N := 3) rfl (cs := #[.int .i64 qN, .int .i64 qO, .slice qc qC.length qd, .slice qe qG.length qf]) (t := 26) zG ?_; intro qR hg w5 hbox hb; have qE := aM (hbox); have qv := aM ((by rw [hg]; exact (z4_ (zB HB)) : w.heap.size ≤ qR)); have qw := aM ((by rw [hg]; exact (z4_ (zB HB)) : w.heap.size ≤ qR)); replace HB := aM (z6_ (zB HB) hb); have qJ := aM ((by rw [hg]; exact Nat.ne_of_lt (z19_ (g := qH) (lK qA)) : qH ≠ qR)); have qK := aM ((by rw [hg]; exact Nat.ne_of_gt (z19_ (g := qH) (lK qA)) : qR ≠ qH)); replace qA := aM (z5_ (g := qH) (lK qA) hb); clear hb hbox hg)))
 (try simp only [Act.put, List.setIfInBounds_toArray, List.set_cons_zero, List.set_cons_succ])
 go_cut [36] (fun v36 wc => ∃ (kq : Nat) (qg : Bool), v36 = .bool qg ∧ Aside0 (sP_Same.j0 kq qg qL qM qB qF qN qO qC qG = some r) ∧ Aside0 (kq ≤ k) ∧ Aside0 (wc.heap[qH]? = some (.cells #[.int .i64 qL, .int .i64 qM, (.slice qY qB.length qZ), (.slice qa qF.length qb)] 26 (0, 0))) ∧ Aside0 (wc.heap[qR]? = some (.cells #[.int .i64 qN, .int .i64 qO, (.slice qc qC.length qd), (.slice qe qG.length qf)] 26 (0, 0))) ∧ Aside0 (Below w.heap.size w wc))
 case first =>
  have H := HC3.out
  clear HC3
  by_cases c6 : qL = qN
  ·rw [if_pos c6] at H
   have c6b0 : (qL == qN) = true := beq_iff_eq.mpr c6
   have c6b1 : (qL != qN) = false := bne_eq_false_iff_eq.mpr c6
   clear c6
   (first | rw [c6b0] | (simp only [i64_w, i32_w]; rw [c6b0]) | skip)
   by_cases c7 : qM = qO
   ·rw [if_pos c7] at H
    have c7b0 : (qM == qO) = true := beq_iff_eq.mpr c7
    have c7b1 : (qM != qO) = false := bne_eq_false_iff_eq.mpr c7
    clear c7
    by_cases c8 : (qB.length : Int) = (qC.length : Int)
    ·rw [if_pos c8] at H
     have c8b0 : ((qB.length : Int) == (qC.length : Int)) = true := beq_iff_eq.mpr c8
     have c8b1 : ((qB.length : Int) != (qC.length : Int)) = false := bne_eq_false_iff_eq.mpr c8
     have c8b2 : (qB.length == qC.length) = true := by first | simpa using c8 | (simp at c8 ⊢; omega)
     clear c8
     have H' := aM H
     clear H
     have jt := qJ.out
     have ju := qK.out
     have qx := zc4 qA.out
     have qy := fun i_ : Nat => z1_ qA.out i_
     have qz := zc4 qE.out
     have q0 := fun i_ : Nat => z1_ qE.out i_
     go_wp2
     repeat (go_quiet (fail); try go_wp2)
     go_meet
     case rel => exact ⟨_, (((qF.length : Int) != (qG.length : Int))), zT, H', ⟨zO⟩, ⟨zb qA⟩, ⟨zb qE⟩, ⟨zB HB⟩⟩
    ·rw [if_neg c8] at H
     have c8b0 : ((qB.length : Int) == (qC.length : Int)) = false := beq_eq_false_iff_ne.mpr c8
     have c8b1 : ((qB.length : Int) != (qC.length : Int)) = true := bne_iff_ne.mpr c8
     have c8b2 : (qB.length == qC.length) = false := by first | simpa using c8 | (simp at c8 ⊢; omega)
     have H' := aM H
     clear H
     have jb := qJ.out
     have jc := qK.out
     have q1 := zc4 qA.out
     have q2 := fun i_ : Nat => z1_ qA.out i_
     have q3 := zc4 qE.out
     have q4 := fun i_ : Nat => z1_ qE.out i_
     go_wp2
     repeat (go_quiet (fail); try go_wp2)
     go_meet
     case rel => exact ⟨_, (true), zT, H', ⟨zO⟩, ⟨zb qA⟩, ⟨zb qE⟩, ⟨zB HB⟩⟩
   ·rw [if_neg c7] at H
    have c7b0 : (qM == qO) = false := beq_eq_false_iff_ne.mpr c7
    have c7b1 : (qM != qO) = true := bne_iff_ne.mpr c7
    have H' := aM H
    clear H
    have jd := qJ.out
    have je := qK.out
    have q5 := zc4 qA.out
    have q6 := fun i_ : Nat => z1_ qA.out i_
    have q7 := zc4 qE.out
    have q8 := fun i_ : Nat => z1_ qE.out i_
    go_wp2
    repeat (go_quiet (fail); try go_wp2)
    go_meet
    case rel => exact ⟨_, (true), zT, H', ⟨zO⟩, ⟨zb qA⟩, ⟨zb qE⟩, ⟨zB HB⟩⟩
  ·rw [if_neg c6] at H
   have c6b0 : (qL == qN) = false := beq_eq_false_iff_ne.mpr c6
   have c6b1 : (qL != qN) = true := bne_iff_ne.mpr c6
   (first | rw [c6b0] | (simp only [i64_w, i32_w]; rw [c6b0]) | skip)
   have H' := aM H
   clear H
   have jf := qJ.out
   have jg := qK.out
   have q9 := zc4 qA.out
   have jA := fun i_ : Nat => z1_ qA.out i_
   have jB := zc4 qE.out
   have jC := fun i_ : Nat => z1_ qE.out i_
   go_wp2
   repeat (go_quiet (fail); try go_wp2)
   go_meet
   case rel => exact ⟨_, (true), zT, H', ⟨zO⟩, ⟨zb qA⟩, ⟨zb qE⟩, ⟨zB HB⟩⟩
 case rest =>
  clear HC3
  obtain ⟨kq, qg, rfl, HA, HJ2, qA, qE, HB⟩ := hcut
  cases kq with
  | zero => exact absurd HA.out (by simp [sP_Same.j0])
  | succ kj2 =>
   have H := HA.out
   clear HA
   simp only [sP_Same.j0] at H
   by_cases c21 : qg = true
   ·subst c21
    have H1 : (some false) = some r := by rw [if_pos rfl] at H; exact H
    clear H
    have H := H1
    clear H1
    obtain rfl := Option.some.inj H
    go_wp2
    repeat (go_quiet (fail); try go_wp2)
    go_ret
    exact ⟨zE, zB HB⟩
   ·replace c21 := Bool.eq_false_iff.mpr c21
    subst c21
    have H1 : (sP_Same.l0 kj2 0 qL qM qB qF qN qO qC qG) = some r := by rw [if_neg (show ¬ (false = true) by decide)] at H; exact H
    clear H
    have H := H1
    clear H1
    have H' := aM H
    clear H
    go_wp2
    repeat (go_quiet (fail); try go_wp2)
    go_loopg [5] kj2 (fun kq v5 w' => ∃ (qD : Int), v5 = .int .i64 qD ∧ Aside0 (sP_Same.l0 kq qD qL qM qB qF qN qO qC qG = some r) ∧ Aside0 (kq ≤ kj2) ∧ Aside0 (w'.heap[qH]? = some (.cells #[.int .i64 qL, .int .i64 qM, (.slice qY qB.length qZ), (.slice qa qF.length qb)] 26 (0, 0))) ∧ Aside0 (w'.heap[qR]? = some (.cells #[.int .i64 qN, .int .i64 qO, (.slice qc qC.length qd), (.slice qe qG.length qf)] 26 (0, 0))) ∧ Aside0 (Below w.heap.size w w'))
    case atStart => exact ⟨(0), zT, H', ⟨Nat.le_refl _⟩, ⟨zb qA⟩, ⟨zb qE⟩, ⟨zB HB⟩⟩
    case round =>
     clear H'
     try clear c21
     obtain ⟨qD, rfl, HA, HK2, qA, qE, HB⟩ := hrel
     cases gk with
     | zero => exact absurd HA.out (by simp [sP_Same.l0])
     | succ k2 =>
      have H := HA.out
      clear HA
      simp only [sP_Same.l0] at H
      by_cases c22 : qD < (qB.length : Int)
      ·rw [if_pos c22] at H
       have c22b0 := decide_eq_true c22
       clear c22
       by_cases c23 : 0 ≤ qD
       ·rw [if_pos c23] at H
        have c23b0 := decide_eq_true c23
        clear c23
        by_cases c24 : qD < (qC.length : Int)
        ·rw [if_pos c24] at H
         have c24b0 := decide_eq_true c24
         clear c24
         by_cases c25 : (!(((rd_T63 qB qD).f0) == ((rd_T63 qC qD).f0)) || (!(((rd_T63 qB qD).f1) == ((rd_T63 qC qD).f1)) || (!(((rd_T63 qB qD).f2) == ((rd_T63 qC qD).f2)) || (!(((rd_T63 qB qD).f3) == ((rd_T63 qC qD).f3)) || (!(((rd_T63 qB qD).f4) == ((rd_T63 qC qD).f4))))))) = true
         ·rw [if_pos c25] at H
          have c25b0 : (!(((rd_T63 qB qD).f0) == ((rd_T63 qC qD).f0)) || (!(((rd_T63 qB qD).f1) == ((rd_T63 qC qD).f1)) || (!(((rd_T63 qB qD).f2) == ((rd_T63 qC qD).f2)) || (!(((rd_T63 qB qD).f3) == ((rd_T63 qC qD).f3)) || (!(((rd_T63 qB qD).f4) == ((rd_T63 qC qD).f4))))))) = true := c25
          clear c25
          obtain rfl := Option.some.inj H
          have jh := qJ.out
          have ji := qK.out
          have jD := zc4 qA.out
          have jE := fun i_ : Nat => z1_ qA.out i_
          have p445 : 0 ≤ (qD : Int) := of_decide_eq_true za
          have q445 : qD < (qB.length : Int) := of_decide_eq_true za
          obtain ⟨ad445, e445, hx445_0, hx445_1, hx445_2, hx445_3, hx445_4⟩ := at_T63 qp.out qD p445 q445
          cases e445
          replace hx445_0 := (HB.out.cell (World.block_lt_of_cell? w _ hx445_0)).trans hx445_0
          replace hx445_1 := (HB.out.cell (World.block_lt_of_cell? w _ hx445_1)).trans hx445_1
          replace hx445_2 := (HB.out.cell (World.block_lt_of_cell? w _ hx445_2)).trans hx445_2
          replace hx445_3 := (HB.out.cell (World.block_lt_of_cell? w _ hx445_3)).trans hx445_3
          replace hx445_4 := (HB.out.cell (World.block_lt_of_cell? w _ hx445_4)).trans hx445_4
          replace p445 := eq_true p445
          replace q445 := eq_true q445
          have jF := zc4 qE.out
          have jG := fun i_ : Nat => z1_ qE.out i_
          have p446 : 0 ≤ (qD : Int) := of_decide_eq_true za
          have q446 : qD < (qC.length : Int) := of_decide_eq_true za
          obtain ⟨ad446, e446, hx446_0, hx446_1, hx446_2, hx446_3, hx446_4⟩ := at_T63 qr.out qD p446 q446
          cases e446
          replace hx446_0 := (HB.out.cell (World.block_lt_of_cell? w _ hx446_0)).trans hx446_0
          replace hx446_1 := (HB.out.cell (World.block_lt_of_cell? w _ hx446_1)).trans hx446_1
          replace hx446_2 := (HB.out.cell (World.block_lt_of_cell? w _ hx446_2)).trans hx446_2
          replace hx446_3 := (HB.out.cell (World.block_lt_of_cell? w _ hx446_3)).trans hx446_3
          replace hx446_4 := (HB.out.cell (World.block_lt_of_cell? w _ hx446_4)).trans hx446_4
          replace p446 := eq_true p446
          replace q446 := eq_true q446
          go_wp2
          repeat (go_quiet (fail); try go_wp2)
          go_ret
          exact ⟨zE, zB HB⟩
         ·rw [if_neg c25] at H
          have c25b0 : (!(((rd_T63 qB qD).f0) == ((rd_T63 qC qD).f0)) || (!(((rd_T63 qB qD).f1) == ((rd_T63 qC qD).f1)) || (!(((rd_T63 qB qD).f2) == ((rd_T63 qC qD).f2)) || (!(((rd_T63 qB qD).f3) == ((rd_T63 qC qD).f3)) || (!(((rd_T63 qB qD).f4) == ((rd_T63 qC qD).f4))))))) = false := by simpa using c25
          clear c25
          have H' := aM H
          clear H
          have jj := qJ.out
          have jk := qK.out
          have jH := zc4 qA.out
          have jI := fun i_ : Nat => z1_ qA.out i_
          have p445 : 0 ≤ (qD : Int) := of_decide_eq_true za
          have q445 : qD < (qB.length : Int) := of_decide_eq_true za
          obtain ⟨ad445, e445, hx445_0, hx445_1, hx445_2, hx445_3, hx445_4⟩ := at_T63 qp.out qD p445 q445
          cases e445
          replace hx445_0 := (HB.out.cell (World.block_lt_of_cell? w _ hx445_0)).trans hx445_0
          replace hx445_1 := (HB.out.cell (World.block_lt_of_cell? w _ hx445_1)).trans hx445_1
          replace hx445_2 := (HB.out.cell (World.block_lt_of_cell? w _ hx445_2)).trans hx445_2
          replace hx445_3 := (HB.out.cell (World.block_lt_of_cell? w _ hx445_3)).trans hx445_3
          replace hx445_4 := (HB.out.cell (World.block_lt_of_cell? w _ hx445_4)).trans hx445_4
          replace p445 := eq_true p445
          replace q445 := eq_true q445
          have jJ := zc4 qE.out
          have jK := fun i_ : Nat => z1_ qE.out i_
          have p446 : 0 ≤ (qD : Int) := of_decide_eq_true za
          have q446 : qD < (qC.length : Int) := of_decide_eq_true za
          obtain ⟨ad446, e446, hx446_0, hx446_1, hx446_2, hx446_3, hx446_4⟩ := at_T63 qr.out qD p446 q446
          cases e446
          replace hx446_0 := (HB.out.cell (World.block_lt_of_cell? w _ hx446_0)).trans hx446_0
          replace hx446_1 := (HB.out.cell (World.block_lt_of_cell? w _ hx446_1)).trans hx446_1
          replace hx446_2 := (HB.out.cell (World.block_lt_of_cell? w _ hx446_2)).trans hx446_2
          replace hx446_3 := (HB.out.cell (World.block_lt_of_cell? w _ hx446_3)).trans hx446_3
          replace hx446_4 := (HB.out.cell (World.block_lt_of_cell? w _ hx446_4)).trans hx446_4
          replace p446 := eq_true p446
          replace q446 := eq_true q446
          go_wp2
          repeat (go_quiet (fail); try go_wp2)
          go_roundg k2
          case measure => have := HJ2.out; have := HK2.out; omega
          case rel => exact ⟨(wrap64 (qD + 1)), zT, H', ⟨by have := HJ2.out; have := HK2.out; omega⟩, ⟨zb qA⟩, ⟨zb qE⟩, ⟨zB HB⟩⟩
        ·rw [if_neg c24] at H
         exact absurd H (by simp)
       ·rw [if_neg c23] at H
        exact absurd H (by simp)
      ·rw [if_neg c22] at H
       have c22b0 := decide_eq_false c22
       clear c22
       have H' := aM H
       clear H
       have jl := qJ.out
       have jm := qK.out
       have jL := zc4 qA.out
       have jM := fun i_ : Nat => z1_ qA.out i_
       go_wp2
       repeat (go_quiet (fail); try go_wp2)
       go_loopg [6] k2 (fun kq v6 w' => ∃ (qI : Int), v6 = .int .i64 qI ∧ Aside0 (sP_Same.l1 kq qI qL qM qB qF qN qO qC qG = some r) ∧ Aside0 (kq ≤ k2) ∧ Aside0 (w'.heap[qH]? = some (.cells #[.int .i64 qL, .int .i64 qM, (.slice qY qB.length qZ), (.slice qa qF.length qb)] 26 (0, 0))) ∧ Aside0 (w'.heap[qR]? = some (.cells #[.int .i64 qN, .int .i64 qO, (.slice qc qC.length qd), (.slice qe qG.length qf)] 26 (0, 0))) ∧ Aside0 (Below w.heap.size w w'))
       case atStart => exact ⟨(0), zT, H', ⟨Nat.le_refl _⟩, ⟨zb qA⟩, ⟨zb qE⟩, ⟨zB HB⟩⟩
       case round =>
        clear H'
        try clear c21
        try clear c22
        obtain ⟨qI, rfl, HA, HK3, qA, qE, HB⟩ := hrel
        cases gk with
        | zero => exact absurd HA.out (by simp [sP_Same.l1])
        | succ k3 =>
         have H := HA.out
         clear HA
         simp only [sP_Same.l1] at H
         by_cases c34 : qI < (qF.length : Int)
         ·rw [if_pos c34] at H
          have c34b0 := decide_eq_true c34
          clear c34
          by_cases c35 : 0 ≤ qI
          ·rw [if_pos c35] at H
           have c35b0 := decide_eq_true c35
           clear c35
           by_cases c36 : qI < (qG.length : Int)
           ·rw [if_pos c36] at H
            have c36b0 := decide_eq_true c36
            clear c36
            by_cases c37 : (rd qF qI) = (rd qG qI)
            ·rw [if_pos c37] at H
             have c37b0 : ((rd qF qI) == (rd qG qI)) = true := beq_iff_eq.mpr c37
             have c37b1 : ((rd qF qI) != (rd qG qI)) = false := bne_eq_false_iff_eq.mpr c37
             clear c37
             have H' := aM H
             clear H
             have jn := qJ.out
             have jo := qK.out
             have jN := zc4 qA.out
             have jO := fun i_ : Nat => z1_ qA.out i_
             have p447 : 0 ≤ (qI : Int) := of_decide_eq_true za
             have q447 : qI < (qF.length : Int) := of_decide_eq_true za
             obtain ⟨ad447, e447, hx447_0⟩ := Kd.at_int qq.out qI p447 q447
             cases e447
             replace hx447_0 := (HB.out.cell (World.block_lt_of_cell? w _ hx447_0)).trans hx447_0
             replace p447 := eq_true p447
             replace q447 := eq_true q447
             have jP := zc4 qE.out
             have jQ := fun i_ : Nat => z1_ qE.out i_
             have p448 : 0 ≤ (qI : Int) := of_decide_eq_true za
             have q448 : qI < (qG.length : Int) := of_decide_eq_true za
             obtain ⟨ad448, e448, hx448_0⟩ := Kd.at_int qs.out qI p448 q448
             cases e448
             replace hx448_0 := (HB.out.cell (World.block_lt_of_cell? w _ hx448_0)).trans hx448_0
             replace p448 := eq_true p448
             replace q448 := eq_true q448
             go_wp2
             repeat (go_quiet (fail); try go_wp2)
             go_roundg k3
             case measure => have := HJ2.out; have := HK2.out; have := HK3.out; omega
             case rel => exact ⟨(wrap64 (qI + 1)), zT, H', ⟨by have := HJ2.out; have := HK2.out; have := HK3.out; omega⟩, ⟨zb qA⟩, ⟨zb qE⟩, ⟨zB HB⟩⟩
            ·rw [if_neg c37] at H
             have c37b0 : ((rd qF qI) == (rd qG qI)) = false := beq_eq_false_iff_ne.mpr c37
             have c37b1 : ((rd qF qI) != (rd qG qI)) = true := bne_iff_ne.mpr c37
             obtain rfl := Option.some.inj H
             have jp := qJ.out
             have jq := qK.out
             have jR := zc4 qA.out
             have jS := fun i_ : Nat => z1_ qA.out i_
             have p447 : 0 ≤ (qI : Int) := of_decide_eq_true za
             have q447 : qI < (qF.length : Int) := of_decide_eq_true za
             obtain ⟨ad447, e447, hx447_0⟩ := Kd.at_int qq.out qI p447 q447
             cases e447
             replace hx447_0 := (HB.out.cell (World.block_lt_of_cell? w _ hx447_0)).trans hx447_0
             replace p447 := eq_true p447
             replace q447 := eq_true q447
             have jT := zc4 qE.out
             have jU := fun i_ : Nat => z1_ qE.out i_
             have p448 : 0 ≤ (qI : Int) := of_decide_eq_true za
             have q448 : qI < (qG.length : Int) := of_decide_eq_true za
             obtain ⟨ad448, e448, hx448_0⟩ := Kd.at_int qs.out qI p448 q448
             cases e448
             replace hx448_0 := (HB.out.cell (World.block_lt_of_cell? w _ hx448_0)).trans hx448_0
             replace p448 := eq_true p448
             replace q448 := eq_true q448
             go_wp2
             repeat (go_quiet (fail); try go_wp2)
             go_ret
             exact ⟨zE, zB HB⟩
           ·rw [if_neg c36] at H
            exact absurd H (by simp)
          ·rw [if_neg c35] at H
           exact absurd H (by simp)
         ·rw [if_neg c34] at H
          have c34b0 := decide_eq_false c34
          clear c34
          obtain rfl := Option.some.inj H
          have jr := qJ.out
          have js := qK.out
          have jV := zc4 qA.out
          have jW := fun i_ : Nat => z1_ qA.out i_
          go_wp2
          repeat (go_quiet (fail); try go_wp2)
          go_ret
          exact ⟨zE, zB HB⟩
end Go.Proofs.Ytccbdcbeinkjgaa.XA
end
