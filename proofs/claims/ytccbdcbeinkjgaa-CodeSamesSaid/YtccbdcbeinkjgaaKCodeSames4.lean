/- Part 4 of the proof of the law CodeSames for every input: words, walks and plain laws. No condition. -/
import Derived.Lib.SlBytesConst
import Derived.Test.YtccbdcbeinkjgaaKCodeSames3
section
namespace Go.Proofs.Ytccbdcbeinkjgaa.XA
open Go.Proofs.Ytccbdcbeinkjgaa.Lift Go.RowKit Go.Proofs.YtccbdcbeinkjgaaW.PrintWords Go.Proofs.YtccbdcbeinkjgaaW.PrintLast Go.Proofs.YtccbdcbeinkjgaaW.PrintMore
attribute [local go_sem] max2_int min2_int max_two min_two max_three min_three max_four min_four
set_option linter.unusedVariables false
set_option linter.unusedSimpArgs false

/-! ### prog_Check: function 39 -/
mutual
def prog_Check.j0 : Nat → Bool → Int → Int → List (S63) → List Int → Option (Int × Int)
 | 0, _, _, _, _, _ => none
 | k + 1, x40, qP, qK, qL, qM => if x40 = true then (some ((-1), 80)) else (prog_Check.l0 k qM (qM.length : Int) 0 qP qK qL qM)
def prog_Check.l0 : Nat → List Int → Int → Int → Int → Int → List (S63) → List Int → Option (Int × Int)
 | 0, _, _, _, _, _, _, _ => none
 | k + 1, x42, x43, x44, qP, qK, qL, qM => if x44 < x43 then (if 0 ≤ x44 then (if x44 < (x42.length : Int) then (if (rd x42 x44) < 0 then (some ((-1), 80)) else (if (rd x42 x44) ≥ qK then (some ((-1), 80)) else (prog_Check.l0 k x42 x43 (wrap64 (x44 + 1)) qP qK qL qM))) else (none)) else (none)) else (prog_Check.l1 k qL (qL.length : Int) 0 qP qK qL qM)
def prog_Check.l1 : Nat → List (S63) → Int → Int → Int → Int → List (S63) → List Int → Option (Int × Int)
 | 0, _, _, _, _, _, _, _ => none
 | k + 1, x58, x59, x60, qP, qK, qL, qM => if x60 < x59 then (if 0 ≤ x60 then (if x60 < (x58.length : Int) then ((prog_may.f k ((rd_T63 x58 x60).f0) ((rd_T63 x58 x60).f1) ((rd_T63 x58 x60).f2) ((rd_T63 x58 x60).f3) ((rd_T63 x58 x60).f4) qK).bind fun qX => (if qX = true then (prog_Check.l1 k x58 x59 (wrap64 (x60 + 1)) qP qK qL qM) else (some (x60, 80)))) else (none)) else (none)) else (some (0, 0))
end
def prog_Check.f (k : Nat) (qF : Int) (qE : Int) (qA : List (S63)) (qD : List Int) : Option (Int × Int) := if qF < 1 then (prog_Check.j0 k true qF qE qA qD) else (if qF > qE then (prog_Check.j0 k true qF qE qA qD) else (if qE > 128 then (prog_Check.j0 k true qF qE qA qD) else (if (qA.length : Int) > 16384 then (prog_Check.j0 k true qF qE qA qD) else (if (qD.length : Int) < 1 then (prog_Check.j0 k true qF qE qA qD) else (prog_Check.j0 k (decide (128 < qD.length)) qF qE qA qD)))))
theorem prog_Check.mono_l : ∀ k, (∀ y0 y1 y2 y3 y4, LeO (prog_Check.j0 k y0 y1 y2 y3 y4) (prog_Check.j0 (k + 1) y0 y1 y2 y3 y4)) ∧ (∀ y0 y1 y2 y3 y4 y5 y6, LeO (prog_Check.l0 k y0 y1 y2 y3 y4 y5 y6) (prog_Check.l0 (k + 1) y0 y1 y2 y3 y4 y5 y6)) ∧ (∀ y0 y1 y2 y3 y4 y5 y6, LeO (prog_Check.l1 k y0 y1 y2 y3 y4 y5 y6) (prog_Check.l1 (k + 1) y0 y1 y2 y3 y4 y5 y6))
 | 0 => ⟨fun _ _ _ _ _ r h => by simp [prog_Check.j0] at h, fun _ _ _ _ _ _ _ r h => by simp [prog_Check.l0] at h, fun _ _ _ _ _ _ _ r h => by simp [prog_Check.l1] at h⟩
 | k + 1 => by
  obtain ⟨ih0, ih1, ih2⟩ := prog_Check.mono_l k
  refine ⟨?_, ?_, ?_⟩
  ·intro y0 y1 y2 y3 y4
   unfold prog_Check.j0
   repeat' first
   | (with_reducible exact ih0 ..)
   | (with_reducible exact ih1 ..)
   | (with_reducible exact ih2 ..)
   | (with_reducible exact prog_may.mono _ _ _ _ _ _ _)
   | (with_reducible exact LeO.refl _)
   | (with_reducible exact LeO.none _)
   | (with_reducible refine LeO.ite ?_ ?_)
   | (with_reducible refine LeO.bind ?_ (fun _ => ?_))
   | exact ih0 _ _ _ _ _
   | exact ih1 _ _ _ _ _ _ _
   | exact ih2 _ _ _ _ _ _ _
   | exact prog_may.mono _ _ _ _ _ _ _
   | exact LeO.none _
   | refine LeO.ite ?_ ?_
   | refine LeO.bind ?_ (fun _ => ?_)
  ·intro y0 y1 y2 y3 y4 y5 y6
   unfold prog_Check.l0
   repeat' first
   | (with_reducible exact ih0 ..)
   | (with_reducible exact ih1 ..)
   | (with_reducible exact ih2 ..)
   | (with_reducible exact prog_may.mono _ _ _ _ _ _ _)
   | (with_reducible exact LeO.refl _)
   | (with_reducible exact LeO.none _)
   | (with_reducible refine LeO.ite ?_ ?_)
   | (with_reducible refine LeO.bind ?_ (fun _ => ?_))
   | exact ih0 _ _ _ _ _
   | exact ih1 _ _ _ _ _ _ _
   | exact ih2 _ _ _ _ _ _ _
   | exact prog_may.mono _ _ _ _ _ _ _
   | exact LeO.none _
   | refine LeO.ite ?_ ?_
   | refine LeO.bind ?_ (fun _ => ?_)
  ·intro y0 y1 y2 y3 y4 y5 y6
   unfold prog_Check.l1
   repeat' first
   | (with_reducible exact ih0 ..)
   | (with_reducible exact ih1 ..)
   | (with_reducible exact ih2 ..)
   | (with_reducible exact prog_may.mono _ _ _ _ _ _ _)
   | (with_reducible exact LeO.refl _)
   | (with_reducible exact LeO.none _)
   | (with_reducible refine LeO.ite ?_ ?_)
   | (with_reducible refine LeO.bind ?_ (fun _ => ?_))
   | exact ih0 _ _ _ _ _
   | exact ih1 _ _ _ _ _ _ _
   | exact ih2 _ _ _ _ _ _ _
   | exact prog_may.mono _ _ _ _ _ _ _
   | exact LeO.none _
   | refine LeO.ite ?_ ?_
   | refine LeO.bind ?_ (fun _ => ?_)
theorem prog_Check.mono : ∀ a0 a1 a2 a3 k, LeO (prog_Check.f k a0 a1 a2 a3) (prog_Check.f (k + 1) a0 a1 a2 a3) := by
 intro a0 a1 a2 a3 k
 obtain ⟨ih0, ih1, ih2⟩ := prog_Check.mono_l k
 unfold prog_Check.f
 repeat' first
   | (with_reducible exact ih0 ..)
   | (with_reducible exact ih1 ..)
   | (with_reducible exact ih2 ..)
   | (with_reducible exact prog_may.mono _ _ _ _ _ _ _)
   | (with_reducible exact LeO.refl _)
   | (with_reducible exact LeO.none _)
   | (with_reducible refine LeO.ite ?_ ?_)
   | (with_reducible refine LeO.bind ?_ (fun _ => ?_))
   | exact ih0 _ _ _ _ _
   | exact ih1 _ _ _ _ _ _ _
   | exact ih2 _ _ _ _ _ _ _
   | exact prog_may.mono _ _ _ _ _ _ _
   | exact LeO.none _
   | refine LeO.ite ?_ ?_
   | refine LeO.bind ?_ (fun _ => ?_)
set_option maxHeartbeats 8000000 in
set_option maxRecDepth 100000 in
theorem prog_Check.calls (k : Nat) (qF : Int) (qE : Int) (qV : Option Addr) (qQ : Nat) (qA : List (S63)) (qR : Option Addr) (qS : Nat) (qD : List Int) (r1 : Int) (r2 : Int) (w : World) (qZ : Kd.C k63 w qV qA.length qA) (qa : qA.length ≤ qQ) (qb : Kd.C (Kd.int .i64) w qR qD.length qD) (qc : qD.length ≤ qS) (h : prog_Check.f k qF qE qA qD = some (r1, r2)) :
  Calls Try.prog 39 #[.agg #[.int .i64 qF, .int .i64 qE, .slice qV qA.length qQ, .slice qR qD.length qS]] w fun e w' => e = .returned (.tuple #[.int .i64 r1, .int .i64 r2]) ∧ Below w.heap.size w w' := by
 have hu26 := Try.underlying26
 have hu63 := Try.underlying63
 have qd := aM qZ
 have q7 := aM qa
 clear qZ qa
 have qY := aM qb
 have q8 := aM qc
 clear qb qc
 have HB := aM (Below.refl w.heap.size w)
 have H : (if qF < 1 then (prog_Check.j0 k true qF qE qA qD) else (if qF > qE then (prog_Check.j0 k true qF qE qA qD) else (if qE > 128 then (prog_Check.j0 k true qF qE qA qD) else (if (qA.length : Int) > 16384 then (prog_Check.j0 k true qF qE qA qD) else (if (qD.length : Int) < 1 then (prog_Check.j0 k true qF qE qA qD) else (prog_Check.j0 k (decide (128 < qD.length)) qF qE qA qD)))))) = some (r1, r2) := h
 clear h
 have HC2 := aM H
 clear H
 go_enter Try.func39, Try.ntmps39
 go_upto_region 1 with (first | ((with_reducible refine gate_dst (N := 1) rfl ?_); (try (refine gate_guard (by rfl) ?_; dsimp only)); refine box_event ?hg (N := 1) ?hd (cs := #[.int .i64 qF, .int .i64 qE, .slice qV qA.length qQ, .slice qR qD.length qS]) (t := 26) ?hr ?_; (case hd => rfl); (case hg => rfl); (case hr => first | (go_simp; done) | (go_simp; rfl)); intro qJ hg w3 hbox hb; have qC := aM (hbox); have q9 := aM ((by rw [hg]; exact (below_size (lB HB)) : w.heap.size ≤ qJ)); have qI := aM ((by rw [hg]; exact (below_size (lB HB)) : w.heap.size ≤ qJ)); replace HB := aM (below_step (lB HB) hb); clear hb hbox hg))
 (try simp only [Act.put, List.setIfInBounds_toArray, List.set_cons_zero, List.set_cons_succ])
 go_cut [40] (fun v40 wc => ∃ (kq : Nat) (qW : Bool), v40 = .bool qW ∧ Aside0 (prog_Check.j0 kq qW qF qE qA qD = some (r1, r2)) ∧ Aside0 (kq ≤ k) ∧ Aside0 (wc.heap[qJ]? = some (.cells #[.int .i64 qF, .int .i64 qE, (.slice qV qA.length qQ), (.slice qR qD.length qS)] 26 (0, 0))) ∧ Aside0 (Below w.heap.size w wc))
 case first =>
  have H := HC2.out
  clear HC2
  by_cases c4 : qF < 1
  ·rw [if_pos c4] at H
   have c4b0 : decide (qF < 1) = true := decide_eq_true c4
   clear c4
   (first | rw [c4b0] | (simp only [i64_w, i32_w]; rw [c4b0]) | skip)
   have H' := aM H
   clear H
   have q1 := zc4 qC.out
   have q2 := fun i_ : Nat => blk_frozen qC.out i_
   go_wp2
   go_meet
   case rel => exact ⟨_, (true), (by first | rfl | (simp; done) | (simp [*]; done)), H', ⟨by first | omega | exact Nat.le_refl _⟩, ⟨by refine lZ ?_; exact qC.out⟩, ⟨by repeat (first | (with_reducible first | exact HB.out | apply below_alloc | apply pw_below_drewN | apply below_drew1 | refine below_set ?_ qI.out) | exact HB.out)⟩⟩
  ·rw [if_neg c4] at H
   have c4b0 : decide (qF < 1) = false := decide_eq_false c4
   clear c4
   (first | rw [c4b0] | (simp only [i64_w, i32_w]; rw [c4b0]) | skip)
   by_cases c6 : qF > qE
   ·rw [if_pos c6] at H
    have c6b0 : decide (qE < qF) = true := decide_eq_true c6
    clear c6
    have H' := aM H
    clear H
    have q3 := zc4 qC.out
    have q4 := fun i_ : Nat => blk_frozen qC.out i_
    go_wp2
    go_meet
    case rel => exact ⟨_, (true), (by first | rfl | (simp; done) | (simp [*]; done)), H', ⟨by first | omega | exact Nat.le_refl _⟩, ⟨by refine lZ ?_; exact qC.out⟩, ⟨by repeat (first | (with_reducible first | exact HB.out | apply below_alloc | apply pw_below_drewN | apply below_drew1 | refine below_set ?_ qI.out) | exact HB.out)⟩⟩
   ·rw [if_neg c6] at H
    have c6b0 : decide (qE < qF) = false := decide_eq_false c6
    clear c6
    by_cases c8 : qE > 128
    ·rw [if_pos c8] at H
     have c8b0 : decide (128 < qE) = true := decide_eq_true c8
     clear c8
     have H' := aM H
     clear H
     have q5 := zc4 qC.out
     have q6 := fun i_ : Nat => blk_frozen qC.out i_
     go_wp2
     go_meet
     case rel => exact ⟨_, (true), (by first | rfl | (simp; done) | (simp [*]; done)), H', ⟨by first | omega | exact Nat.le_refl _⟩, ⟨by refine lZ ?_; exact qC.out⟩, ⟨by repeat (first | (with_reducible first | exact HB.out | apply below_alloc | apply pw_below_drewN | apply below_drew1 | refine below_set ?_ qI.out) | exact HB.out)⟩⟩
    ·rw [if_neg c8] at H
     have c8b0 : decide (128 < qE) = false := decide_eq_false c8
     clear c8
     by_cases c10 : (qA.length : Int) > 16384
     ·rw [if_pos c10] at H
      have c10b0 : decide (16384 < (qA.length : Int)) = true := decide_eq_true c10
      have c10b1 : decide (16384 < qA.length) = true := decide_eq_true (by omega)
      clear c10
      have H' := aM H
      clear H
      have qf := zc4 qC.out
      have qg := fun i_ : Nat => blk_frozen qC.out i_
      go_wp2
      go_meet
      case rel => exact ⟨_, (true), (by first | rfl | (simp; done) | (simp [*]; done)), H', ⟨by first | omega | exact Nat.le_refl _⟩, ⟨by refine lZ ?_; exact qC.out⟩, ⟨by repeat (first | (with_reducible first | exact HB.out | apply below_alloc | apply pw_below_drewN | apply below_drew1 | refine below_set ?_ qI.out) | exact HB.out)⟩⟩
     ·rw [if_neg c10] at H
      have c10b0 : decide (16384 < (qA.length : Int)) = false := decide_eq_false c10
      have c10b1 : decide (16384 < qA.length) = false := decide_eq_false (by omega)
      clear c10
      by_cases c12 : (qD.length : Int) < 1
      ·rw [if_pos c12] at H
       have c12b0 : decide ((qD.length : Int) < 1) = true := decide_eq_true c12
       have c12b1 : decide (qD.length < 1) = true := decide_eq_true (by omega)
       clear c12
       have H' := aM H
       clear H
       have qh := zc4 qC.out
       have qi := fun i_ : Nat => blk_frozen qC.out i_
       go_wp2
       go_meet
       case rel => exact ⟨_, (true), (by first | rfl | (simp; done) | (simp [*]; done)), H', ⟨by first | omega | exact Nat.le_refl _⟩, ⟨by refine lZ ?_; exact qC.out⟩, ⟨by repeat (first | (with_reducible first | exact HB.out | apply below_alloc | apply pw_below_drewN | apply below_drew1 | refine below_set ?_ qI.out) | exact HB.out)⟩⟩
      ·rw [if_neg c12] at H
       have c12b0 : decide ((qD.length : Int) < 1) = false := decide_eq_false c12
       have c12b1 : decide (qD.length < 1) = false := decide_eq_false (by omega)
       clear c12
       have H' := aM H
       clear H
       have qj := zc4 qC.out
       have qk := fun i_ : Nat => blk_frozen qC.out i_
       go_wp2
       go_meet
       case rel => exact ⟨_, (decide (128 < qD.length)), (by first | rfl | (simp; done) | (simp [*]; done) | (simp; omega)), H', ⟨by first | omega | exact Nat.le_refl _⟩, ⟨by refine lZ ?_; exact qC.out⟩, ⟨by repeat (first | (with_reducible first | exact HB.out | apply below_alloc | apply pw_below_drewN | apply below_drew1 | refine below_set ?_ qI.out) | exact HB.out)⟩⟩
 case rest =>
  clear HC2
  obtain ⟨kq, qW, rfl, HA, HJ1, qC, HB⟩ := hcut
  cases kq with
  | zero => exact absurd HA.out (by simp [prog_Check.j0])
  | succ kj1 =>
   have H := HA.out
   clear HA
   simp only [prog_Check.j0] at H
   by_cases c15 : qW = true
   ·subst c15
    have H1 : (some ((-1), 80)) = some (r1, r2) := by rw [if_pos rfl] at H; exact H
    clear H
    have H := H1
    clear H1
    simp only [Option.some.injEq, Prod.mk.injEq] at H
    obtain ⟨rfl, rfl⟩ := H
    go_wp2
    go_ret2
    exact ⟨by first | rfl | (simp [errW_none, errW_some] <;> rfl) | (simp [*, errW_none, errW_some] <;> rfl), by repeat (first | (with_reducible first | exact HB.out | apply below_alloc | apply pw_below_drewN | apply below_drew1 | refine below_set ?_ qI.out) | exact HB.out)⟩
   ·replace c15 := Bool.eq_false_iff.mpr c15
    subst c15
    have H1 : (prog_Check.l0 kj1 qD (qD.length : Int) 0 qF qE qA qD) = some (r1, r2) := by rw [if_neg (show ¬ (false = true) by decide)] at H; exact H
    clear H
    have H := H1
    clear H1
    have H' := aM H
    clear H
    have ql := zc4 qC.out
    have qm := fun i_ : Nat => blk_frozen qC.out i_
    go_wp2
    go_loopg [44] kj1 (fun kq v44 w' => ∃ (qG : Int), v44 = .int .i64 qG ∧ Aside0 (prog_Check.l0 kq qD (qD.length : Int) qG qF qE qA qD = some (r1, r2)) ∧ Aside0 (kq ≤ kj1) ∧ Aside0 (w'.heap[qJ]? = some (.cells #[.int .i64 qF, .int .i64 qE, (.slice qV qA.length qQ), (.slice qR qD.length qS)] 26 (0, 0))) ∧ Aside0 (Below w.heap.size w w'))
    case atStart => exact ⟨(0), (by first | rfl | (simp; done) | (simp [*]; done)), H', ⟨Nat.le_refl _⟩, ⟨by refine lZ ?_; exact qC.out⟩, ⟨by repeat (first | (with_reducible first | exact HB.out | apply below_alloc | apply pw_below_drewN | apply below_drew1 | refine below_set ?_ qI.out) | exact HB.out)⟩⟩
    case round =>
     clear H'
     try clear c15
     obtain ⟨qG, rfl, HA, HK2, qC, HB⟩ := hrel
     cases gk with
     | zero => exact absurd HA.out (by simp [prog_Check.l0])
     | succ k2 =>
      have H := HA.out
      clear HA
      simp only [prog_Check.l0] at H
      by_cases c17 : qG < (qD.length : Int)
      ·rw [if_pos c17] at H
       have c17b0 : decide (qG < (qD.length : Int)) = true := decide_eq_true c17
       clear c17
       by_cases c18 : 0 ≤ qG
       ·rw [if_pos c18] at H
        have c18b0 : decide (0 ≤ qG) = true := decide_eq_true c18
        clear c18
        by_cases c19 : qG < (qD.length : Int)
        ·rw [if_pos c19] at H
         have c19b0 : decide (qG < (qD.length : Int)) = true := decide_eq_true c19
         clear c19
         by_cases c20 : (rd qD qG) < 0
         ·rw [if_pos c20] at H
          have c20b0 : decide ((rd qD qG) < 0) = true := decide_eq_true c20
          clear c20
          simp only [Option.some.injEq, Prod.mk.injEq] at H
          obtain ⟨rfl, rfl⟩ := H
          have p136 : 0 ≤ (qG : Int) := of_decide_eq_true (by first | (with_reducible assumption) | assumption)
          have q136 : qG < (qD.length : Int) := of_decide_eq_true (by first | (with_reducible assumption) | assumption)
          obtain ⟨ad136, e136, hx136_0⟩ := Kd.at_int qY.out qG p136 q136
          cases e136
          replace hx136_0 := (HB.out.cell (World.block_lt_of_cell? w _ hx136_0)).trans hx136_0
          replace p136 := eq_true p136
          replace q136 := eq_true q136
          go_wp2
          go_ret2
          exact ⟨by first | rfl | (simp [errW_none, errW_some] <;> rfl) | (simp [*, errW_none, errW_some] <;> rfl), by repeat (first | (with_reducible first | exact HB.out | apply below_alloc | apply pw_below_drewN | apply below_drew1 | refine below_set ?_ qI.out) | exact HB.out)⟩
         ·rw [if_neg c20] at H
          have c20b0 : decide ((rd qD qG) < 0) = false := decide_eq_false c20
          clear c20
          by_cases c21 : (rd qD qG) ≥ qE
          ·rw [if_pos c21] at H
           have c21b0 : decide (qE ≤ (rd qD qG)) = true := decide_eq_true c21
           clear c21
           simp only [Option.some.injEq, Prod.mk.injEq] at H
           obtain ⟨rfl, rfl⟩ := H
           have p136 : 0 ≤ (qG : Int) := of_decide_eq_true (by first | (with_reducible assumption) | assumption)
           have q136 : qG < (qD.length : Int) := of_decide_eq_true (by first | (with_reducible assumption) | assumption)
           obtain ⟨ad136, e136, hx136_0⟩ := Kd.at_int qY.out qG p136 q136
           cases e136
           replace hx136_0 := (HB.out.cell (World.block_lt_of_cell? w _ hx136_0)).trans hx136_0
           replace p136 := eq_true p136
           replace q136 := eq_true q136
           have qn := zc4 qC.out
           have qo := fun i_ : Nat => blk_frozen qC.out i_
           go_wp2
           go_ret2
           exact ⟨by first | rfl | (simp [errW_none, errW_some] <;> rfl) | (simp [*, errW_none, errW_some] <;> rfl), by repeat (first | (with_reducible first | exact HB.out | apply below_alloc | apply pw_below_drewN | apply below_drew1 | refine below_set ?_ qI.out) | exact HB.out)⟩
          ·rw [if_neg c21] at H
           have c21b0 : decide (qE ≤ (rd qD qG)) = false := decide_eq_false c21
           clear c21
           have H' := aM H
           clear H
           have p136 : 0 ≤ (qG : Int) := of_decide_eq_true (by first | (with_reducible assumption) | assumption)
           have q136 : qG < (qD.length : Int) := of_decide_eq_true (by first | (with_reducible assumption) | assumption)
           obtain ⟨ad136, e136, hx136_0⟩ := Kd.at_int qY.out qG p136 q136
           cases e136
           replace hx136_0 := (HB.out.cell (World.block_lt_of_cell? w _ hx136_0)).trans hx136_0
           replace p136 := eq_true p136
           replace q136 := eq_true q136
           have qp := zc4 qC.out
           have qq := fun i_ : Nat => blk_frozen qC.out i_
           go_wp2
           go_roundg k2
           case measure => have := HJ1.out; have := HK2.out; omega
           case rel => exact ⟨(wrap64 (qG + 1)), (by first | rfl | (simp; done) | (simp [*]; done)), H', ⟨by have := HJ1.out; have := HK2.out; omega⟩, ⟨by refine lZ ?_; exact qC.out⟩, ⟨by repeat (first | (with_reducible first | exact HB.out | apply below_alloc | apply pw_below_drewN | apply below_drew1 | refine below_set ?_ qI.out) | exact HB.out)⟩⟩
        ·rw [if_neg c19] at H
         exact absurd H (by simp)
       ·rw [if_neg c18] at H
        exact absurd H (by simp)
      ·rw [if_neg c17] at H
       have c17b0 : decide (qG < (qD.length : Int)) = false := decide_eq_false c17
       clear c17
       have H' := aM H
       clear H
       have qr := zc4 qC.out
       have qs := fun i_ : Nat => blk_frozen qC.out i_
       go_wp2
       go_loopg [60] k2 (fun kq v60 w' => ∃ (qB : Int), v60 = .int .i64 qB ∧ Aside0 (prog_Check.l1 kq qA (qA.length : Int) qB qF qE qA qD = some (r1, r2)) ∧ Aside0 (kq ≤ k2) ∧ Aside0 (w'.heap[qJ]? = some (.cells #[.int .i64 qF, .int .i64 qE, (.slice qV qA.length qQ), (.slice qR qD.length qS)] 26 (0, 0))) ∧ Aside0 (Below w.heap.size w w'))
       case atStart => exact ⟨(0), (by first | rfl | (simp; done) | (simp [*]; done)), H', ⟨Nat.le_refl _⟩, ⟨by refine lZ ?_; exact qC.out⟩, ⟨by repeat (first | (with_reducible first | exact HB.out | apply below_alloc | apply pw_below_drewN | apply below_drew1 | refine below_set ?_ qI.out) | exact HB.out)⟩⟩
       case round =>
        clear H'
        try clear c15
        try clear c17
        obtain ⟨qB, rfl, HA, HK3, qC, HB⟩ := hrel
        cases gk with
        | zero => exact absurd HA.out (by simp [prog_Check.l1])
        | succ k3 =>
         have H := HA.out
         clear HA
         simp only [prog_Check.l1] at H
         by_cases c25 : qB < (qA.length : Int)
         ·rw [if_pos c25] at H
          have c25b0 : decide (qB < (qA.length : Int)) = true := decide_eq_true c25
          clear c25
          by_cases c26 : 0 ≤ qB
          ·rw [if_pos c26] at H
           have c26b0 : decide (0 ≤ qB) = true := decide_eq_true c26
           clear c26
           by_cases c27 : qB < (qA.length : Int)
           ·rw [if_pos c27] at H
            have c27b0 : decide (qB < (qA.length : Int)) = true := decide_eq_true c27
            clear c27
            replace H := Option.bind_eq_some_iff.mp H
            obtain ⟨qX, A280, H⟩ := H
            replace H : (if qX = true then (prog_Check.l1 k3 qA (qA.length : Int) (wrap64 (qB + 1)) qF qE qA qD) else (some (qB, 80))) = some (r1, r2) := H
            have A28 := aM A280
            clear A280
            by_cases c29 : qX = true
            ·subst c29
             have H1 : (prog_Check.l1 k3 qA (qA.length : Int) (wrap64 (qB + 1)) qF qE qA qD) = some (r1, r2) := by rw [if_pos rfl] at H; exact H
             clear H
             have H := H1
             clear H1
             have H' := aM H
             clear H
             have p137 : 0 ≤ (qB : Int) := of_decide_eq_true (by first | (with_reducible assumption) | assumption)
             have q137 : qB < (qA.length : Int) := of_decide_eq_true (by first | (with_reducible assumption) | assumption)
             obtain ⟨ad137, e137, hx137_0, hx137_1, hx137_2, hx137_3, hx137_4⟩ := at_T63 qd.out qB p137 q137
             cases e137
             replace hx137_0 := (HB.out.cell (World.block_lt_of_cell? w _ hx137_0)).trans hx137_0
             replace hx137_1 := (HB.out.cell (World.block_lt_of_cell? w _ hx137_1)).trans hx137_1
             replace hx137_2 := (HB.out.cell (World.block_lt_of_cell? w _ hx137_2)).trans hx137_2
             replace hx137_3 := (HB.out.cell (World.block_lt_of_cell? w _ hx137_3)).trans hx137_3
             replace hx137_4 := (HB.out.cell (World.block_lt_of_cell? w _ hx137_4)).trans hx137_4
             replace p137 := eq_true p137
             replace q137 := eq_true q137
             go_wp2_with (first | ((with_reducible refine gate_dst (N := 7) rfl ?_); (try (refine gate_guard (by rfl) ?_; dsimp only)); refine box_event ?hg (N := 7) ?hd (cs := #[.int .i64 0, .int .i64 0, .int .i64 0, .int .i64 0, .int .i64 0]) (t := 63) ?hr ?_; (case hd => rfl); (case hg => rfl); (case hr => first | (go_simp; done) | (go_simp; rfl)); intro qN hg w30 hbox hb; have qO := aM (hbox); have qe := aM ((by rw [hg]; exact (below_size (by have := GEc.mk qI.out; exact lS HB)) : w.heap.size ≤ qN)); have qU := aM ((by rw [hg]; exact (below_size (by have := GEc.mk qI.out; exact lS HB)) : w.heap.size ≤ qN)); replace HB := aM (below_step (by have := GEc.mk qI.out; exact lS HB) hb); have qH := aM ((by rw [hg]; exact Nat.ne_of_lt (blk_lt (g := qJ) (lK qC)) : qJ ≠ qN)); have qT := aM ((by rw [hg]; exact Nat.ne_of_gt (blk_lt (g := qJ) (lK qC)) : qN ≠ qJ)); replace qC := aM (blk_below (g := qJ) (lK qC) hb); clear hb hbox hg; have jA := qT.out; have jB := qH.out; have qt := zc5 qO.out; have qu := fun i_ : Nat => blk_frozen qO.out i_; have qv := zc4 qC.out; have qw := fun i_ : Nat => blk_frozen qC.out i_) | ((with_reducible refine gate_callee (f := 58) rfl ?_); refine goesL_ (some 68) rfl rfl Try.func58 (by kernel_rfl) rfl #[.agg #[.int .i64 ((rd_T63 qA qB).f0), .int .i64 ((rd_T63 qA qB).f1), .int .i64 ((rd_T63 qA qB).f2), .int .i64 ((rd_T63 qA qB).f3), .int .i64 ((rd_T63 qA qB).f4)], .int .i64 qE] rfl (by (try simp only [List.map_toArray, List.map_cons, List.map_nil]); first | done | rfl | (simp only [List.length_drop, List.length_take]; rfl)) ?_; (with_reducible refine (prog_may.calls k3 ((rd_T63 qA qB).f0) ((rd_T63 qA qB).f1) ((rd_T63 qA qB).f2) ((rd_T63 qA qB).f3) ((rd_T63 qA qB).f4) qE true _ A28.out).mono ?_); rintro e w34 ⟨rfl, hb⟩; refine ⟨_, rfl, ?_⟩; replace qC := aM (blk_below (g := qJ) (o := .cells #[.int .i64 qF, .int .i64 qE, .slice (some ad137) qA.length qQ, .slice qR qD.length qS] 26 (0, 0)) (by refine lZ ?_; refine blk_far ?_ qH.out _; refine lZ ?_; refine blk_far ?_ qH.out _; refine lZ ?_; refine blk_far ?_ qH.out _; refine lZ ?_; refine blk_far ?_ qH.out _; refine lZ ?_; refine blk_far ?_ qH.out _; refine lZ ?_; exact qC.out) hb); replace qO := aM (blk_below (g := qN) (o := .cells #[.int .i64 ((rd_T63 qA qB).f0), .int .i64 ((rd_T63 qA qB).f1), .int .i64 ((rd_T63 qA qB).f2), .int .i64 ((rd_T63 qA qB).f3), .int .i64 ((rd_T63 qA qB).f4)] 63 (0, 0)) (by refine lZ ?_; refine blk_put (cs := #[.int .i64 ((rd_T63 qA qB).f0), .int .i64 ((rd_T63 qA qB).f1), .int .i64 ((rd_T63 qA qB).f2), .int .i64 ((rd_T63 qA qB).f3), .int .i64 0]) ?_ 4 _ rfl; refine lZ ?_; refine blk_put (cs := #[.int .i64 ((rd_T63 qA qB).f0), .int .i64 ((rd_T63 qA qB).f1), .int .i64 ((rd_T63 qA qB).f2), .int .i64 0, .int .i64 0]) ?_ 3 _ rfl; refine lZ ?_; refine blk_put (cs := #[.int .i64 ((rd_T63 qA qB).f0), .int .i64 ((rd_T63 qA qB).f1), .int .i64 0, .int .i64 0, .int .i64 0]) ?_ 2 _ rfl; refine lZ ?_; refine blk_put (cs := #[.int .i64 ((rd_T63 qA qB).f0), .int .i64 0, .int .i64 0, .int .i64 0, .int .i64 0]) ?_ 1 _ rfl; refine lZ ?_; refine blk_put (cs := #[.int .i64 0, .int .i64 0, .int .i64 0, .int .i64 0, .int .i64 0]) ?_ 0 _ rfl; refine lZ ?_; exact qO.out) hb); replace HB := aM (below_step (by have := GEc.mk qI.out; have := GEc.mk qU.out; exact lS HB) hb); (try clear hb); (try clear hb2); (try clear hk); (try clear hi)))
             go_roundg k3
             case measure => have := HJ1.out; have := HK2.out; have := HK3.out; omega
             case rel => exact ⟨(wrap64 (qB + 1)), (by first | rfl | (simp; done) | (simp [*]; done)), H', ⟨by have := HJ1.out; have := HK2.out; have := HK3.out; omega⟩, ⟨by refine lZ ?_; exact qC.out⟩, ⟨by repeat (first | (with_reducible first | exact HB.out | apply below_alloc | apply pw_below_drewN | apply below_drew1 | refine below_set ?_ qI.out | refine below_set ?_ qU.out) | exact HB.out)⟩⟩
            ·replace c29 := Bool.eq_false_iff.mpr c29
             subst c29
             have H1 : (some (qB, 80)) = some (r1, r2) := by rw [if_neg (show ¬ (false = true) by decide)] at H; exact H
             clear H
             have H := H1
             clear H1
             simp only [Option.some.injEq, Prod.mk.injEq] at H
             obtain ⟨rfl, rfl⟩ := H
             have p137 : 0 ≤ (qB : Int) := of_decide_eq_true (by first | (with_reducible assumption) | assumption)
             have q137 : qB < (qA.length : Int) := of_decide_eq_true (by first | (with_reducible assumption) | assumption)
             obtain ⟨ad137, e137, hx137_0, hx137_1, hx137_2, hx137_3, hx137_4⟩ := at_T63 qd.out qB p137 q137
             cases e137
             replace hx137_0 := (HB.out.cell (World.block_lt_of_cell? w _ hx137_0)).trans hx137_0
             replace hx137_1 := (HB.out.cell (World.block_lt_of_cell? w _ hx137_1)).trans hx137_1
             replace hx137_2 := (HB.out.cell (World.block_lt_of_cell? w _ hx137_2)).trans hx137_2
             replace hx137_3 := (HB.out.cell (World.block_lt_of_cell? w _ hx137_3)).trans hx137_3
             replace hx137_4 := (HB.out.cell (World.block_lt_of_cell? w _ hx137_4)).trans hx137_4
             replace p137 := eq_true p137
             replace q137 := eq_true q137
             go_wp2_with (first | ((with_reducible refine gate_dst (N := 7) rfl ?_); (try (refine gate_guard (by rfl) ?_; dsimp only)); refine box_event ?hg (N := 7) ?hd (cs := #[.int .i64 0, .int .i64 0, .int .i64 0, .int .i64 0, .int .i64 0]) (t := 63) ?hr ?_; (case hd => rfl); (case hg => rfl); (case hr => first | (go_simp; done) | (go_simp; rfl)); intro qN hg w35 hbox hb; have qO := aM (hbox); have qe := aM ((by rw [hg]; exact (below_size (by have := GEc.mk qI.out; exact lS HB)) : w.heap.size ≤ qN)); have qU := aM ((by rw [hg]; exact (below_size (by have := GEc.mk qI.out; exact lS HB)) : w.heap.size ≤ qN)); replace HB := aM (below_step (by have := GEc.mk qI.out; exact lS HB) hb); have qH := aM ((by rw [hg]; exact Nat.ne_of_lt (blk_lt (g := qJ) (lK qC)) : qJ ≠ qN)); have qT := aM ((by rw [hg]; exact Nat.ne_of_gt (blk_lt (g := qJ) (lK qC)) : qN ≠ qJ)); replace qC := aM (blk_below (g := qJ) (lK qC) hb); clear hb hbox hg; have jC := qT.out; have jD := qH.out; have qx := zc5 qO.out; have qy := fun i_ : Nat => blk_frozen qO.out i_; have qz := zc4 qC.out; have q0 := fun i_ : Nat => blk_frozen qC.out i_) | ((with_reducible refine gate_callee (f := 58) rfl ?_); refine goesL_ (some 68) rfl rfl Try.func58 (by kernel_rfl) rfl #[.agg #[.int .i64 ((rd_T63 qA qB).f0), .int .i64 ((rd_T63 qA qB).f1), .int .i64 ((rd_T63 qA qB).f2), .int .i64 ((rd_T63 qA qB).f3), .int .i64 ((rd_T63 qA qB).f4)], .int .i64 qE] rfl (by (try simp only [List.map_toArray, List.map_cons, List.map_nil]); first | done | rfl | (simp only [List.length_drop, List.length_take]; rfl)) ?_; (with_reducible refine (prog_may.calls k3 ((rd_T63 qA qB).f0) ((rd_T63 qA qB).f1) ((rd_T63 qA qB).f2) ((rd_T63 qA qB).f3) ((rd_T63 qA qB).f4) qE false _ A28.out).mono ?_); rintro e w39 ⟨rfl, hb⟩; refine ⟨_, rfl, ?_⟩; replace qC := aM (blk_below (g := qJ) (o := .cells #[.int .i64 qF, .int .i64 qE, .slice (some ad137) qA.length qQ, .slice qR qD.length qS] 26 (0, 0)) (by refine lZ ?_; refine blk_far ?_ qH.out _; refine lZ ?_; refine blk_far ?_ qH.out _; refine lZ ?_; refine blk_far ?_ qH.out _; refine lZ ?_; refine blk_far ?_ qH.out _; refine lZ ?_; refine blk_far ?_ qH.out _; refine lZ ?_; exact qC.out) hb); replace qO := aM (blk_below (g := qN) (o := .cells #[.int .i64 ((rd_T63 qA qB).f0), .int .i64 ((rd_T63 qA qB).f1), .int .i64 ((rd_T63 qA qB).f2), .int .i64 ((rd_T63 qA qB).f3), .int .i64 ((rd_T63 qA qB).f4)] 63 (0, 0)) (by refine lZ ?_; refine blk_put (cs := #[.int .i64 ((rd_T63 qA qB).f0), .int .i64 ((rd_T63 qA qB).f1), .int .i64 ((rd_T63 qA qB).f2), .int .i64 ((rd_T63 qA qB).f3), .int .i64 0]) ?_ 4 _ rfl; refine lZ ?_; refine blk_put (cs := #[.int .i64 ((rd_T63 qA qB).f0), .int .i64 ((rd_T63 qA qB).f1), .int .i64 ((rd_T63 qA qB).f2), .int .i64 0, .int .i64 0]) ?_ 3 _ rfl; refine lZ ?_; refine blk_put (cs := #[.int .i64 ((rd_T63 qA qB).f0), .int .i64 ((rd_T63 qA qB).f1), .int .i64 0, .int .i64 0, .int .i64 0]) ?_ 2 _ rfl; refine lZ ?_; refine blk_put (cs := #[.int .i64 ((rd_T63 qA qB).f0), .int .i64 0, .int .i64 0, .int .i64 0, .int .i64 0]) ?_ 1 _ rfl; refine lZ ?_; refine blk_put (cs := #[.int .i64 0, .int .i64 0, .int .i64 0, .int .i64 0, .int .i64 0]) ?_ 0 _ rfl; refine lZ ?_; exact qO.out) hb); replace HB := aM (below_step (by have := GEc.mk qI.out; have := GEc.mk qU.out; exact lS HB) hb); (try clear hb); (try clear hb2); (try clear hk); (try clear hi)))
             go_ret2
             exact ⟨by first | rfl | (simp [errW_none, errW_some] <;> rfl) | (simp [*, errW_none, errW_some] <;> rfl), by repeat (first | (with_reducible first | exact HB.out | apply below_alloc | apply pw_below_drewN | apply below_drew1 | refine below_set ?_ qI.out | refine below_set ?_ qU.out) | exact HB.out)⟩
           ·rw [if_neg c27] at H
            exact absurd H (by simp)
          ·rw [if_neg c26] at H
           exact absurd H (by simp)
         ·rw [if_neg c25] at H
          have c25b0 : decide (qB < (qA.length : Int)) = false := decide_eq_false c25
          clear c25
          simp only [Option.some.injEq, Prod.mk.injEq] at H
          obtain ⟨rfl, rfl⟩ := H
          go_wp2
          go_ret2
          exact ⟨by first | rfl | (simp [errW_none, errW_some] <;> rfl) | (simp [*, errW_none, errW_some] <;> rfl), by repeat (first | (with_reducible first | exact HB.out | apply below_alloc | apply pw_below_drewN | apply below_drew1 | refine below_set ?_ qI.out) | exact HB.out)⟩

end Go.Proofs.Ytccbdcbeinkjgaa.XA
end

section
namespace Go.Proofs.Ytccbdcbeinkjgaa.XA
open Go.Proofs.Ytccbdcbeinkjgaa.Lift Go.RowKit Go.Proofs.YtccbdcbeinkjgaaW.PrintWords Go.Proofs.YtccbdcbeinkjgaaW.PrintLast Go.Proofs.YtccbdcbeinkjgaaW.PrintMore
attribute [local go_sem] max2_int min2_int max_two min_two max_three min_three max_four min_four
set_option linter.unusedVariables false
set_option linter.unusedSimpArgs false

/-! ### code_May: function 20 -/
mutual
def code_May.j0 : Nat → Bool → Int → Int → List (S48) → Int → Int → List (S63) → List Int → Int → Int → List (S63) → List Int → Int → Int → List (S63) → List Int → Option (Int)
 | 0, _, _, _, _, _, _, _, _, _, _, _, _, _, _, _, _ => none
 | k + 1, x32, qh, qi, qT, qV, qW, qX, qY, qZ, qa, qb, qc, qd, qe, qf, qg => if x32 = true then (some 2) else (code_May.l0 k qT (qT.length : Int) 0 qh qi qT qV qW qX qY qZ qa qb qc qd qe qf qg)
def code_May.l0 : Nat → List (S48) → Int → Int → Int → Int → List (S48) → Int → Int → List (S63) → List Int → Int → Int → List (S63) → List Int → Int → Int → List (S63) → List Int → Option (Int)
 | 0, _, _, _, _, _, _, _, _, _, _, _, _, _, _, _, _, _, _ => none
 | k + 1, x34, x35, x36, qh, qi, qT, qV, qW, qX, qY, qZ, qa, qb, qc, qd, qe, qf, qg => if x36 < x35 then (if 0 ≤ x36 then (if x36 < (x34.length : Int) then ((point_In.f ((rd_T48 x34 x36).f0) ((rd_T48 x34 x36).f1)).bind fun q6 => (if q6 = true then (code_May.l0 k x34 x35 (wrap64 (x36 + 1)) qh qi qT qV qW qX qY qZ qa qb qc qd qe qf qg) else (some 2))) else (none)) else (none)) else ((code_programs.f 140).bind fun jY => (code_May.l1 k 0 qh qi qT qV qW qX qY qZ qa qb qc qd qe qf qg))
def code_May.l1 : Nat → Int → Int → Int → List (S48) → Int → Int → List (S63) → List Int → Int → Int → List (S63) → List Int → Int → Int → List (S63) → List Int → Option (Int)
 | 0, _, _, _, _, _, _, _, _, _, _, _, _, _, _, _, _ => none
 | k + 1, x45, qh, qi, qT, qV, qW, qX, qY, qZ, qa, qb, qc, qd, qe, qf, qg => if x45 < 3 then (if x45 = 0 then ((prog_Check.f k qV qW qX qY).bind fun bt145 => (if bt145.2 = 0 then (code_May.l1 k (0 + 1) qh qi qT qV qW qX qY qZ qa qb qc qd qe qf qg) else (some bt145.2))) else (if x45 = 1 then ((prog_Check.f k qZ qa qb qc).bind fun bt147 => (if bt147.2 = 0 then (code_May.l1 k (1 + 1) qh qi qT qV qW qX qY qZ qa qb qc qd qe qf qg) else (some bt147.2))) else (if x45 = 2 then ((prog_Check.f k qd qe qf qg).bind fun bt149 => (if bt149.2 = 0 then (code_May.l1 k (2 + 1) qh qi qT qV qW qX qY qZ qa qb qc qd qe qf qg) else (some bt149.2))) else (none)))) else (some 0)
end
def code_May.f (k : Nat) (qJ : Int) (qK : Int) (qB : List (S48)) (qO : Int) (qP : Int) (qL : List (S63)) (qM : List Int) (qQ : Int) (qR : Int) (qN : List (S63)) (qC : List Int) (qF : Int) (qG : Int) (qD : List (S63)) (qE : List Int) : Option (Int) := if qJ < 1 then (code_May.j0 k true qJ qK qB qO qP qL qM qQ qR qN qC qF qG qD qE) else (if qK < 1 then (code_May.j0 k true qJ qK qB qO qP qL qM qQ qR qN qC qF qG qD qE) else (if qJ > 8 then (code_May.j0 k true qJ qK qB qO qP qL qM qQ qR qN qC qF qG qD qE) else (if qK > 8 then (code_May.j0 k true qJ qK qB qO qP qL qM qQ qR qN qC qF qG qD qE) else (code_May.j0 k (decide (255 < qB.length)) qJ qK qB qO qP qL qM qQ qR qN qC qF qG qD qE))))
theorem code_May.mono_l : ∀ k, (∀ y0 y1 y2 y3 y4 y5 y6 y7 y8 y9 y10 y11 y12 y13 y14 y15, LeO (code_May.j0 k y0 y1 y2 y3 y4 y5 y6 y7 y8 y9 y10 y11 y12 y13 y14 y15) (code_May.j0 (k + 1) y0 y1 y2 y3 y4 y5 y6 y7 y8 y9 y10 y11 y12 y13 y14 y15)) ∧ (∀ y0 y1 y2 y3 y4 y5 y6 y7 y8 y9 y10 y11 y12 y13 y14 y15 y16 y17, LeO (code_May.l0 k y0 y1 y2 y3 y4 y5 y6 y7 y8 y9 y10 y11 y12 y13 y14 y15 y16 y17) (code_May.l0 (k + 1) y0 y1 y2 y3 y4 y5 y6 y7 y8 y9 y10 y11 y12 y13 y14 y15 y16 y17)) ∧ (∀ y0 y1 y2 y3 y4 y5 y6 y7 y8 y9 y10 y11 y12 y13 y14 y15, LeO (code_May.l1 k y0 y1 y2 y3 y4 y5 y6 y7 y8 y9 y10 y11 y12 y13 y14 y15) (code_May.l1 (k + 1) y0 y1 y2 y3 y4 y5 y6 y7 y8 y9 y10 y11 y12 y13 y14 y15))
 | 0 => ⟨fun _ _ _ _ _ _ _ _ _ _ _ _ _ _ _ _ r h => by simp [code_May.j0] at h, fun _ _ _ _ _ _ _ _ _ _ _ _ _ _ _ _ _ _ r h => by simp [code_May.l0] at h, fun _ _ _ _ _ _ _ _ _ _ _ _ _ _ _ _ r h => by simp [code_May.l1] at h⟩
 | k + 1 => by
  obtain ⟨ih0, ih1, ih2⟩ := code_May.mono_l k
  refine ⟨?_, ?_, ?_⟩
  ·intro y0 y1 y2 y3 y4 y5 y6 y7 y8 y9 y10 y11 y12 y13 y14 y15
   unfold code_May.j0
   repeat' first
   | (with_reducible exact ih0 ..)
   | (with_reducible exact ih1 ..)
   | (with_reducible exact ih2 ..)
   | (with_reducible exact prog_Check.mono _ _ _ _ _)
   | (with_reducible exact LeO.refl _)
   | (with_reducible exact LeO.none _)
   | (with_reducible refine LeO.ite ?_ ?_)
   | (with_reducible refine LeO.bind ?_ (fun _ => ?_))
   | exact ih0 _ _ _ _ _ _ _ _ _ _ _ _ _ _ _ _
   | exact ih1 _ _ _ _ _ _ _ _ _ _ _ _ _ _ _ _ _ _
   | exact ih2 _ _ _ _ _ _ _ _ _ _ _ _ _ _ _ _
   | exact prog_Check.mono _ _ _ _ _
   | exact LeO.none _
   | refine LeO.ite ?_ ?_
   | refine LeO.bind ?_ (fun _ => ?_)
  ·intro y0 y1 y2 y3 y4 y5 y6 y7 y8 y9 y10 y11 y12 y13 y14 y15 y16 y17
   unfold code_May.l0
   repeat' first
   | (with_reducible exact ih0 ..)
   | (with_reducible exact ih1 ..)
   | (with_reducible exact ih2 ..)
   | (with_reducible exact prog_Check.mono _ _ _ _ _)
   | (with_reducible exact LeO.refl _)
   | (with_reducible exact LeO.none _)
   | (with_reducible refine LeO.ite ?_ ?_)
   | (with_reducible refine LeO.bind ?_ (fun _ => ?_))
   | exact ih0 _ _ _ _ _ _ _ _ _ _ _ _ _ _ _ _
   | exact ih1 _ _ _ _ _ _ _ _ _ _ _ _ _ _ _ _ _ _
   | exact ih2 _ _ _ _ _ _ _ _ _ _ _ _ _ _ _ _
   | exact prog_Check.mono _ _ _ _ _
   | exact LeO.none _
   | refine LeO.ite ?_ ?_
   | refine LeO.bind ?_ (fun _ => ?_)
  ·intro y0 y1 y2 y3 y4 y5 y6 y7 y8 y9 y10 y11 y12 y13 y14 y15
   unfold code_May.l1
   repeat' first
   | (with_reducible exact ih0 ..)
   | (with_reducible exact ih1 ..)
   | (with_reducible exact ih2 ..)
   | (with_reducible exact prog_Check.mono _ _ _ _ _)
   | (with_reducible exact LeO.refl _)
   | (with_reducible exact LeO.none _)
   | (with_reducible refine LeO.ite ?_ ?_)
   | (with_reducible refine LeO.bind ?_ (fun _ => ?_))
   | exact ih0 _ _ _ _ _ _ _ _ _ _ _ _ _ _ _ _
   | exact ih1 _ _ _ _ _ _ _ _ _ _ _ _ _ _ _ _ _ _
   | exact ih2 _ _ _ _ _ _ _ _ _ _ _ _ _ _ _ _
   | exact prog_Check.mono _ _ _ _ _
   | exact LeO.none _
   | refine LeO.ite ?_ ?_
   | refine LeO.bind ?_ (fun _ => ?_)
theorem code_May.mono : ∀ a0 a1 a2 a3 a4 a5 a6 a7 a8 a9 a10 a11 a12 a13 a14 k, LeO (code_May.f k a0 a1 a2 a3 a4 a5 a6 a7 a8 a9 a10 a11 a12 a13 a14) (code_May.f (k + 1) a0 a1 a2 a3 a4 a5 a6 a7 a8 a9 a10 a11 a12 a13 a14) := by
 intro a0 a1 a2 a3 a4 a5 a6 a7 a8 a9 a10 a11 a12 a13 a14 k
 obtain ⟨ih0, ih1, ih2⟩ := code_May.mono_l k
 unfold code_May.f
 repeat' first
   | (with_reducible exact ih0 ..)
   | (with_reducible exact ih1 ..)
   | (with_reducible exact ih2 ..)
   | (with_reducible exact prog_Check.mono _ _ _ _ _)
   | (with_reducible exact LeO.refl _)
   | (with_reducible exact LeO.none _)
   | (with_reducible refine LeO.ite ?_ ?_)
   | (with_reducible refine LeO.bind ?_ (fun _ => ?_))
   | exact ih0 _ _ _ _ _ _ _ _ _ _ _ _ _ _ _ _
   | exact ih1 _ _ _ _ _ _ _ _ _ _ _ _ _ _ _ _ _ _
   | exact ih2 _ _ _ _ _ _ _ _ _ _ _ _ _ _ _ _
   | exact prog_Check.mono _ _ _ _ _
   | exact LeO.none _
   | refine LeO.ite ?_ ?_
   | refine LeO.bind ?_ (fun _ => ?_)
set_option maxHeartbeats 8000000 in
set_option maxRecDepth 100000 in
theorem code_May.calls (k : Nat) (qJ : Int) (qK : Int) (q4 : Option Addr) (q1 : Nat) (qB : List (S48)) (qO : Int) (qP : Int) (qs : Option Addr) (qt : Nat) (qL : List (S63)) (qu : Option Addr) (qv : Nat) (qM : List Int) (qQ : Int) (qR : Int) (qw : Option Addr) (qx : Nat) (qN : List (S63)) (qk : Option Addr) (ql : Nat) (qC : List Int) (qF : Int) (qG : Int) (qm : Option Addr) (qn : Nat) (qD : List (S63)) (qo : Option Addr) (qp : Nat) (qE : List Int) (r : Int) (w : World) (jJ : Kd.C k48 w q4 qB.length qB) (jK : qB.length ≤ q1) (jL : Kd.C k63 w qs qL.length qL) (jM : qL.length ≤ qt) (jN : Kd.C (Kd.int .i64) w qu qM.length qM) (jO : qM.length ≤ qv) (jP : Kd.C k63 w qw qN.length qN) (jQ : qN.length ≤ qx) (q7 : Kd.C (Kd.int .i64) w qk qC.length qC) (q8 : qC.length ≤ ql) (q9 : Kd.C k63 w qm qD.length qD) (jA : qD.length ≤ qn) (jB : Kd.C (Kd.int .i64) w qo qE.length qE) (jC : qE.length ≤ qp) (h : code_May.f k qJ qK qB qO qP qL qM qQ qR qN qC qF qG qD qE = some r) :
  Calls Try.prog 20 #[.agg #[.int .i64 qJ, .int .i64 qK, .slice q4 qB.length q1, .int .i64 qO, .int .i64 qP, .slice qs qL.length qt, .slice qu qM.length qv, .int .i64 qQ, .int .i64 qR, .slice qw qN.length qx, .slice qk qC.length ql, .int .i64 qF, .int .i64 qG, .slice qm qD.length qn, .slice qo qE.length qp]] w fun e w' => e = .returned (.int .i64 r) ∧ Below w.heap.size w w' := by
 have hu28 := Try.underlying28
 have hu48 := Try.underlying48
 have hu26 := Try.underlying26
 have jR := aM jJ
 have j9 := aM jK
 clear jJ jK
 have jS := aM jL
 have jT := aM jM
 clear jL jM
 have jU := aM jN
 have jV := aM jO
 clear jN jO
 have jW := aM jP
 have jX := aM jQ
 clear jP jQ
 have jD := aM q7
 have jE := aM q8
 clear q7 q8
 have jF := aM q9
 have jG := aM jA
 clear q9 jA
 have jH := aM jB
 have jI := aM jC
 clear jB jC
 have HB := aM (Below.refl w.heap.size w)
 have H : (if qJ < 1 then (code_May.j0 k true qJ qK qB qO qP qL qM qQ qR qN qC qF qG qD qE) else (if qK < 1 then (code_May.j0 k true qJ qK qB qO qP qL qM qQ qR qN qC qF qG qD qE) else (if qJ > 8 then (code_May.j0 k true qJ qK qB qO qP qL qM qQ qR qN qC qF qG qD qE) else (if qK > 8 then (code_May.j0 k true qJ qK qB qO qP qL qM qQ qR qN qC qF qG qD qE) else (code_May.j0 k (decide (255 < qB.length)) qJ qK qB qO qP qL qM qQ qR qN qC qF qG qD qE))))) = some r := h
 clear h
 have HC2 := aM H
 clear H
 have jd : ∀ (g_ : Nat) (W : World), Sem.run Try.prog (Instr.index 58 (.agg #[.pointer (some ⟨g_, 3, none⟩), .pointer (some ⟨g_, 7, none⟩), .pointer (some ⟨g_, 11, none⟩)]) (.int .i64 0)) W = .ok (.pointer (some ⟨g_, 3, none⟩)) W := fun _ _ => by kernel_rfl
 have je : ∀ (g_ : Nat) (W : World), Sem.run Try.prog (Instr.index 58 (.agg #[.pointer (some ⟨g_, 3, none⟩), .pointer (some ⟨g_, 7, none⟩), .pointer (some ⟨g_, 11, none⟩)]) (.int .i64 1)) W = .ok (.pointer (some ⟨g_, 7, none⟩)) W := fun _ _ => by kernel_rfl
 have jf : ∀ (g_ : Nat) (W : World), Sem.run Try.prog (Instr.index 58 (.agg #[.pointer (some ⟨g_, 3, none⟩), .pointer (some ⟨g_, 7, none⟩), .pointer (some ⟨g_, 11, none⟩)]) (.int .i64 2)) W = .ok (.pointer (some ⟨g_, 11, none⟩)) W := fun _ _ => by kernel_rfl
 go_enter Try.func20, Try.ntmps20
 go_upto_region 1 with (first | ((with_reducible refine gate_dst (N := 1) rfl ?_); (try (refine gate_guard (by rfl) ?_; dsimp only)); refine box_event ?hg (N := 1) ?hd (cs := #[.int .i64 qJ, .int .i64 qK, .slice q4 qB.length q1, .int .i64 qO, .int .i64 qP, .slice qs qL.length qt, .slice qu qM.length qv, .int .i64 qQ, .int .i64 qR, .slice qw qN.length qx, .slice qk qC.length ql, .int .i64 qF, .int .i64 qG, .slice qm qD.length qn, .slice qo qE.length qp]) (t := 28) ?hr ?_; (case hd => rfl); (case hg => rfl); (case hr => first | (go_simp; done) | (go_simp; rfl)); intro qS hg w3 hbox hb; have qA := aM (hbox); have yA := aM ((by rw [hg]; exact (below_size (lB HB)) : w.heap.size ≤ qS)); have qI := aM ((by rw [hg]; exact (below_size (lB HB)) : w.heap.size ≤ qS)); replace HB := aM (below_step (lB HB) hb); clear hb hbox hg))
 (try simp only [Act.put, List.setIfInBounds_toArray, List.set_cons_zero, List.set_cons_succ])
 go_cut [32] (fun v32 wc => ∃ (kq : Nat) (q5 : Bool), v32 = .bool q5 ∧ Aside0 (code_May.j0 kq q5 qJ qK qB qO qP qL qM qQ qR qN qC qF qG qD qE = some r) ∧ Aside0 (kq ≤ k) ∧ Aside0 (wc.heap[qS]? = some (.cells #[.int .i64 qJ, .int .i64 qK, (.slice q4 qB.length q1), .int .i64 qO, .int .i64 qP, (.slice qs qL.length qt), (.slice qu qM.length qv), .int .i64 qQ, .int .i64 qR, (.slice qw qN.length qx), (.slice qk qC.length ql), .int .i64 qF, .int .i64 qG, (.slice qm qD.length qn), (.slice qo qE.length qp)] 28 (0, 0))) ∧ Aside0 (Below w.heap.size w wc))
 case first =>
  have H := HC2.out
  clear HC2
  by_cases c4 : qJ < 1
  ·rw [if_pos c4] at H
   have c4b0 : decide (qJ < 1) = true := decide_eq_true c4
   clear c4
   (first | rw [c4b0] | (simp only [i64_w, i32_w]; rw [c4b0]) | skip)
   have H' := aM H
   clear H
   have j3 := zc15 qA.out
   have j4 := fun i_ : Nat => blk_frozen qA.out i_
   go_wp2
   go_meet
   case rel => exact ⟨_, (true), (by first | rfl | (simp; done) | (simp [*]; done)), H', ⟨by first | omega | exact Nat.le_refl _⟩, ⟨by refine lZ ?_; exact qA.out⟩, ⟨by repeat (first | (with_reducible first | exact HB.out | apply below_alloc | apply pw_below_drewN | apply below_drew1 | refine below_set ?_ qI.out) | exact HB.out)⟩⟩
  ·rw [if_neg c4] at H
   have c4b0 : decide (qJ < 1) = false := decide_eq_false c4
   clear c4
   (first | rw [c4b0] | (simp only [i64_w, i32_w]; rw [c4b0]) | skip)
   by_cases c6 : qK < 1
   ·rw [if_pos c6] at H
    have c6b0 : decide (qK < 1) = true := decide_eq_true c6
    clear c6
    have H' := aM H
    clear H
    have j5 := zc15 qA.out
    have j6 := fun i_ : Nat => blk_frozen qA.out i_
    go_wp2
    go_meet
    case rel => exact ⟨_, (true), (by first | rfl | (simp; done) | (simp [*]; done)), H', ⟨by first | omega | exact Nat.le_refl _⟩, ⟨by refine lZ ?_; exact qA.out⟩, ⟨by repeat (first | (with_reducible first | exact HB.out | apply below_alloc | apply pw_below_drewN | apply below_drew1 | refine below_set ?_ qI.out) | exact HB.out)⟩⟩
   ·rw [if_neg c6] at H
    have c6b0 : decide (qK < 1) = false := decide_eq_false c6
    clear c6
    by_cases c8 : qJ > 8
    ·rw [if_pos c8] at H
     have c8b0 : decide (8 < qJ) = true := decide_eq_true c8
     clear c8
     have H' := aM H
     clear H
     have j7 := zc15 qA.out
     have j8 := fun i_ : Nat => blk_frozen qA.out i_
     go_wp2
     go_meet
     case rel => exact ⟨_, (true), (by first | rfl | (simp; done) | (simp [*]; done)), H', ⟨by first | omega | exact Nat.le_refl _⟩, ⟨by refine lZ ?_; exact qA.out⟩, ⟨by repeat (first | (with_reducible first | exact HB.out | apply below_alloc | apply pw_below_drewN | apply below_drew1 | refine below_set ?_ qI.out) | exact HB.out)⟩⟩
    ·rw [if_neg c8] at H
     have c8b0 : decide (8 < qJ) = false := decide_eq_false c8
     clear c8
     by_cases c10 : qK > 8
     ·rw [if_pos c10] at H
      have c10b0 : decide (8 < qK) = true := decide_eq_true c10
      clear c10
      have H' := aM H
      clear H
      have jg := zc15 qA.out
      have jh := fun i_ : Nat => blk_frozen qA.out i_
      go_wp2
      go_meet
      case rel => exact ⟨_, (true), (by first | rfl | (simp; done) | (simp [*]; done)), H', ⟨by first | omega | exact Nat.le_refl _⟩, ⟨by refine lZ ?_; exact qA.out⟩, ⟨by repeat (first | (with_reducible first | exact HB.out | apply below_alloc | apply pw_below_drewN | apply below_drew1 | refine below_set ?_ qI.out) | exact HB.out)⟩⟩
     ·rw [if_neg c10] at H
      have c10b0 : decide (8 < qK) = false := decide_eq_false c10
      clear c10
      have H' := aM H
      clear H
      have ji := zc15 qA.out
      have jj := fun i_ : Nat => blk_frozen qA.out i_
      go_wp2
      go_meet
      case rel => exact ⟨_, (decide (255 < qB.length)), (by first | rfl | (simp; done) | (simp [*]; done) | (simp; omega)), H', ⟨by first | omega | exact Nat.le_refl _⟩, ⟨by refine lZ ?_; exact qA.out⟩, ⟨by repeat (first | (with_reducible first | exact HB.out | apply below_alloc | apply pw_below_drewN | apply below_drew1 | refine below_set ?_ qI.out) | exact HB.out)⟩⟩
 case rest =>
  clear HC2
  obtain ⟨kq, q5, rfl, HA, HJ1, qA, HB⟩ := hcut
  cases kq with
  | zero => exact absurd HA.out (by simp [code_May.j0])
  | succ kj1 =>
   have H := HA.out
   clear HA
   simp only [code_May.j0] at H
   by_cases c13 : q5 = true
   ·subst c13
    have H1 : (some 2) = some r := by rw [if_pos rfl] at H; exact H
    clear H
    have H := H1
    clear H1
    obtain rfl := Option.some.inj H
    go_wp2
    go_ret
    exact ⟨by first | rfl | (simp [errW_none, errW_some] <;> rfl) | (simp [*, errW_none, errW_some] <;> rfl), by repeat (first | (with_reducible first | exact HB.out | apply below_alloc | apply pw_below_drewN | apply below_drew1 | refine below_set ?_ qI.out) | exact HB.out)⟩
   ·replace c13 := Bool.eq_false_iff.mpr c13
    subst c13
    have H1 : (code_May.l0 kj1 qB (qB.length : Int) 0 qJ qK qB qO qP qL qM qQ qR qN qC qF qG qD qE) = some r := by rw [if_neg (show ¬ (false = true) by decide)] at H; exact H
    clear H
    have H := H1
    clear H1
    have H' := aM H
    clear H
    have jk := zc15 qA.out
    have jl := fun i_ : Nat => blk_frozen qA.out i_
    go_wp2
    go_loopg [36] kj1 (fun kq v36 w' => ∃ (qH : Int), v36 = .int .i64 qH ∧ Aside0 (code_May.l0 kq qB (qB.length : Int) qH qJ qK qB qO qP qL qM qQ qR qN qC qF qG qD qE = some r) ∧ Aside0 (kq ≤ kj1) ∧ Aside0 (w'.heap[qS]? = some (.cells #[.int .i64 qJ, .int .i64 qK, (.slice q4 qB.length q1), .int .i64 qO, .int .i64 qP, (.slice qs qL.length qt), (.slice qu qM.length qv), .int .i64 qQ, .int .i64 qR, (.slice qw qN.length qx), (.slice qk qC.length ql), .int .i64 qF, .int .i64 qG, (.slice qm qD.length qn), (.slice qo qE.length qp)] 28 (0, 0))) ∧ Aside0 (Below w.heap.size w w'))
    case atStart => exact ⟨(0), (by first | rfl | (simp; done) | (simp [*]; done)), H', ⟨Nat.le_refl _⟩, ⟨by refine lZ ?_; exact qA.out⟩, ⟨by repeat (first | (with_reducible first | exact HB.out | apply below_alloc | apply pw_below_drewN | apply below_drew1 | refine below_set ?_ qI.out) | exact HB.out)⟩⟩
    case round =>
     clear H'
     try clear c13
     obtain ⟨qH, rfl, HA, HK2, qA, HB⟩ := hrel
     cases gk with
     | zero => exact absurd HA.out (by simp [code_May.l0])
     | succ k2 =>
      have H := HA.out
      clear HA
      simp only [code_May.l0] at H
      by_cases c15 : qH < (qB.length : Int)
      ·rw [if_pos c15] at H
       have c15b0 : decide (qH < (qB.length : Int)) = true := decide_eq_true c15
       clear c15
       by_cases c16 : 0 ≤ qH
       ·rw [if_pos c16] at H
        have c16b0 : decide (0 ≤ qH) = true := decide_eq_true c16
        clear c16
        by_cases c17 : qH < (qB.length : Int)
        ·rw [if_pos c17] at H
         have c17b0 : decide (qH < (qB.length : Int)) = true := decide_eq_true c17
         clear c17
         replace H := Option.bind_eq_some_iff.mp H
         obtain ⟨q6, A180, H⟩ := H
         replace H : (if q6 = true then (code_May.l0 k2 qB (qB.length : Int) (wrap64 (qH + 1)) qJ qK qB qO qP qL qM qQ qR qN qC qF qG qD qE) else (some 2)) = some r := H
         have A18 := aM A180
         clear A180
         by_cases c19 : q6 = true
         ·subst c19
          have H1 : (code_May.l0 k2 qB (qB.length : Int) (wrap64 (qH + 1)) qJ qK qB qO qP qL qM qQ qR qN qC qF qG qD qE) = some r := by rw [if_pos rfl] at H; exact H
          clear H
          have H := H1
          clear H1
          have H' := aM H
          clear H
          have p141 : 0 ≤ (qH : Int) := of_decide_eq_true (by first | (with_reducible assumption) | assumption)
          have q141 : qH < (qB.length : Int) := of_decide_eq_true (by first | (with_reducible assumption) | assumption)
          obtain ⟨ad141, e141, hx141_0, hx141_1⟩ := at_T48 jR.out qH p141 q141
          cases e141
          replace hx141_0 := (HB.out.cell (World.block_lt_of_cell? w _ hx141_0)).trans hx141_0
          replace hx141_1 := (HB.out.cell (World.block_lt_of_cell? w _ hx141_1)).trans hx141_1
          replace p141 := eq_true p141
          replace q141 := eq_true q141
          go_wp2_with (first | ((with_reducible refine gate_dst (N := 4) rfl ?_); (try (refine gate_guard (by rfl) ?_; dsimp only)); refine box_event ?hg (N := 4) ?hd (cs := #[.int .i64 0, .int .i64 0]) (t := 48) ?hr ?_; (case hd => rfl); (case hg => rfl); (case hr => first | (go_simp; done) | (go_simp; rfl)); intro qj hg w20 hbox hb; have qq := aM (hbox); have jc := aM ((by rw [hg]; exact (below_size (by have := GEc.mk qI.out; exact lS HB)) : w.heap.size ≤ qj)); have q3 := aM ((by rw [hg]; exact (below_size (by have := GEc.mk qI.out; exact lS HB)) : w.heap.size ≤ qj)); replace HB := aM (below_step (by have := GEc.mk qI.out; exact lS HB) hb); have qU := aM ((by rw [hg]; exact Nat.ne_of_lt (blk_lt (g := qS) (lK qA)) : qS ≠ qj)); have q2 := aM ((by rw [hg]; exact Nat.ne_of_gt (blk_lt (g := qS) (lK qA)) : qj ≠ qS)); replace qA := aM (blk_below (g := qS) (lK qA) hb); clear hb hbox hg; have yB := q2.out; have yC := qU.out; have jm := zc2 qq.out; have jn := fun i_ : Nat => blk_frozen qq.out i_) | ((with_reducible refine gate_callee (f := 38) rfl ?_); refine goesL_ (some 41) rfl rfl Try.func38 (by kernel_rfl) rfl #[.agg #[.int .i64 ((rd_T48 qB qH).f0), .int .i64 ((rd_T48 qB qH).f1)]] rfl (by (try simp only [List.map_toArray, List.map_cons, List.map_nil]); first | done | rfl | (simp only [List.length_drop, List.length_take]; rfl)) ?_; (with_reducible refine (point_In.calls ((rd_T48 qB qH).f0) ((rd_T48 qB qH).f1) true _ A18.out).mono ?_); rintro e w23 ⟨rfl, hb⟩; refine ⟨_, rfl, ?_⟩; replace qA := aM (blk_below (g := qS) (o := .cells #[.int .i64 qJ, .int .i64 qK, .slice (some ad141) qB.length q1, .int .i64 qO, .int .i64 qP, .slice qs qL.length qt, .slice qu qM.length qv, .int .i64 qQ, .int .i64 qR, .slice qw qN.length qx, .slice qk qC.length ql, .int .i64 qF, .int .i64 qG, .slice qm qD.length qn, .slice qo qE.length qp] 28 (0, 0)) (by refine lZ ?_; refine blk_far ?_ qU.out _; refine lZ ?_; refine blk_far ?_ qU.out _; refine lZ ?_; exact qA.out) hb); replace qq := aM (blk_below (g := qj) (o := .cells #[.int .i64 ((rd_T48 qB qH).f0), .int .i64 ((rd_T48 qB qH).f1)] 48 (0, 0)) (by refine lZ ?_; refine blk_put (cs := #[.int .i64 ((rd_T48 qB qH).f0), .int .i64 0]) ?_ 1 _ rfl; refine lZ ?_; refine blk_put (cs := #[.int .i64 0, .int .i64 0]) ?_ 0 _ rfl; refine lZ ?_; exact qq.out) hb); replace HB := aM (below_step (by have := GEc.mk qI.out; have := GEc.mk q3.out; exact lS HB) hb); (try clear hb); (try clear hb2); (try clear hk); (try clear hi)))
          go_roundg k2
          case measure => have := HJ1.out; have := HK2.out; omega
          case rel => exact ⟨(wrap64 (qH + 1)), (by first | rfl | (simp; done) | (simp [*]; done)), H', ⟨by have := HJ1.out; have := HK2.out; omega⟩, ⟨by refine lZ ?_; exact qA.out⟩, ⟨by repeat (first | (with_reducible first | exact HB.out | apply below_alloc | apply pw_below_drewN | apply below_drew1 | refine below_set ?_ qI.out | refine below_set ?_ q3.out) | exact HB.out)⟩⟩
         ·replace c19 := Bool.eq_false_iff.mpr c19
          subst c19
          have H1 : (some 2) = some r := by rw [if_neg (show ¬ (false = true) by decide)] at H; exact H
          clear H
          have H := H1
          clear H1
          obtain rfl := Option.some.inj H
          have p141 : 0 ≤ (qH : Int) := of_decide_eq_true (by first | (with_reducible assumption) | assumption)
          have q141 : qH < (qB.length : Int) := of_decide_eq_true (by first | (with_reducible assumption) | assumption)
          obtain ⟨ad141, e141, hx141_0, hx141_1⟩ := at_T48 jR.out qH p141 q141
          cases e141
          replace hx141_0 := (HB.out.cell (World.block_lt_of_cell? w _ hx141_0)).trans hx141_0
          replace hx141_1 := (HB.out.cell (World.block_lt_of_cell? w _ hx141_1)).trans hx141_1
          replace p141 := eq_true p141
          replace q141 := eq_true q141
          go_wp2_with (first | ((with_reducible refine gate_dst (N := 4) rfl ?_); (try (refine gate_guard (by rfl) ?_; dsimp only)); refine box_event ?hg (N := 4) ?hd (cs := #[.int .i64 0, .int .i64 0]) (t := 48) ?hr ?_; (case hd => rfl); (case hg => rfl); (case hr => first | (go_simp; done) | (go_simp; rfl)); intro qj hg w24 hbox hb; have qq := aM (hbox); have jc := aM ((by rw [hg]; exact (below_size (by have := GEc.mk qI.out; exact lS HB)) : w.heap.size ≤ qj)); have q3 := aM ((by rw [hg]; exact (below_size (by have := GEc.mk qI.out; exact lS HB)) : w.heap.size ≤ qj)); replace HB := aM (below_step (by have := GEc.mk qI.out; exact lS HB) hb); have qU := aM ((by rw [hg]; exact Nat.ne_of_lt (blk_lt (g := qS) (lK qA)) : qS ≠ qj)); have q2 := aM ((by rw [hg]; exact Nat.ne_of_gt (blk_lt (g := qS) (lK qA)) : qj ≠ qS)); replace qA := aM (blk_below (g := qS) (lK qA) hb); clear hb hbox hg; have yD := q2.out; have yE := qU.out; have jo := zc2 qq.out; have jp := fun i_ : Nat => blk_frozen qq.out i_) | ((with_reducible refine gate_callee (f := 38) rfl ?_); refine goesL_ (some 41) rfl rfl Try.func38 (by kernel_rfl) rfl #[.agg #[.int .i64 ((rd_T48 qB qH).f0), .int .i64 ((rd_T48 qB qH).f1)]] rfl (by (try simp only [List.map_toArray, List.map_cons, List.map_nil]); first | done | rfl | (simp only [List.length_drop, List.length_take]; rfl)) ?_; (with_reducible refine (point_In.calls ((rd_T48 qB qH).f0) ((rd_T48 qB qH).f1) false _ A18.out).mono ?_); rintro e w27 ⟨rfl, hb⟩; refine ⟨_, rfl, ?_⟩; replace qA := aM (blk_below (g := qS) (o := .cells #[.int .i64 qJ, .int .i64 qK, .slice (some ad141) qB.length q1, .int .i64 qO, .int .i64 qP, .slice qs qL.length qt, .slice qu qM.length qv, .int .i64 qQ, .int .i64 qR, .slice qw qN.length qx, .slice qk qC.length ql, .int .i64 qF, .int .i64 qG, .slice qm qD.length qn, .slice qo qE.length qp] 28 (0, 0)) (by refine lZ ?_; refine blk_far ?_ qU.out _; refine lZ ?_; refine blk_far ?_ qU.out _; refine lZ ?_; exact qA.out) hb); replace qq := aM (blk_below (g := qj) (o := .cells #[.int .i64 ((rd_T48 qB qH).f0), .int .i64 ((rd_T48 qB qH).f1)] 48 (0, 0)) (by refine lZ ?_; refine blk_put (cs := #[.int .i64 ((rd_T48 qB qH).f0), .int .i64 0]) ?_ 1 _ rfl; refine lZ ?_; refine blk_put (cs := #[.int .i64 0, .int .i64 0]) ?_ 0 _ rfl; refine lZ ?_; exact qq.out) hb); replace HB := aM (below_step (by have := GEc.mk qI.out; have := GEc.mk q3.out; exact lS HB) hb); (try clear hb); (try clear hb2); (try clear hk); (try clear hi)))
          go_ret
          exact ⟨by first | rfl | (simp [errW_none, errW_some] <;> rfl) | (simp [*, errW_none, errW_some] <;> rfl), by repeat (first | (with_reducible first | exact HB.out | apply below_alloc | apply pw_below_drewN | apply below_drew1 | refine below_set ?_ qI.out | refine below_set ?_ q3.out) | exact HB.out)⟩
        ·rw [if_neg c17] at H
         exact absurd H (by simp)
       ·rw [if_neg c16] at H
        exact absurd H (by simp)
      ·rw [if_neg c15] at H
       have c15b0 : decide (qH < (qB.length : Int)) = false := decide_eq_false c15
       clear c15
       replace H := Option.bind_eq_some_iff.mp H
       obtain ⟨jY, A280, H⟩ := H
       replace H : (code_May.l1 k2 0 qJ qK qB qO qP qL qM qQ qR qN qC qF qG qD qE) = some r := H
       have A28 := aM A280
       clear A280
       have H' := aM H
       clear H
       go_wp2_with (first | ((with_reducible refine gate_callee (f := 27) rfl ?_); refine goesL_ (some 44) rfl rfl Try.func27 (by kernel_rfl) rfl #[.pointer (some ⟨qS, 0, none⟩)] rfl (by (try simp only [List.map_toArray, List.map_cons, List.map_nil]); first | done | rfl | (simp only [List.length_drop, List.length_take]; rfl)) ?_; (with_reducible refine (code_programs.calls 140 jY qS _ A28.out).mono ?_); rintro e w29 ⟨rfl, hb⟩; refine ⟨_, rfl, ?_⟩; replace qA := aM (blk_below (g := qS) (lK qA) hb); replace HB := aM (below_step (by have := GEc.mk qI.out; exact lS HB) hb); (try clear hb); (try clear hb2); (try clear hk); (try clear hi)))
       go_loopg [45] k2 (fun kq v45 w' => ∃ (qr : Int), v45 = .int .i64 qr ∧ Aside0 (code_May.l1 kq qr qJ qK qB qO qP qL qM qQ qR qN qC qF qG qD qE = some r) ∧ Aside0 (kq ≤ k2) ∧ Aside0 (w'.heap[qS]? = some (.cells #[.int .i64 qJ, .int .i64 qK, (.slice q4 qB.length q1), .int .i64 qO, .int .i64 qP, (.slice qs qL.length qt), (.slice qu qM.length qv), .int .i64 qQ, .int .i64 qR, (.slice qw qN.length qx), (.slice qk qC.length ql), .int .i64 qF, .int .i64 qG, (.slice qm qD.length qn), (.slice qo qE.length qp)] 28 (0, 0))) ∧ Aside0 (Below w.heap.size w w'))
       case atStart => exact ⟨(0), (by first | rfl | (simp; done) | (simp [*]; done)), H', ⟨Nat.le_refl _⟩, ⟨by refine lZ ?_; exact qA.out⟩, ⟨by repeat (first | (with_reducible first | exact HB.out | apply below_alloc | apply pw_below_drewN | apply below_drew1 | refine below_set ?_ qI.out) | exact HB.out)⟩⟩
       case round =>
        clear H'
        try clear c13
        try clear c15
        obtain ⟨qr, rfl, HA, HK3, qA, HB⟩ := hrel
        cases gk with
        | zero => exact absurd HA.out (by simp [code_May.l1])
        | succ k3 =>
         have H := HA.out
         clear HA
         simp only [code_May.l1] at H
         by_cases c30 : qr < 3
         ·rw [if_pos c30] at H
          have c30b0 : decide (qr < 3) = true := decide_eq_true c30
          clear c30
          by_cases c31 : qr = 0
          ·rw [if_pos c31] at H
           (first | rw [c31] | skip)
           replace H := Option.bind_eq_some_iff.mp H
           obtain ⟨⟨jZ, qy⟩, A320, H⟩ := H
           replace H : (if qy = 0 then (code_May.l1 k3 (0 + 1) qJ qK qB qO qP qL qM qQ qR qN qC qF qG qD qE) else (some qy)) = some r := H
           have A32 := aM A320
           clear A320
           by_cases c33 : qy = 0
           ·rw [if_pos c33] at H
            have c33b0 : (qy == 0) = true := beq_iff_eq.mpr c33
            have c33b1 : (qy != 0) = false := bne_eq_false_iff_eq.mpr c33
            clear c33
            have H' := aM H
            clear H
            have jq := zc15 qA.out
            have jr := fun i_ : Nat => blk_frozen qA.out i_
            go_wp2_with (first | ((with_reducible refine gate_callee (f := 39) rfl ?_); refine goesL_ (some 52) rfl rfl Try.func39 (by kernel_rfl) rfl #[.agg #[.int .i64 qO, .int .i64 qP, .slice qs qL.length qt, .slice qu qM.length qv]] rfl (by (try simp only [List.map_toArray, List.map_cons, List.map_nil]); first | done | rfl | (simp only [List.length_drop, List.length_take]; rfl)) ?_; (with_reducible refine (prog_Check.calls k3 qO qP _ _ qL _ _ qM jZ qy _ ?side1 ?side2 ?side3 ?side4 A32.out).mono ?_); (case side1 => refine lY ?_; exact (Kd.C_below jS.out HB.out)); (case side2 => exact jT.out); (case side3 => refine lY ?_; exact (Kd.C_below jU.out HB.out)); (case side4 => exact jV.out); rintro e w35 ⟨rfl, hb⟩; refine ⟨_, rfl, ?_⟩; replace qA := aM (blk_below (g := qS) (lK qA) hb); replace HB := aM (below_step (by have := GEc.mk qI.out; exact lS HB) hb); (try clear hb); (try clear hb2); (try clear hk); (try clear hi)))
            go_roundg k3
            case measure => have := HJ1.out; have := HK2.out; have := HK3.out; omega
            case rel => exact ⟨(0 + 1), (by first | rfl | (simp; done) | (simp [*]; done)), H', ⟨by have := HJ1.out; have := HK2.out; have := HK3.out; omega⟩, ⟨by refine lZ ?_; exact qA.out⟩, ⟨by repeat (first | (with_reducible first | exact HB.out | apply below_alloc | apply pw_below_drewN | apply below_drew1 | refine below_set ?_ qI.out) | exact HB.out)⟩⟩
           ·rw [if_neg c33] at H
            have c33b0 : (qy == 0) = false := beq_eq_false_iff_ne.mpr c33
            have c33b1 : (qy != 0) = true := bne_iff_ne.mpr c33
            obtain rfl := Option.some.inj H
            have js := zc15 qA.out
            have jt := fun i_ : Nat => blk_frozen qA.out i_
            go_wp2_with (first | ((with_reducible refine gate_callee (f := 39) rfl ?_); refine goesL_ (some 52) rfl rfl Try.func39 (by kernel_rfl) rfl #[.agg #[.int .i64 qO, .int .i64 qP, .slice qs qL.length qt, .slice qu qM.length qv]] rfl (by (try simp only [List.map_toArray, List.map_cons, List.map_nil]); first | done | rfl | (simp only [List.length_drop, List.length_take]; rfl)) ?_; (with_reducible refine (prog_Check.calls k3 qO qP _ _ qL _ _ qM jZ qy _ ?side1 ?side2 ?side3 ?side4 A32.out).mono ?_); (case side1 => refine lY ?_; exact (Kd.C_below jS.out HB.out)); (case side2 => exact jT.out); (case side3 => refine lY ?_; exact (Kd.C_below jU.out HB.out)); (case side4 => exact jV.out); rintro e w37 ⟨rfl, hb⟩; refine ⟨_, rfl, ?_⟩; replace qA := aM (blk_below (g := qS) (lK qA) hb); replace HB := aM (below_step (by have := GEc.mk qI.out; exact lS HB) hb); (try clear hb); (try clear hb2); (try clear hk); (try clear hi)))
            go_ret
            exact ⟨by first | rfl | (simp [errW_none, errW_some] <;> rfl) | (simp [*, errW_none, errW_some] <;> rfl), by repeat (first | (with_reducible first | exact HB.out | apply below_alloc | apply pw_below_drewN | apply below_drew1 | refine below_set ?_ qI.out) | exact HB.out)⟩
          ·rw [if_neg c31] at H
           by_cases c38 : qr = 1
           ·rw [if_pos c38] at H
            (first | rw [c38] | skip)
            replace H := Option.bind_eq_some_iff.mp H
            obtain ⟨⟨ja, qz⟩, A390, H⟩ := H
            replace H : (if qz = 0 then (code_May.l1 k3 (1 + 1) qJ qK qB qO qP qL qM qQ qR qN qC qF qG qD qE) else (some qz)) = some r := H
            have A39 := aM A390
            clear A390
            by_cases c40 : qz = 0
            ·rw [if_pos c40] at H
             have c40b0 : (qz == 0) = true := beq_iff_eq.mpr c40
             have c40b1 : (qz != 0) = false := bne_eq_false_iff_eq.mpr c40
             clear c40
             have H' := aM H
             clear H
             have ju := zc15 qA.out
             have jv := fun i_ : Nat => blk_frozen qA.out i_
             go_wp2_with (first | ((with_reducible refine gate_callee (f := 39) rfl ?_); refine goesL_ (some 52) rfl rfl Try.func39 (by kernel_rfl) rfl #[.agg #[.int .i64 qQ, .int .i64 qR, .slice qw qN.length qx, .slice qk qC.length ql]] rfl (by (try simp only [List.map_toArray, List.map_cons, List.map_nil]); first | done | rfl | (simp only [List.length_drop, List.length_take]; rfl)) ?_; (with_reducible refine (prog_Check.calls k3 qQ qR _ _ qN _ _ qC ja qz _ ?side1 ?side2 ?side3 ?side4 A39.out).mono ?_); (case side1 => refine lY ?_; exact (Kd.C_below jW.out HB.out)); (case side2 => exact jX.out); (case side3 => refine lY ?_; exact (Kd.C_below jD.out HB.out)); (case side4 => exact jE.out); rintro e w42 ⟨rfl, hb⟩; refine ⟨_, rfl, ?_⟩; replace qA := aM (blk_below (g := qS) (lK qA) hb); replace HB := aM (below_step (by have := GEc.mk qI.out; exact lS HB) hb); (try clear hb); (try clear hb2); (try clear hk); (try clear hi)))
             go_roundg k3
             case measure => have := HJ1.out; have := HK2.out; have := HK3.out; omega
             case rel => exact ⟨(1 + 1), (by first | rfl | (simp; done) | (simp [*]; done)), H', ⟨by have := HJ1.out; have := HK2.out; have := HK3.out; omega⟩, ⟨by refine lZ ?_; exact qA.out⟩, ⟨by repeat (first | (with_reducible first | exact HB.out | apply below_alloc | apply pw_below_drewN | apply below_drew1 | refine below_set ?_ qI.out) | exact HB.out)⟩⟩
            ·rw [if_neg c40] at H
             have c40b0 : (qz == 0) = false := beq_eq_false_iff_ne.mpr c40
             have c40b1 : (qz != 0) = true := bne_iff_ne.mpr c40
             obtain rfl := Option.some.inj H
             have jw := zc15 qA.out
             have jx := fun i_ : Nat => blk_frozen qA.out i_
             go_wp2_with (first | ((with_reducible refine gate_callee (f := 39) rfl ?_); refine goesL_ (some 52) rfl rfl Try.func39 (by kernel_rfl) rfl #[.agg #[.int .i64 qQ, .int .i64 qR, .slice qw qN.length qx, .slice qk qC.length ql]] rfl (by (try simp only [List.map_toArray, List.map_cons, List.map_nil]); first | done | rfl | (simp only [List.length_drop, List.length_take]; rfl)) ?_; (with_reducible refine (prog_Check.calls k3 qQ qR _ _ qN _ _ qC ja qz _ ?side1 ?side2 ?side3 ?side4 A39.out).mono ?_); (case side1 => refine lY ?_; exact (Kd.C_below jW.out HB.out)); (case side2 => exact jX.out); (case side3 => refine lY ?_; exact (Kd.C_below jD.out HB.out)); (case side4 => exact jE.out); rintro e w44 ⟨rfl, hb⟩; refine ⟨_, rfl, ?_⟩; replace qA := aM (blk_below (g := qS) (lK qA) hb); replace HB := aM (below_step (by have := GEc.mk qI.out; exact lS HB) hb); (try clear hb); (try clear hb2); (try clear hk); (try clear hi)))
             go_ret
             exact ⟨by first | rfl | (simp [errW_none, errW_some] <;> rfl) | (simp [*, errW_none, errW_some] <;> rfl), by repeat (first | (with_reducible first | exact HB.out | apply below_alloc | apply pw_below_drewN | apply below_drew1 | refine below_set ?_ qI.out) | exact HB.out)⟩
           ·rw [if_neg c38] at H
            by_cases c45 : qr = 2
            ·rw [if_pos c45] at H
             (first | rw [c45] | skip)
             replace H := Option.bind_eq_some_iff.mp H
             obtain ⟨⟨jb, q0⟩, A460, H⟩ := H
             replace H : (if q0 = 0 then (code_May.l1 k3 (2 + 1) qJ qK qB qO qP qL qM qQ qR qN qC qF qG qD qE) else (some q0)) = some r := H
             have A46 := aM A460
             clear A460
             by_cases c47 : q0 = 0
             ·rw [if_pos c47] at H
              have c47b0 : (q0 == 0) = true := beq_iff_eq.mpr c47
              have c47b1 : (q0 != 0) = false := bne_eq_false_iff_eq.mpr c47
              clear c47
              have H' := aM H
              clear H
              have jy := zc15 qA.out
              have jz := fun i_ : Nat => blk_frozen qA.out i_
              go_wp2_with (first | ((with_reducible refine gate_callee (f := 39) rfl ?_); refine goesL_ (some 52) rfl rfl Try.func39 (by kernel_rfl) rfl #[.agg #[.int .i64 qF, .int .i64 qG, .slice qm qD.length qn, .slice qo qE.length qp]] rfl (by (try simp only [List.map_toArray, List.map_cons, List.map_nil]); first | done | rfl | (simp only [List.length_drop, List.length_take]; rfl)) ?_; (with_reducible refine (prog_Check.calls k3 qF qG _ _ qD _ _ qE jb q0 _ ?side1 ?side2 ?side3 ?side4 A46.out).mono ?_); (case side1 => refine lY ?_; exact (Kd.C_below jF.out HB.out)); (case side2 => exact jG.out); (case side3 => refine lY ?_; exact (Kd.C_below jH.out HB.out)); (case side4 => exact jI.out); rintro e w49 ⟨rfl, hb⟩; refine ⟨_, rfl, ?_⟩; replace qA := aM (blk_below (g := qS) (lK qA) hb); replace HB := aM (below_step (by have := GEc.mk qI.out; exact lS HB) hb); (try clear hb); (try clear hb2); (try clear hk); (try clear hi)))
              go_roundg k3
              case measure => have := HJ1.out; have := HK2.out; have := HK3.out; omega
              case rel => exact ⟨(2 + 1), (by first | rfl | (simp; done) | (simp [*]; done)), H', ⟨by have := HJ1.out; have := HK2.out; have := HK3.out; omega⟩, ⟨by refine lZ ?_; exact qA.out⟩, ⟨by repeat (first | (with_reducible first | exact HB.out | apply below_alloc | apply pw_below_drewN | apply below_drew1 | refine below_set ?_ qI.out) | exact HB.out)⟩⟩
             ·rw [if_neg c47] at H
              have c47b0 : (q0 == 0) = false := beq_eq_false_iff_ne.mpr c47
              have c47b1 : (q0 != 0) = true := bne_iff_ne.mpr c47
              obtain rfl := Option.some.inj H
              have j1 := zc15 qA.out
              have j2 := fun i_ : Nat => blk_frozen qA.out i_
              go_wp2_with (first | ((with_reducible refine gate_callee (f := 39) rfl ?_); refine goesL_ (some 52) rfl rfl Try.func39 (by kernel_rfl) rfl #[.agg #[.int .i64 qF, .int .i64 qG, .slice qm qD.length qn, .slice qo qE.length qp]] rfl (by (try simp only [List.map_toArray, List.map_cons, List.map_nil]); first | done | rfl | (simp only [List.length_drop, List.length_take]; rfl)) ?_; (with_reducible refine (prog_Check.calls k3 qF qG _ _ qD _ _ qE jb q0 _ ?side1 ?side2 ?side3 ?side4 A46.out).mono ?_); (case side1 => refine lY ?_; exact (Kd.C_below jF.out HB.out)); (case side2 => exact jG.out); (case side3 => refine lY ?_; exact (Kd.C_below jH.out HB.out)); (case side4 => exact jI.out); rintro e w51 ⟨rfl, hb⟩; refine ⟨_, rfl, ?_⟩; replace qA := aM (blk_below (g := qS) (lK qA) hb); replace HB := aM (below_step (by have := GEc.mk qI.out; exact lS HB) hb); (try clear hb); (try clear hb2); (try clear hk); (try clear hi)))
              go_ret
              exact ⟨by first | rfl | (simp [errW_none, errW_some] <;> rfl) | (simp [*, errW_none, errW_some] <;> rfl), by repeat (first | (with_reducible first | exact HB.out | apply below_alloc | apply pw_below_drewN | apply below_drew1 | refine below_set ?_ qI.out) | exact HB.out)⟩
            ·rw [if_neg c45] at H
             exact absurd H (by simp)
         ·rw [if_neg c30] at H
          have c30b0 : decide (qr < 3) = false := decide_eq_false c30
          clear c30
          obtain rfl := Option.some.inj H
          go_wp2
          go_ret
          exact ⟨by first | rfl | (simp [errW_none, errW_some] <;> rfl) | (simp [*, errW_none, errW_some] <;> rfl), by repeat (first | (with_reducible first | exact HB.out | apply below_alloc | apply pw_below_drewN | apply below_drew1 | refine below_set ?_ qI.out) | exact HB.out)⟩

end Go.Proofs.Ytccbdcbeinkjgaa.XA
end

section
namespace Go.Proofs.Ytccbdcbeinkjgaa.XA
open Go.Proofs.Ytccbdcbeinkjgaa.Lift Go.RowKit Go.Proofs.YtccbdcbeinkjgaaW.PrintWords Go.Proofs.YtccbdcbeinkjgaaW.PrintLast Go.Proofs.YtccbdcbeinkjgaaW.PrintMore
attribute [local go_sem] max2_int min2_int max_two min_two max_three min_three max_four min_four
set_option linter.unusedVariables false
set_option linter.unusedSimpArgs false

/-! ### code_pair: function 28 -/
def code_pair.f (l0 : List Int) (a1 : Int) : Option (List Int) := (some (([(a1 / 256) % 256, (a1) % 256] : List Int) : List Int)).bind fun y151 => (if l0.length + y151.length < 140737488355328 then (some (l0 ++ y151)) else (none))
set_option maxHeartbeats 8000000 in
set_option maxRecDepth 100000 in
theorem code_pair.calls (P0_ : Nat → Prop) (u9000_ : Value) (l0 : List Int) (a1 : Int) (r : List Int) (w0 w : World) (hB : Below w0.heap.size w0 w) (ho0 : Kd.R (Kd.int .u8) 5 w w0.heap.size P0_ u9000_ l0) (h : code_pair.f l0 a1 = some r) :
  Calls Try.prog 28 #[u9000_, .int .i64 a1] w fun e w' => ∃ v0_ : Value, e = .returned (v0_) ∧ Kd.R (Kd.int .u8) 5 w' w0.heap.size (fun k_ => (P0_ k_ ∨ w.heap.size ≤ k_)) v0_ r ∧ Below w0.heap.size w0 w' ∧ Kept w w' (fun k_ => P0_ k_) := by
 have HO0 := aM (show Kd.R (Kd.int .u8) 5 w w0.heap.size (fun k_ => (P0_ k_ ∨ w.heap.size ≤ k_)) u9000_ l0 from Kd.R_mono ho0 (fun k_ hk => (.inl hk)))
 have HK := aM (Kept.refl w (fun k_ => P0_ k_))
 have HW0 := aM hB.size
 have HB := aM hB
 clear hB
 have H : ((some (([(a1 / 256) % 256, (a1) % 256] : List Int) : List Int)).bind fun y151 => (if l0.length + y151.length < 140737488355328 then (some (l0 ++ y151)) else (none))) = some r := h
 clear h
 obtain ⟨y151, hy151⟩ : ∃ y_ : List Int, y_ = (([(a1 / 256) % 256, (a1) % 256] : List Int)) := ⟨_, rfl⟩
 replace H : (if l0.length + y151.length < 140737488355328 then (some (l0 ++ y151)) else (none)) = some r := by first | (rw [hy151]; with_reducible exact H) | (have H2_ := (Option.bind_some _ _).symm.trans H; rw [hy151]; with_reducible exact H2_) | (have H2_ := (Option.bind_some _ _).symm.trans H; with_reducible exact H2_) | with_reducible exact H | (rw [hy151]; exact H) | exact H
 have Ny151 := aM hy151
 clear hy151
 by_cases c3 : l0.length + y151.length < 140737488355328
 ·rw [if_pos c3] at H
  have LMc3 := aM c3
  clear c3
  obtain ⟨y154, hy154⟩ : ∃ y_ : List Int, y_ = (l0 ++ y151) := ⟨_, rfl⟩
  replace H : (some y154) = some r := by first | (rw [hy154]; with_reducible exact H) | (have H2_ := (Option.bind_some _ _).symm.trans H; rw [hy154]; with_reducible exact H2_) | (have H2_ := (Option.bind_some _ _).symm.trans H; with_reducible exact H2_) | with_reducible exact H | (rw [hy154]; exact H) | exact H
  have Ny154 := aM hy154
  clear hy154
  obtain rfl := Option.some.inj H
  go_enter Try.func28, Try.ntmps28
  go_wp2_with (first | ((with_reducible refine gate_dst (N := 11) rfl ?_); refine Kd.R_lit (Kd.int .u8) _ 5 ?hg (N := 11) ?hd (xs := ([(a1 / 256) % 256, (a1) % 256] : List Int)) (inner := [.int .u8 ((a1 / 256) % 256), .int .u8 ((a1) % 256)]) (ok := fun _ => True) (okp := fun _ => True) ?hr ?hp (fun _ hk => hk) trivial (Below.refl _ _) (Nat.le_refl _) (by simp) ?_; (case hd => rfl); (case hg => rfl); (case hr => first | (go_simp; done) | (go_simp; rfl)); (case hp => exact (Reps.one (show Kd.M (Kd.int .u8) _ _ _ ((a1 / 256) % 256) [.int .u8 ((a1 / 256) % 256)] from rfl) (Reps.one (show Kd.M (Kd.int .u8) _ _ _ ((a1) % 256) [.int .u8 ((a1) % 256)] from rfl) (Reps.none _ _)))); intro v152 w4 ho5 hb hg_ hnew_; clear hg_ hnew_; (first | rw [← Ny151.out] at ho5 | (simp only [Int.reduceToNat] at ho5; rw [← Ny151.out] at ho5)); have qB := aM (Kd.R_lower (Kd.R_new' (Kd.R_newM (M := fun k_ => (P0_ k_ ∨ w.heap.size ≤ k_)) ho5 (by first | exact HK.out.1 | exact (show Kept w _ (fun k_ => P0_ k_) from by repeat (first | (with_reducible first | exact HK.out | apply Kept.alloc | apply Kept.drewN | apply Kept.drew) | exact HK.out)).1) (fun k_ h_ => .inr h_)) (Kd.R_lt (lR HO0))) (below_size (lB HB))); replace HO0 := aM (Kd.R_elder' (lR HO0) (Kd.R_base ho5) hb); replace HK := aM (Kept.below (S := (fun k_ => P0_ k_)) (by repeat (first | (with_reducible first | exact HK.out | apply Kept.alloc | apply Kept.drewN | apply Kept.drew) | exact HK.out)) hb); replace HB := aM (below_step (lB HB) hb); clear hb ho5; obtain ⟨Ao7, co7, eo7⟩ := Kd.R_slice qB.out; subst eo7) | ((with_reducible refine gate_builtin (b := .append) (xs := #[.tmp 5, .tmp 11]) rfl ?_); at_builtin; refine Kd.R_append_rows (Kd.int .u8) (w0 := w0) w0.heap.size rfl (.tmp 5) (.tmp 11) 31 5 (.int .u8 0) 1 rfl Try.underlying31 info5 rfl (by decide) (by omega) u9000_ l0 y151 _ _ _ (fun k_ => (P0_ k_ ∨ w.heap.size ≤ k_) ∧ some k_ ≠ (.slice Ao7 y151.length co7 : Value).ownBlock) (fun _ => False) rfl rfl ?aO ?aR (fun _ _ h => h) (fun _ h => h.elim) ?aF ?aB ?aS ?aL ?_; (case aR => repeat (first | exact (Kd.R_reads' qB.out).2.2 | (with_reducible refine Kd.C_alloc ?_ _) | (with_reducible refine Kd.C_drewN ?_ _) | (with_reducible refine Kd.C_drew ?_))); (case aB => exact (lB HB)); (case aF => exact (fun k_ hk => ⟨(.inr (Nat.le_trans (by first | exact HK.out.1 | exact (show Kept w _ (fun k_ => P0_ k_) from by repeat (first | (with_reducible first | exact HK.out | apply Kept.alloc | apply Kept.drewN | apply Kept.drew) | exact HK.out)).1) hk)), Kd.fresh' (Kd.R_lt (lR qB)) k_ hk⟩)); (case aO => exact (lR HO0)); (case aS => exact (below_size (lB HB))); (case aL => have := LMc3.out; omega); intro v155 w6 ho hb hg hat; rw [← Ny154.out] at ho; replace qB := aM (Kd.R_after (ok := (fun k_ => (P0_ k_ ∨ w.heap.size ≤ k_))) (by (with_reducible repeat (first | apply Kd.R_alloc | apply Kd.R_drewN | apply Kd.R_drew)); exact Kd.R_mono qB.out (fun _ hk => ⟨hk.1.1, hk.2⟩)) hg hat); replace HB := aM (hb); replace HK := aM (Kept.of_grown (S := (fun k_ => P0_ k_)) hg (by repeat (first | (with_reducible first | exact HK.out | apply Kept.alloc | apply Kept.drewN | apply Kept.drew) | exact HK.out)) (fun k_ e_ => (HO0.out.1 k_ e_).1)); have qD := aM (ho); clear HO0; clear ho hb hg hat))
  go_ret
  exact ⟨_, by first | rfl | (simp [errW_none, errW_some] <;> rfl) | (simp [*, errW_none, errW_some] <;> rfl), by (with_reducible repeat (first | apply Kd.R_alloc | apply Kd.R_drewN | apply Kd.R_drew)); exact Kd.R_mono qD.out (fun _ hk => hk.1), by repeat (first | (with_reducible first | exact HB.out | apply below_alloc | apply pw_below_drewN | apply below_drew1) | exact HB.out), by repeat (first | (with_reducible first | exact HK.out | apply Kept.alloc | apply Kept.drewN | apply Kept.drew) | exact HK.out)⟩
 ·rw [if_neg c3] at H
  exact absurd H (by simp)

/-! ### code_check: function 29 -/
def code_check.l0 : Nat → Int → List Int → Int → Int → Option (Int)
 | 0, _, _, _, _ => none
 | k + 1, x3, x6, x7, x8 => if x8 < x7 then (if 0 ≤ x8 then (if x8 < (x6.length : Int) then (code_check.l0 k (Int.tmod (wrap64 (x3 + (wrap64 ((Int.tmod (wrap64 (x8 + 1)) 65521) * (wrap64 (rd x6 x8)))))) 65521) x6 x7 (wrap64 (x8 + 1))) else (none)) else (none)) else (some x3)
def code_check.f (k : Nat) (l0 : List Int) : Option (Int) := code_check.l0 k 0 l0 (l0.length : Int) 0
theorem code_check.mono_l : ∀ k, (∀ y0 y1 y2 y3, LeO (code_check.l0 k y0 y1 y2 y3) (code_check.l0 (k + 1) y0 y1 y2 y3))
 | 0 => fun _ _ _ _ r h => by simp [code_check.l0] at h
 | k + 1 => by
  have ih0 := code_check.mono_l k
  ·intro y0 y1 y2 y3
   unfold code_check.l0
   repeat' first
   | (with_reducible exact ih0 ..)
   | (with_reducible exact LeO.refl _)
   | (with_reducible exact LeO.none _)
   | (with_reducible refine LeO.ite ?_ ?_)
   | (with_reducible refine LeO.bind ?_ (fun _ => ?_))
   | exact ih0 _ _ _ _
   | exact LeO.none _
   | refine LeO.ite ?_ ?_
   | refine LeO.bind ?_ (fun _ => ?_)
theorem code_check.mono : ∀ a0 k, LeO (code_check.f k a0) (code_check.f (k + 1) a0) := by
 intro a0 k
 have ih0 := code_check.mono_l k
 unfold code_check.f
 repeat' first
   | (with_reducible exact ih0 ..)
   | (with_reducible exact LeO.refl _)
   | (with_reducible exact LeO.none _)
   | (with_reducible refine LeO.ite ?_ ?_)
   | (with_reducible refine LeO.bind ?_ (fun _ => ?_))
   | exact ih0 _ _ _ _
   | exact LeO.none _
   | refine LeO.ite ?_ ?_
   | refine LeO.bind ?_ (fun _ => ?_)
set_option maxHeartbeats 8000000 in
set_option maxRecDepth 100000 in
theorem code_check.calls (k : Nat) (A0 : Option Addr) (c0 : Nat) (l0 : List Int) (r : Int) (w : World) (hr0 : Kd.C (Kd.int .u8) w A0 l0.length l0) (hc0 : l0.length ≤ c0) (h : code_check.f k l0 = some r) :
  Calls Try.prog 29 #[.slice A0 l0.length c0] w fun e w' => e = .returned (.int .i64 r) ∧ Drawn0 w w' := by
 have HR0 := aM hr0
 have HC0 := aM hc0
 clear hr0 hc0
 have H : (code_check.l0 k 0 l0 (l0.length : Int) 0) = some r := h
 clear h
 have H' := aM H
 clear H
 go_enter Try.func29, Try.ntmps29
 go_wp2
 go_loopg [3, 8] k (fun kq v3 v8 w' => ∃ (qC : Int) (qA : Int), v3 = .int .i64 qC ∧ v8 = .int .i64 qA ∧ Aside0 (code_check.l0 kq qC l0 (l0.length : Int) qA = some r) ∧ Aside0 (kq ≤ k) ∧ Drawn0 w w')
 case atStart => exact ⟨(0), (0), (by first | rfl | (simp; done) | (simp [*]; done)), (by first | rfl | (simp; done) | (simp [*]; done)), H', ⟨Nat.le_refl _⟩, by repeat (first | exact Drawn0.refl _ | apply Drawn0.step)⟩
 case round =>
  clear H'
  obtain ⟨qC, qA, rfl, rfl, HA, HK1, ⟨m1, rfl⟩⟩ := hrel
  cases gk with
  | zero => exact absurd HA.out (by simp [code_check.l0])
  | succ k1 =>
   have H := HA.out
   clear HA
   simp only [code_check.l0] at H
   by_cases c2 : qA < (l0.length : Int)
   ·rw [if_pos c2] at H
    have c2b0 : decide (qA < (l0.length : Int)) = true := decide_eq_true c2
    clear c2
    by_cases c3 : 0 ≤ qA
    ·rw [if_pos c3] at H
     have c3b0 : decide (0 ≤ qA) = true := decide_eq_true c3
     clear c3
     by_cases c4 : qA < (l0.length : Int)
     ·rw [if_pos c4] at H
      have c4b0 : decide (qA < (l0.length : Int)) = true := decide_eq_true c4
      clear c4
      have H' := aM H
      clear H
      have p157 : 0 ≤ (qA : Int) := of_decide_eq_true (by first | (with_reducible assumption) | assumption)
      have q157 : qA < (l0.length : Int) := of_decide_eq_true (by first | (with_reducible assumption) | assumption)
      obtain ⟨ad157, e157, hx157_0⟩ := Kd.at_int HR0.out qA p157 q157
      cases e157
      replace p157 := eq_true p157
      replace q157 := eq_true q157
      go_wp2
      go_roundg k1
      case measure => have := HK1.out; omega
      case rel => exact ⟨(Int.tmod (wrap64 (qC + (wrap64 ((Int.tmod (wrap64 (qA + 1)) 65521) * (wrap64 (rd l0 qA)))))) 65521), (wrap64 (qA + 1)), (by first | rfl | (simp; done) | (simp [*]; done)), (by first | rfl | (simp; done) | (simp [*]; done)), H', ⟨by have := HK1.out; omega⟩, by repeat (first | exact Drawn0.refl _ | apply Drawn0.step)⟩
     ·rw [if_neg c4] at H
      exact absurd H (by simp)
    ·rw [if_neg c3] at H
     exact absurd H (by simp)
   ·rw [if_neg c2] at H
    have c2b0 : decide (qA < (l0.length : Int)) = false := decide_eq_false c2
    clear c2
    obtain rfl := Option.some.inj H
    go_wp2
    go_ret
    exact ⟨by first | rfl | (simp; done) | (simp [*]; done), by repeat (first | exact Drawn0.refl _ | apply Drawn0.step)⟩

/-! ### code_marked: function 85 -/
--IMPORT Derived.Lib.SlBytesConst
/-- The four bytes that a unit's bytes begin with, as they are made of the constant. (No function of the program: what the region that makes them leaves.) -/
def code_marked.f : Option (List Int) := some [65, 78, 86, 49]
section
variable {P : Program} {ops : Array Oper} {rest : List Oper} {o : Oper} {a : Act} {Q : Exit → Act → World → Prop}
theorem code_marked.reads (W : World) (g : Nat) (fr : Nat × Nat) (h : W.heap[g]? = some (.cells #[.int .u8 65, .int .u8 78, .int .u8 86, .int .u8 49] 5 fr)) :
  Kd.C (Kd.int .u8) W (some ⟨g, 0, none⟩) 4 [65, 78, 86, 49] := by
 refine ⟨rfl, by decide, fun _ => ⟨_, rfl, fun j p hp => ⟨[.int .u8 p], rfl, rfl, fun i u hu => ?_⟩⟩⟩
 have hi : i = 0 ∧ u = .int .u8 p := by
  cases i with
  | zero => exact ⟨rfl, (Option.some.inj hu).symm⟩
  | succ i => simp at hu
 obtain ⟨rfl, rfl⟩ := hi
 have hadd : (⟨g, 0, none⟩ : Addr).add (j * 1 + 0) = ⟨g, j, none⟩ := by unfold Addr.add; split <;> simp_all
 show W.cell? ((⟨g, 0, none⟩ : Addr).add (j * 1 + 0)) = _
 rw [hadd, cell_of_row W g j _ 5 fr h]
 match j, hp with
 | 0, hp => cases hp; rfl
 | 1, hp => cases hp; rfl
 | 2, hp => cases hp; rfl
 | 3, hp => cases hp; rfl
 | j + 4, hp => simp at hp
theorem code_marked.event {W0 : World} {r : List Int} (hgd : o.guard = none) (hr : code_marked.f = some r)
  (hrun : (execOp a.eval o).run P (W0.alloc (.cells #[.int .u8 65, .int .u8 78, .int .u8 86, .int .u8 49] 5)) = .ok (.value (.slice (some ⟨W0.heap.size, 0, none⟩) 4 4)) (W0.alloc (.cells #[.int .u8 65, .int .u8 78, .int .u8 86, .int .u8 49] 5 (4, 5))))
  (h : ∀ e w', (∃ v0_ : Value, e = Ending.returned v0_ ∧ Kd.V (Kd.int .u8) 5 w' W0.heap.size (fun k_ => W0.heap.size ≤ k_) v0_ r ∧ Below W0.heap.size W0 w') → ∃ v, e = Ending.returned v ∧ wpList P ops Q rest (a.put o.dst v) w') :
  wpList P ops Q (o :: rest) a (W0.alloc (.cells #[.int .u8 65, .int .u8 78, .int .u8 86, .int .u8 49] 5)) := by
 obtain rfl := Option.some.inj hr
 refine Kd.event_run hgd hrun ?_
 obtain ⟨v, hv, hw⟩ := h (.returned (.slice (some ⟨W0.heap.size, 0, none⟩) 4 4)) (W0.alloc (.cells #[.int .u8 65, .int .u8 78, .int .u8 86, .int .u8 49] 5 (4, 5)))
  ⟨_, rfl, ⟨some ⟨W0.heap.size, 0, none⟩, 4, rfl, by decide, fun W' hW => code_marked.reads W' W0.heap.size (4, 5) ((hW _ (Nat.le_refl _) (by show _ < (W0.heap.push _).size; simp)).trans (heap_alloc_new W0 _))⟩, below_alloc (Below.refl _ _) _⟩
 injection hv with hv
 subst hv
 exact hw
theorem code_marked.app {W0 : World} {x y z : Int} (hgd : o.guard = none) (s t : Operand) (ho : o.op = .call { callee := .builtin .append, args := #[s, t], argTypes := #[31, 31] })
  (ht : P.underlying 31 = some (.slice 5)) (hinfo : (P.info? 5).map (fun i => (i.zero, i.size, i.bytes)) = some (some (.int .u8 0), 1, 1))
  (hs : a.eval s = .slice (some ⟨W0.heap.size, 0, none⟩) 4 4) (hx : a.eval t = .slice (some ⟨W0.heap.size + 1, 0, none⟩) 3 3)
  (h : ∀ v1 w1, Kd.R (Kd.int .u8) 5 w1 W0.heap.size (fun _ => True) v1 [65, 78, 86, 49, x, y, z] → Below W0.heap.size W0 w1 → W0.grownBy w1 none → (∃ b, v1.ownBlock = some b ∧ W0.heap.size ≤ b) → wpList P ops Q rest (a.put o.dst v1) w1) :
  wpList P ops Q (o :: rest) a ((W0.alloc (.cells #[.int .u8 65, .int .u8 78, .int .u8 86, .int .u8 49] 5 (4, 5))).alloc (.cells #[.int .u8 x, .int .u8 y, .int .u8 z] 5)) := by
 obtain ⟨i, hi, hi2⟩ := Option.map_eq_some_iff.1 hinfo
 simp only [Prod.mk.injEq] at hi2
 obtain ⟨hz, hsz, hby⟩ := hi2
 generalize hW : (W0.alloc (.cells #[.int .u8 65, .int .u8 78, .int .u8 86, .int .u8 49] 5 (4, 5))).alloc (.cells #[.int .u8 x, .int .u8 y, .int .u8 z] 5) = W
 have hA : W.heap[W0.heap.size]? = some (.cells #[.int .u8 65, .int .u8 78, .int .u8 86, .int .u8 49] 5 (4, 5)) := by
  rw [← hW, heap_alloc_old _ _ (by show _ < (W0.heap.push _).size; simp)]
  exact heap_alloc_new W0 _
 have hB : W.heap[W0.heap.size + 1]? = some (.cells #[.int .u8 x, .int .u8 y, .int .u8 z] 5) := by
  rw [← hW]
  have := heap_alloc_new (W0.alloc (.cells #[.int .u8 65, .int .u8 78, .int .u8 86, .int .u8 49] 5 (4, 5))) (.cells #[.int .u8 x, .int .u8 y, .int .u8 z] 5)
  have hsize : (W0.alloc (.cells #[.int .u8 65, .int .u8 78, .int .u8 86, .int .u8 49] 5 (4, 5))).heap.size = W0.heap.size + 1 := by show (W0.heap.push _).size = _; simp
  rw [hsize] at this
  exact this
 have hS : W.heap.size = W0.heap.size + 2 := by rw [← hW]; show ((W0.heap.push _).push _).size = _; simp
 have hadd : ∀ (g j : Nat), (⟨g, 0, none⟩ : Addr).add j = ⟨g, j, none⟩ := fun g j => by unfold Addr.add; split <;> simp_all
 have hr := run_append_grow (P := P) W 31 o.type 5 i (.int .u8 0) ht hi hz ⟨W0.heap.size, 0, none⟩ 4 4 [.int .u8 65, .int .u8 78, .int .u8 86, .int .u8 49] (by rw [hsz]; rfl)
  (fun j u hu => by
   rw [hadd, cell_of_row W _ j _ 5 (4, 5) hA]
   match j, hu with
   | 0, hu => cases hu; rfl
   | 1, hu => cases hu; rfl
   | 2, hu => cases hu; rfl
   | 3, hu => cases hu; rfl
   | j + 4, hu => simp at hu)
  ⟨W0.heap.size + 1, 0, none⟩ 3 3 [.int .u8 x, .int .u8 y, .int .u8 z] (by rw [hsz]; rfl)
  (fun j u hu => by
   rw [hadd, cell_of_row W _ j _ 5 (0, 0) hB]
   match j, hu with
   | 0, hu => cases hu; rfl
   | 1, hu => cases hu; rfl
   | 2, hu => cases hu; rfl
   | j + 3, hu => simp at hu)
  (by decide) (by decide) (by rw [hby]; decide)
 have hge := grownCap_ge W (4 + 3) 4 5
 have hcm := grownCap_le_maxLen W (4 + 3) 4 5 (by decide)
 have hb0 : Below W0.heap.size W0 W := by rw [← hW]; exact below_alloc (below_alloc (Below.refl _ _) _) _
 refine Kd.event_run hgd (v := .slice (some ⟨W.heap.size, 0, none⟩) (4 + 3) (grownCap W (4 + 3) 4 5)) (w1 := W.drew.alloc (.cells ([.int .u8 65, .int .u8 78, .int .u8 86, .int .u8 49].toArray ++ [.int .u8 x, .int .u8 y, .int .u8 z].toArray ++ Builtin.zeroCells (Value.int .u8 0).cells (grownCap W (4 + 3) 4 5 - (4 + 3))) 5)) ?_ (h _ _ ?_ ?_ ?_ ⟨W.heap.size, by simp [Value.ownBlock], by omega⟩)
 ·unfold execOp
  simp only [ho, resolve, invoke, builtin, Sem.run_bind, Sem.run_pure, Result.andThen_ok, List.map_toArray, List.map_cons, List.map_nil, hs, hx, hr]
 ·refine ⟨fun _ _ => trivial, [.int .u8 65, .int .u8 78, .int .u8 86, .int .u8 49, .int .u8 x, .int .u8 y, .int .u8 z], ⟨rfl, .inr ⟨W.heap.size, _, _, rfl, by omega, heap_alloc_new W.drew _, hge, hcm, ?_, ?_⟩⟩, ?_⟩
  ·simp only [Array.size_append, List.size_toArray, size_zeroCells]
   show 4 + 3 + (grownCap W (4 + 3) 4 5 - (4 + 3)) * 1 = grownCap W (4 + 3) 4 5 * 1
   omega
  ·simp
   rfl
  ·exact (Reps.one (show Kd.M (Kd.int .u8) _ _ _ 65 [.int .u8 65] from rfl) (Reps.one (show Kd.M (Kd.int .u8) _ _ _ 78 [.int .u8 78] from rfl) (Reps.one (show Kd.M (Kd.int .u8) _ _ _ 86 [.int .u8 86] from rfl) (Reps.one (show Kd.M (Kd.int .u8) _ _ _ 49 [.int .u8 49] from rfl) (Reps.one (show Kd.M (Kd.int .u8) _ _ _ x [.int .u8 x] from rfl) (Reps.one (show Kd.M (Kd.int .u8) _ _ _ y [.int .u8 y] from rfl) (Reps.one (show Kd.M (Kd.int .u8) _ _ _ z [.int .u8 z] from rfl) (Reps.none _ _))))))))
 ·exact below_alloc (below_drew1 hb0) _
 ·have h0 : W0.grownBy W none := ⟨hb0.os, hb0.tape, hb0.output, hb0.size, fun k hk _ => hb0.block k hk⟩
  exact ⟨hb0.os, hb0.tape, hb0.output, by show _ ≤ (W.drew.heap.push _).size; have := hb0.size; simp; show _ ≤ W.heap.size + 1; omega, fun k hk _ => (heap_alloc_old W.drew _ (by show k < W.heap.size; omega)).trans (hb0.block k hk)⟩
end

end Go.Proofs.Ytccbdcbeinkjgaa.XA
end

section
namespace Go.Proofs.Ytccbdcbeinkjgaa.XA
open Go.Proofs.Ytccbdcbeinkjgaa.Lift Go.RowKit Go.Proofs.YtccbdcbeinkjgaaW.PrintWords Go.Proofs.YtccbdcbeinkjgaaW.PrintLast Go.Proofs.YtccbdcbeinkjgaaW.PrintMore
attribute [local go_sem] max2_int min2_int max_two min_two max_three min_three max_four min_four
set_option linter.unusedVariables false
set_option linter.unusedSimpArgs false

--IMPORT Derived.Lib.SlBytesConst
/-! ### code_Encode: function 12 -/
mutual
def code_Encode.l0 : Nat → List Int → List (S48) → Int → Int → Int → Int → List (S48) → Int → Int → List (S63) → List Int → Int → Int → List (S63) → List Int → Int → Int → List (S63) → List Int → Option (List Int × Int)
 | 0, _, _, _, _, _, _, _, _, _, _, _, _, _, _, _, _, _, _, _ => none
 | k + 1, x5, x34, x35, x36, qh, qi, qj, qb, qc, qV, qW, qd, qe, qX, qY, qf, qg, qZ, qa => if x36 < x35 then (if 0 ≤ x36 then (if x36 < (x34.length : Int) then ((some (([((rd_T48 x34 x36).f0) % 256, ((rd_T48 x34 x36).f1) % 256] : List Int) : List Int)).bind fun y165 => (if x5.length + y165.length < 140737488355328 then (code_Encode.l0 k (x5 ++ y165) x34 x35 (wrap64 (x36 + 1)) qh qi qj qb qc qV qW qd qe qX qY qf qg qZ qa) else (none))) else (none)) else (none)) else ((code_programs.f 158).bind fun ya => (code_Encode.l1 k x5 0 qh qi qj qb qc qV qW qd qe qX qY qf qg qZ qa))
def code_Encode.l1 : Nat → List Int → Int → Int → Int → List (S48) → Int → Int → List (S63) → List Int → Int → Int → List (S63) → List Int → Int → Int → List (S63) → List Int → Option (List Int × Int)
 | 0, _, _, _, _, _, _, _, _, _, _, _, _, _, _, _, _, _ => none
 | k + 1, x5, x51, qh, qi, qj, qb, qc, qV, qW, qd, qe, qX, qY, qf, qg, qZ, qa => if x51 < 3 then (if x51 = 0 then ((some (([(qb) % 256, (qc) % 256] : List Int) : List Int)).bind fun y176 => (if x5.length + y176.length < 140737488355328 then ((code_pair.f (x5 ++ y176) (qV.length : Int)).bind fun jK => (code_Encode.l2 k jK 0 qV (qV.length : Int) 0 qh qi qj qb qc qV qW qd qe qX qY qf qg qZ qa)) else (none))) else (if x51 = 1 then ((some (([(qd) % 256, (qe) % 256] : List Int) : List Int)).bind fun y203 => (if x5.length + y203.length < 140737488355328 then ((code_pair.f (x5 ++ y203) (qX.length : Int)).bind fun jL => (code_Encode.l4 k jL 1 qX (qX.length : Int) 0 qh qi qj qb qc qV qW qd qe qX qY qf qg qZ qa)) else (none))) else (if x51 = 2 then ((some (([(qf) % 256, (qg) % 256] : List Int) : List Int)).bind fun y230 => (if x5.length + y230.length < 140737488355328 then ((code_pair.f (x5 ++ y230) (qZ.length : Int)).bind fun jM => (code_Encode.l6 k jM 2 qZ (qZ.length : Int) 0 qh qi qj qb qc qV qW qd qe qX qY qf qg qZ qa)) else (none))) else (none)))) else ((code_check.f k x5).bind fun je => ((code_pair.f x5 je).bind fun jf => (some (jf, 0))))
def code_Encode.l2 : Nat → List Int → Int → List (S63) → Int → Int → Int → Int → List (S48) → Int → Int → List (S63) → List Int → Int → Int → List (S63) → List Int → Int → Int → List (S63) → List Int → Option (List Int × Int)
 | 0, _, _, _, _, _, _, _, _, _, _, _, _, _, _, _, _, _, _, _, _ => none
 | k + 1, x5, x51, x77, x78, x79, qh, qi, qj, qb, qc, qV, qW, qd, qe, qX, qY, qf, qg, qZ, qa => if x79 < x78 then (if 0 ≤ x79 then (if x79 < (x77.length : Int) then ((some (([((rd_T63 x77 x79).f0) % 256, ((rd_T63 x77 x79).f1) % 256, ((rd_T63 x77 x79).f2) % 256, ((rd_T63 x77 x79).f3) % 256] : List Int) : List Int)).bind fun y187 => (if x5.length + y187.length < 140737488355328 then ((code_pair.f (x5 ++ y187) ((rd_T63 x77 x79).f4)).bind fun jN => (code_Encode.l2 k jN x51 x77 x78 (wrap64 (x79 + 1)) qh qi qj qb qc qV qW qd qe qX qY qf qg qZ qa)) else (none))) else (none)) else (none)) else (if x5.length < 140737488355328 then (code_Encode.l3 k (x5 ++ [((qW.length : Int)) % 256]) x51 qW (qW.length : Int) 0 qh qi qj qb qc qV qW qd qe qX qY qf qg qZ qa) else (none))
def code_Encode.l3 : Nat → List Int → Int → List Int → Int → Int → Int → Int → List (S48) → Int → Int → List (S63) → List Int → Int → Int → List (S63) → List Int → Int → Int → List (S63) → List Int → Option (List Int × Int)
 | 0, _, _, _, _, _, _, _, _, _, _, _, _, _, _, _, _, _, _, _, _ => none
 | k + 1, x5, x51, jI, jQ, q5, qh, qi, qj, qb, qc, qV, qW, qd, qe, qX, qY, qf, qg, qZ, qa => if q5 < jQ then (if 0 ≤ q5 then (if q5 < (jI.length : Int) then (if x5.length < 140737488355328 then (code_Encode.l3 k (x5 ++ [(rd jI q5) % 256]) x51 jI jQ (wrap64 (q5 + 1)) qh qi qj qb qc qV qW qd qe qX qY qf qg qZ qa) else (none)) else (none)) else (none)) else (code_Encode.l1 k x5 (wrap64 (x51 + 1)) qh qi qj qb qc qV qW qd qe qX qY qf qg qZ qa)
def code_Encode.l4 : Nat → List Int → Int → List (S63) → Int → Int → Int → Int → List (S48) → Int → Int → List (S63) → List Int → Int → Int → List (S63) → List Int → Int → Int → List (S63) → List Int → Option (List Int × Int)
 | 0, _, _, _, _, _, _, _, _, _, _, _, _, _, _, _, _, _, _, _, _ => none
 | k + 1, x5, x51, x77, x78, x79, qh, qi, qj, qb, qc, qV, qW, qd, qe, qX, qY, qf, qg, qZ, qa => if x79 < x78 then (if 0 ≤ x79 then (if x79 < (x77.length : Int) then ((some (([((rd_T63 x77 x79).f0) % 256, ((rd_T63 x77 x79).f1) % 256, ((rd_T63 x77 x79).f2) % 256, ((rd_T63 x77 x79).f3) % 256] : List Int) : List Int)).bind fun y214 => (if x5.length + y214.length < 140737488355328 then ((code_pair.f (x5 ++ y214) ((rd_T63 x77 x79).f4)).bind fun jO => (code_Encode.l4 k jO x51 x77 x78 (wrap64 (x79 + 1)) qh qi qj qb qc qV qW qd qe qX qY qf qg qZ qa)) else (none))) else (none)) else (none)) else (if x5.length < 140737488355328 then (code_Encode.l5 k (x5 ++ [((qY.length : Int)) % 256]) x51 qY (qY.length : Int) 0 qh qi qj qb qc qV qW qd qe qX qY qf qg qZ qa) else (none))
def code_Encode.l5 : Nat → List Int → Int → List Int → Int → Int → Int → Int → List (S48) → Int → Int → List (S63) → List Int → Int → Int → List (S63) → List Int → Int → Int → List (S63) → List Int → Option (List Int × Int)
 | 0, _, _, _, _, _, _, _, _, _, _, _, _, _, _, _, _, _, _, _, _ => none
 | k + 1, x5, x51, jI, jQ, q5, qh, qi, qj, qb, qc, qV, qW, qd, qe, qX, qY, qf, qg, qZ, qa => if q5 < jQ then (if 0 ≤ q5 then (if q5 < (jI.length : Int) then (if x5.length < 140737488355328 then (code_Encode.l5 k (x5 ++ [(rd jI q5) % 256]) x51 jI jQ (wrap64 (q5 + 1)) qh qi qj qb qc qV qW qd qe qX qY qf qg qZ qa) else (none)) else (none)) else (none)) else (code_Encode.l1 k x5 (wrap64 (x51 + 1)) qh qi qj qb qc qV qW qd qe qX qY qf qg qZ qa)
def code_Encode.l6 : Nat → List Int → Int → List (S63) → Int → Int → Int → Int → List (S48) → Int → Int → List (S63) → List Int → Int → Int → List (S63) → List Int → Int → Int → List (S63) → List Int → Option (List Int × Int)
 | 0, _, _, _, _, _, _, _, _, _, _, _, _, _, _, _, _, _, _, _, _ => none
 | k + 1, x5, x51, x77, x78, x79, qh, qi, qj, qb, qc, qV, qW, qd, qe, qX, qY, qf, qg, qZ, qa => if x79 < x78 then (if 0 ≤ x79 then (if x79 < (x77.length : Int) then ((some (([((rd_T63 x77 x79).f0) % 256, ((rd_T63 x77 x79).f1) % 256, ((rd_T63 x77 x79).f2) % 256, ((rd_T63 x77 x79).f3) % 256] : List Int) : List Int)).bind fun y241 => (if x5.length + y241.length < 140737488355328 then ((code_pair.f (x5 ++ y241) ((rd_T63 x77 x79).f4)).bind fun jP => (code_Encode.l6 k jP x51 x77 x78 (wrap64 (x79 + 1)) qh qi qj qb qc qV qW qd qe qX qY qf qg qZ qa)) else (none))) else (none)) else (none)) else (if x5.length < 140737488355328 then (code_Encode.l7 k (x5 ++ [((qa.length : Int)) % 256]) x51 qa (qa.length : Int) 0 qh qi qj qb qc qV qW qd qe qX qY qf qg qZ qa) else (none))
def code_Encode.l7 : Nat → List Int → Int → List Int → Int → Int → Int → Int → List (S48) → Int → Int → List (S63) → List Int → Int → Int → List (S63) → List Int → Int → Int → List (S63) → List Int → Option (List Int × Int)
 | 0, _, _, _, _, _, _, _, _, _, _, _, _, _, _, _, _, _, _, _, _ => none
 | k + 1, x5, x51, jI, jQ, q5, qh, qi, qj, qb, qc, qV, qW, qd, qe, qX, qY, qf, qg, qZ, qa => if q5 < jQ then (if 0 ≤ q5 then (if q5 < (jI.length : Int) then (if x5.length < 140737488355328 then (code_Encode.l7 k (x5 ++ [(rd jI q5) % 256]) x51 jI jQ (wrap64 (q5 + 1)) qh qi qj qb qc qV qW qd qe qX qY qf qg qZ qa) else (none)) else (none)) else (none)) else (code_Encode.l1 k x5 (wrap64 (x51 + 1)) qh qi qj qb qc qV qW qd qe qX qY qf qg qZ qa)
end
def code_Encode.f (k : Nat) (qP : Int) (qQ : Int) (qI : List (S48)) (qR : Int) (qS : Int) (qE : List (S63)) (qN : List Int) (qT : Int) (qU : Int) (qF : List (S63)) (qG : List Int) (qL : Int) (qM : Int) (qC : List (S63)) (qH : List Int) : Option (List Int × Int) := (code_May.f k qP qQ qI qR qS qE qN qT qU qF qG qL qM qC qH).bind fun q6 => (if q6 = 0 then (code_Encode.l0 k (([65, 78, 86, 49, (qP) % 256, (qQ) % 256, ((qI.length : Int)) % 256] : List Int)) qI (qI.length : Int) 0 qP qQ qI qR qS qE qN qT qU qF qG qL qM qC qH) else (some (([] : List Int), q6)))
theorem code_Encode.mono_l : ∀ k, (∀ y0 y1 y2 y3 y4 y5 y6 y7 y8 y9 y10 y11 y12 y13 y14 y15 y16 y17 y18, LeO (code_Encode.l0 k y0 y1 y2 y3 y4 y5 y6 y7 y8 y9 y10 y11 y12 y13 y14 y15 y16 y17 y18) (code_Encode.l0 (k + 1) y0 y1 y2 y3 y4 y5 y6 y7 y8 y9 y10 y11 y12 y13 y14 y15 y16 y17 y18)) ∧ (∀ y0 y1 y2 y3 y4 y5 y6 y7 y8 y9 y10 y11 y12 y13 y14 y15 y16, LeO (code_Encode.l1 k y0 y1 y2 y3 y4 y5 y6 y7 y8 y9 y10 y11 y12 y13 y14 y15 y16) (code_Encode.l1 (k + 1) y0 y1 y2 y3 y4 y5 y6 y7 y8 y9 y10 y11 y12 y13 y14 y15 y16)) ∧ (∀ y0 y1 y2 y3 y4 y5 y6 y7 y8 y9 y10 y11 y12 y13 y14 y15 y16 y17 y18 y19, LeO (code_Encode.l2 k y0 y1 y2 y3 y4 y5 y6 y7 y8 y9 y10 y11 y12 y13 y14 y15 y16 y17 y18 y19) (code_Encode.l2 (k + 1) y0 y1 y2 y3 y4 y5 y6 y7 y8 y9 y10 y11 y12 y13 y14 y15 y16 y17 y18 y19)) ∧ (∀ y0 y1 y2 y3 y4 y5 y6 y7 y8 y9 y10 y11 y12 y13 y14 y15 y16 y17 y18 y19, LeO (code_Encode.l3 k y0 y1 y2 y3 y4 y5 y6 y7 y8 y9 y10 y11 y12 y13 y14 y15 y16 y17 y18 y19) (code_Encode.l3 (k + 1) y0 y1 y2 y3 y4 y5 y6 y7 y8 y9 y10 y11 y12 y13 y14 y15 y16 y17 y18 y19)) ∧ (∀ y0 y1 y2 y3 y4 y5 y6 y7 y8 y9 y10 y11 y12 y13 y14 y15 y16 y17 y18 y19, LeO (code_Encode.l4 k y0 y1 y2 y3 y4 y5 y6 y7 y8 y9 y10 y11 y12 y13 y14 y15 y16 y17 y18 y19) (code_Encode.l4 (k + 1) y0 y1 y2 y3 y4 y5 y6 y7 y8 y9 y10 y11 y12 y13 y14 y15 y16 y17 y18 y19)) ∧ (∀ y0 y1 y2 y3 y4 y5 y6 y7 y8 y9 y10 y11 y12 y13 y14 y15 y16 y17 y18 y19, LeO (code_Encode.l5 k y0 y1 y2 y3 y4 y5 y6 y7 y8 y9 y10 y11 y12 y13 y14 y15 y16 y17 y18 y19) (code_Encode.l5 (k + 1) y0 y1 y2 y3 y4 y5 y6 y7 y8 y9 y10 y11 y12 y13 y14 y15 y16 y17 y18 y19)) ∧ (∀ y0 y1 y2 y3 y4 y5 y6 y7 y8 y9 y10 y11 y12 y13 y14 y15 y16 y17 y18 y19, LeO (code_Encode.l6 k y0 y1 y2 y3 y4 y5 y6 y7 y8 y9 y10 y11 y12 y13 y14 y15 y16 y17 y18 y19) (code_Encode.l6 (k + 1) y0 y1 y2 y3 y4 y5 y6 y7 y8 y9 y10 y11 y12 y13 y14 y15 y16 y17 y18 y19)) ∧ (∀ y0 y1 y2 y3 y4 y5 y6 y7 y8 y9 y10 y11 y12 y13 y14 y15 y16 y17 y18 y19, LeO (code_Encode.l7 k y0 y1 y2 y3 y4 y5 y6 y7 y8 y9 y10 y11 y12 y13 y14 y15 y16 y17 y18 y19) (code_Encode.l7 (k + 1) y0 y1 y2 y3 y4 y5 y6 y7 y8 y9 y10 y11 y12 y13 y14 y15 y16 y17 y18 y19))
 | 0 => ⟨fun _ _ _ _ _ _ _ _ _ _ _ _ _ _ _ _ _ _ _ r h => by simp [code_Encode.l0] at h, fun _ _ _ _ _ _ _ _ _ _ _ _ _ _ _ _ _ r h => by simp [code_Encode.l1] at h, fun _ _ _ _ _ _ _ _ _ _ _ _ _ _ _ _ _ _ _ _ r h => by simp [code_Encode.l2] at h, fun _ _ _ _ _ _ _ _ _ _ _ _ _ _ _ _ _ _ _ _ r h => by simp [code_Encode.l3] at h, fun _ _ _ _ _ _ _ _ _ _ _ _ _ _ _ _ _ _ _ _ r h => by simp [code_Encode.l4] at h, fun _ _ _ _ _ _ _ _ _ _ _ _ _ _ _ _ _ _ _ _ r h => by simp [code_Encode.l5] at h, fun _ _ _ _ _ _ _ _ _ _ _ _ _ _ _ _ _ _ _ _ r h => by simp [code_Encode.l6] at h, fun _ _ _ _ _ _ _ _ _ _ _ _ _ _ _ _ _ _ _ _ r h => by simp [code_Encode.l7] at h⟩
 | k + 1 => by
  obtain ⟨ih0, ih1, ih2, ih3, ih4, ih5, ih6, ih7⟩ := code_Encode.mono_l k
  refine ⟨?_, ?_, ?_, ?_, ?_, ?_, ?_, ?_⟩
  ·intro y0 y1 y2 y3 y4 y5 y6 y7 y8 y9 y10 y11 y12 y13 y14 y15 y16 y17 y18
   unfold code_Encode.l0
   repeat' first
   | (with_reducible exact ih0 ..)
   | (with_reducible exact ih1 ..)
   | (with_reducible exact ih2 ..)
   | (with_reducible exact ih3 ..)
   | (with_reducible exact ih4 ..)
   | (with_reducible exact ih5 ..)
   | (with_reducible exact ih6 ..)
   | (with_reducible exact ih7 ..)
   | (with_reducible exact code_May.mono _ _ _ _ _ _ _ _ _ _ _ _ _ _ _ _)
   | (with_reducible exact code_check.mono _ _)
   | (with_reducible exact LeO.refl _)
   | (with_reducible exact LeO.none _)
   | (with_reducible refine LeO.ite ?_ ?_)
   | (with_reducible refine LeO.bind ?_ (fun _ => ?_))
   | exact ih0 _ _ _ _ _ _ _ _ _ _ _ _ _ _ _ _ _ _ _
   | exact ih1 _ _ _ _ _ _ _ _ _ _ _ _ _ _ _ _ _
   | exact ih2 _ _ _ _ _ _ _ _ _ _ _ _ _ _ _ _ _ _ _ _
   | exact ih3 _ _ _ _ _ _ _ _ _ _ _ _ _ _ _ _ _ _ _ _
   | exact ih4 _ _ _ _ _ _ _ _ _ _ _ _ _ _ _ _ _ _ _ _
   | exact ih5 _ _ _ _ _ _ _ _ _ _ _ _ _ _ _ _ _ _ _ _
   | exact ih6 _ _ _ _ _ _ _ _ _ _ _ _ _ _ _ _ _ _ _ _
   | exact ih7 _ _ _ _ _ _ _ _ _ _ _ _ _ _ _ _ _ _ _ _
   | exact code_May.mono _ _ _ _ _ _ _ _ _ _ _ _ _ _ _ _
   | exact code_check.mono _ _
   | exact LeO.none _
   | refine LeO.ite ?_ ?_
   | refine LeO.bind ?_ (fun _ => ?_)
  ·intro y0 y1 y2 y3 y4 y5 y6 y7 y8 y9 y10 y11 y12 y13 y14 y15 y16
   unfold code_Encode.l1
   repeat' first
   | (with_reducible exact ih0 ..)
   | (with_reducible exact ih1 ..)
   | (with_reducible exact ih2 ..)
   | (with_reducible exact ih3 ..)
   | (with_reducible exact ih4 ..)
   | (with_reducible exact ih5 ..)
   | (with_reducible exact ih6 ..)
   | (with_reducible exact ih7 ..)
   | (with_reducible exact code_May.mono _ _ _ _ _ _ _ _ _ _ _ _ _ _ _ _)
   | (with_reducible exact code_check.mono _ _)
   | (with_reducible exact LeO.refl _)
   | (with_reducible exact LeO.none _)
   | (with_reducible refine LeO.ite ?_ ?_)
   | (with_reducible refine LeO.bind ?_ (fun _ => ?_))
   | exact ih0 _ _ _ _ _ _ _ _ _ _ _ _ _ _ _ _ _ _ _
   | exact ih1 _ _ _ _ _ _ _ _ _ _ _ _ _ _ _ _ _
   | exact ih2 _ _ _ _ _ _ _ _ _ _ _ _ _ _ _ _ _ _ _ _
   | exact ih3 _ _ _ _ _ _ _ _ _ _ _ _ _ _ _ _ _ _ _ _
   | exact ih4 _ _ _ _ _ _ _ _ _ _ _ _ _ _ _ _ _ _ _ _
   | exact ih5 _ _ _ _ _ _ _ _ _ _ _ _ _ _ _ _ _ _ _ _
   | exact ih6 _ _ _ _ _ _ _ _ _ _ _ _ _ _ _ _ _ _ _ _
   | exact ih7 _ _ _ _ _ _ _ _ _ _ _ _ _ _ _ _ _ _ _ _
   | exact code_May.mono _ _ _ _ _ _ _ _ _ _ _ _ _ _ _ _
   | exact code_check.mono _ _
   | exact LeO.none _
   | refine LeO.ite ?_ ?_
   | refine LeO.bind ?_ (fun _ => ?_)
  ·intro y0 y1 y2 y3 y4 y5 y6 y7 y8 y9 y10 y11 y12 y13 y14 y15 y16 y17 y18 y19
   unfold code_Encode.l2
   repeat' first
   | (with_reducible exact ih0 ..)
   | (with_reducible exact ih1 ..)
   | (with_reducible exact ih2 ..)
   | (with_reducible exact ih3 ..)
   | (with_reducible exact ih4 ..)
   | (with_reducible exact ih5 ..)
   | (with_reducible exact ih6 ..)
   | (with_reducible exact ih7 ..)
   | (with_reducible exact code_May.mono _ _ _ _ _ _ _ _ _ _ _ _ _ _ _ _)
   | (with_reducible exact code_check.mono _ _)
   | (with_reducible exact LeO.refl _)
   | (with_reducible exact LeO.none _)
   | (with_reducible refine LeO.ite ?_ ?_)
   | (with_reducible refine LeO.bind ?_ (fun _ => ?_))
   | exact ih0 _ _ _ _ _ _ _ _ _ _ _ _ _ _ _ _ _ _ _
   | exact ih1 _ _ _ _ _ _ _ _ _ _ _ _ _ _ _ _ _
   | exact ih2 _ _ _ _ _ _ _ _ _ _ _ _ _ _ _ _ _ _ _ _
   | exact ih3 _ _ _ _ _ _ _ _ _ _ _ _ _ _ _ _ _ _ _ _
   | exact ih4 _ _ _ _ _ _ _ _ _ _ _ _ _ _ _ _ _ _ _ _
   | exact ih5 _ _ _ _ _ _ _ _ _ _ _ _ _ _ _ _ _ _ _ _
   | exact ih6 _ _ _ _ _ _ _ _ _ _ _ _ _ _ _ _ _ _ _ _
   | exact ih7 _ _ _ _ _ _ _ _ _ _ _ _ _ _ _ _ _ _ _ _
   | exact code_May.mono _ _ _ _ _ _ _ _ _ _ _ _ _ _ _ _
   | exact code_check.mono _ _
   | exact LeO.none _
   | refine LeO.ite ?_ ?_
   | refine LeO.bind ?_ (fun _ => ?_)
  ·intro y0 y1 y2 y3 y4 y5 y6 y7 y8 y9 y10 y11 y12 y13 y14 y15 y16 y17 y18 y19
   unfold code_Encode.l3
   repeat' first
   | (with_reducible exact ih0 ..)
   | (with_reducible exact ih1 ..)
   | (with_reducible exact ih2 ..)
   | (with_reducible exact ih3 ..)
   | (with_reducible exact ih4 ..)
   | (with_reducible exact ih5 ..)
   | (with_reducible exact ih6 ..)
   | (with_reducible exact ih7 ..)
   | (with_reducible exact code_May.mono _ _ _ _ _ _ _ _ _ _ _ _ _ _ _ _)
   | (with_reducible exact code_check.mono _ _)
   | (with_reducible exact LeO.refl _)
   | (with_reducible exact LeO.none _)
   | (with_reducible refine LeO.ite ?_ ?_)
   | (with_reducible refine LeO.bind ?_ (fun _ => ?_))
   | exact ih0 _ _ _ _ _ _ _ _ _ _ _ _ _ _ _ _ _ _ _
   | exact ih1 _ _ _ _ _ _ _ _ _ _ _ _ _ _ _ _ _
   | exact ih2 _ _ _ _ _ _ _ _ _ _ _ _ _ _ _ _ _ _ _ _
   | exact ih3 _ _ _ _ _ _ _ _ _ _ _ _ _ _ _ _ _ _ _ _
   | exact ih4 _ _ _ _ _ _ _ _ _ _ _ _ _ _ _ _ _ _ _ _
   | exact ih5 _ _ _ _ _ _ _ _ _ _ _ _ _ _ _ _ _ _ _ _
   | exact ih6 _ _ _ _ _ _ _ _ _ _ _ _ _ _ _ _ _ _ _ _
   | exact ih7 _ _ _ _ _ _ _ _ _ _ _ _ _ _ _ _ _ _ _ _
   | exact code_May.mono _ _ _ _ _ _ _ _ _ _ _ _ _ _ _ _
   | exact code_check.mono _ _
   | exact LeO.none _
   | refine LeO.ite ?_ ?_
   | refine LeO.bind ?_ (fun _ => ?_)
  ·intro y0 y1 y2 y3 y4 y5 y6 y7 y8 y9 y10 y11 y12 y13 y14 y15 y16 y17 y18 y19
   unfold code_Encode.l4
   repeat' first
   | (with_reducible exact ih0 ..)
   | (with_reducible exact ih1 ..)
   | (with_reducible exact ih2 ..)
   | (with_reducible exact ih3 ..)
   | (with_reducible exact ih4 ..)
   | (with_reducible exact ih5 ..)
   | (with_reducible exact ih6 ..)
   | (with_reducible exact ih7 ..)
   | (with_reducible exact code_May.mono _ _ _ _ _ _ _ _ _ _ _ _ _ _ _ _)
   | (with_reducible exact code_check.mono _ _)
   | (with_reducible exact LeO.refl _)
   | (with_reducible exact LeO.none _)
   | (with_reducible refine LeO.ite ?_ ?_)
   | (with_reducible refine LeO.bind ?_ (fun _ => ?_))
   | exact ih0 _ _ _ _ _ _ _ _ _ _ _ _ _ _ _ _ _ _ _
   | exact ih1 _ _ _ _ _ _ _ _ _ _ _ _ _ _ _ _ _
   | exact ih2 _ _ _ _ _ _ _ _ _ _ _ _ _ _ _ _ _ _ _ _
   | exact ih3 _ _ _ _ _ _ _ _ _ _ _ _ _ _ _ _ _ _ _ _
   | exact ih4 _ _ _ _ _ _ _ _ _ _ _ _ _ _ _ _ _ _ _ _
   | exact ih5 _ _ _ _ _ _ _ _ _ _ _ _ _ _ _ _ _ _ _ _
   | exact ih6 _ _ _ _ _ _ _ _ _ _ _ _ _ _ _ _ _ _ _ _
   | exact ih7 _ _ _ _ _ _ _ _ _ _ _ _ _ _ _ _ _ _ _ _
   | exact code_May.mono _ _ _ _ _ _ _ _ _ _ _ _ _ _ _ _
   | exact code_check.mono _ _
   | exact LeO.none _
   | refine LeO.ite ?_ ?_
   | refine LeO.bind ?_ (fun _ => ?_)
  ·intro y0 y1 y2 y3 y4 y5 y6 y7 y8 y9 y10 y11 y12 y13 y14 y15 y16 y17 y18 y19
   unfold code_Encode.l5
   repeat' first
   | (with_reducible exact ih0 ..)
   | (with_reducible exact ih1 ..)
   | (with_reducible exact ih2 ..)
   | (with_reducible exact ih3 ..)
   | (with_reducible exact ih4 ..)
   | (with_reducible exact ih5 ..)
   | (with_reducible exact ih6 ..)
   | (with_reducible exact ih7 ..)
   | (with_reducible exact code_May.mono _ _ _ _ _ _ _ _ _ _ _ _ _ _ _ _)
   | (with_reducible exact code_check.mono _ _)
   | (with_reducible exact LeO.refl _)
   | (with_reducible exact LeO.none _)
   | (with_reducible refine LeO.ite ?_ ?_)
   | (with_reducible refine LeO.bind ?_ (fun _ => ?_))
   | exact ih0 _ _ _ _ _ _ _ _ _ _ _ _ _ _ _ _ _ _ _
   | exact ih1 _ _ _ _ _ _ _ _ _ _ _ _ _ _ _ _ _
   | exact ih2 _ _ _ _ _ _ _ _ _ _ _ _ _ _ _ _ _ _ _ _
   | exact ih3 _ _ _ _ _ _ _ _ _ _ _ _ _ _ _ _ _ _ _ _
   | exact ih4 _ _ _ _ _ _ _ _ _ _ _ _ _ _ _ _ _ _ _ _
   | exact ih5 _ _ _ _ _ _ _ _ _ _ _ _ _ _ _ _ _ _ _ _
   | exact ih6 _ _ _ _ _ _ _ _ _ _ _ _ _ _ _ _ _ _ _ _
   | exact ih7 _ _ _ _ _ _ _ _ _ _ _ _ _ _ _ _ _ _ _ _
   | exact code_May.mono _ _ _ _ _ _ _ _ _ _ _ _ _ _ _ _
   | exact code_check.mono _ _
   | exact LeO.none _
   | refine LeO.ite ?_ ?_
   | refine LeO.bind ?_ (fun _ => ?_)
  ·intro y0 y1 y2 y3 y4 y5 y6 y7 y8 y9 y10 y11 y12 y13 y14 y15 y16 y17 y18 y19
   unfold code_Encode.l6
   repeat' first
   | (with_reducible exact ih0 ..)
   | (with_reducible exact ih1 ..)
   | (with_reducible exact ih2 ..)
   | (with_reducible exact ih3 ..)
   | (with_reducible exact ih4 ..)
   | (with_reducible exact ih5 ..)
   | (with_reducible exact ih6 ..)
   | (with_reducible exact ih7 ..)
   | (with_reducible exact code_May.mono _ _ _ _ _ _ _ _ _ _ _ _ _ _ _ _)
   | (with_reducible exact code_check.mono _ _)
   | (with_reducible exact LeO.refl _)
   | (with_reducible exact LeO.none _)
   | (with_reducible refine LeO.ite ?_ ?_)
   | (with_reducible refine LeO.bind ?_ (fun _ => ?_))
   | exact ih0 _ _ _ _ _ _ _ _ _ _ _ _ _ _ _ _ _ _ _
   | exact ih1 _ _ _ _ _ _ _ _ _ _ _ _ _ _ _ _ _
   | exact ih2 _ _ _ _ _ _ _ _ _ _ _ _ _ _ _ _ _ _ _ _
   | exact ih3 _ _ _ _ _ _ _ _ _ _ _ _ _ _ _ _ _ _ _ _
   | exact ih4 _ _ _ _ _ _ _ _ _ _ _ _ _ _ _ _ _ _ _ _
   | exact ih5 _ _ _ _ _ _ _ _ _ _ _ _ _ _ _ _ _ _ _ _
   | exact ih6 _ _ _ _ _ _ _ _ _ _ _ _ _ _ _ _ _ _ _ _
   | exact ih7 _ _ _ _ _ _ _ _ _ _ _ _ _ _ _ _ _ _ _ _
   | exact code_May.mono _ _ _ _ _ _ _ _ _ _ _ _ _ _ _ _
   | exact code_check.mono _ _
   | exact LeO.none _
   | refine LeO.ite ?_ ?_
   | refine LeO.bind ?_ (fun _ => ?_)
  ·intro y0 y1 y2 y3 y4 y5 y6 y7 y8 y9 y10 y11 y12 y13 y14 y15 y16 y17 y18 y19
   unfold code_Encode.l7
   repeat' first
   | (with_reducible exact ih0 ..)
   | (with_reducible exact ih1 ..)
   | (with_reducible exact ih2 ..)
   | (with_reducible exact ih3 ..)
   | (with_reducible exact ih4 ..)
   | (with_reducible exact ih5 ..)
   | (with_reducible exact ih6 ..)
   | (with_reducible exact ih7 ..)
   | (with_reducible exact code_May.mono _ _ _ _ _ _ _ _ _ _ _ _ _ _ _ _)
   | (with_reducible exact code_check.mono _ _)
   | (with_reducible exact LeO.refl _)
   | (with_reducible exact LeO.none _)
   | (with_reducible refine LeO.ite ?_ ?_)
   | (with_reducible refine LeO.bind ?_ (fun _ => ?_))
   | exact ih0 _ _ _ _ _ _ _ _ _ _ _ _ _ _ _ _ _ _ _
   | exact ih1 _ _ _ _ _ _ _ _ _ _ _ _ _ _ _ _ _
   | exact ih2 _ _ _ _ _ _ _ _ _ _ _ _ _ _ _ _ _ _ _ _
   | exact ih3 _ _ _ _ _ _ _ _ _ _ _ _ _ _ _ _ _ _ _ _
   | exact ih4 _ _ _ _ _ _ _ _ _ _ _ _ _ _ _ _ _ _ _ _
   | exact ih5 _ _ _ _ _ _ _ _ _ _ _ _ _ _ _ _ _ _ _ _
   | exact ih6 _ _ _ _ _ _ _ _ _ _ _ _ _ _ _ _ _ _ _ _
   | exact ih7 _ _ _ _ _ _ _ _ _ _ _ _ _ _ _ _ _ _ _ _
   | exact code_May.mono _ _ _ _ _ _ _ _ _ _ _ _ _ _ _ _
   | exact code_check.mono _ _
   | exact LeO.none _
   | refine LeO.ite ?_ ?_
   | refine LeO.bind ?_ (fun _ => ?_)
theorem code_Encode.mono : ∀ a0 a1 a2 a3 a4 a5 a6 a7 a8 a9 a10 a11 a12 a13 a14 k, LeO (code_Encode.f k a0 a1 a2 a3 a4 a5 a6 a7 a8 a9 a10 a11 a12 a13 a14) (code_Encode.f (k + 1) a0 a1 a2 a3 a4 a5 a6 a7 a8 a9 a10 a11 a12 a13 a14) := by
 intro a0 a1 a2 a3 a4 a5 a6 a7 a8 a9 a10 a11 a12 a13 a14 k
 obtain ⟨ih0, ih1, ih2, ih3, ih4, ih5, ih6, ih7⟩ := code_Encode.mono_l k
 unfold code_Encode.f
 repeat' first
   | (with_reducible exact ih0 ..)
   | (with_reducible exact ih1 ..)
   | (with_reducible exact ih2 ..)
   | (with_reducible exact ih3 ..)
   | (with_reducible exact ih4 ..)
   | (with_reducible exact ih5 ..)
   | (with_reducible exact ih6 ..)
   | (with_reducible exact ih7 ..)
   | (with_reducible exact code_May.mono _ _ _ _ _ _ _ _ _ _ _ _ _ _ _ _)
   | (with_reducible exact code_check.mono _ _)
   | (with_reducible exact LeO.refl _)
   | (with_reducible exact LeO.none _)
   | (with_reducible refine LeO.ite ?_ ?_)
   | (with_reducible refine LeO.bind ?_ (fun _ => ?_))
   | exact ih0 _ _ _ _ _ _ _ _ _ _ _ _ _ _ _ _ _ _ _
   | exact ih1 _ _ _ _ _ _ _ _ _ _ _ _ _ _ _ _ _
   | exact ih2 _ _ _ _ _ _ _ _ _ _ _ _ _ _ _ _ _ _ _ _
   | exact ih3 _ _ _ _ _ _ _ _ _ _ _ _ _ _ _ _ _ _ _ _
   | exact ih4 _ _ _ _ _ _ _ _ _ _ _ _ _ _ _ _ _ _ _ _
   | exact ih5 _ _ _ _ _ _ _ _ _ _ _ _ _ _ _ _ _ _ _ _
   | exact ih6 _ _ _ _ _ _ _ _ _ _ _ _ _ _ _ _ _ _ _ _
   | exact ih7 _ _ _ _ _ _ _ _ _ _ _ _ _ _ _ _ _ _ _ _
   | exact code_May.mono _ _ _ _ _ _ _ _ _ _ _ _ _ _ _ _
   | exact code_check.mono _ _
   | exact LeO.none _
   | refine LeO.ite ?_ ?_
   | refine LeO.bind ?_ (fun _ => ?_)
def code_Encode.T13 : Bool × List (List Nat × List Nat) := (true, [([], []), ([], []), ([1], [1]), ([2], [2]), ([3], [3]), ([4], [4]), ([], []), ([6], [6]), ([7], [7]), ([8], [8]), ([9], [9]), ([5, 10], [5, 10]), ([0, 11], [0, 11]), ([12, 12, 0, 1, 2, 3, 4, 5, 6, 7, 8, 9, 10, 11, 12], [0, 12])])
def code_Encode.B13 : List Nat := [0, 0, 2, 6, 14, 30, 0, 64, 192, 448, 960, 2046, 4095, 8191]
theorem code_Encode.tab13 : rtab .any (opsOf Try.f12 13) = code_Encode.T13 := by kernel_rfl
theorem code_Encode.bits13 : waitsOk code_Encode.T13.2 code_Encode.B13 = true := by kernel_rfl
set_option maxHeartbeats 8000000 in
set_option maxRecDepth 100000 in
theorem code_Encode.calls (k : Nat) (qP : Int) (qQ : Int) (qv : Option Addr) (qu : Nat) (qI : List (S48)) (qR : Int) (qS : Int) (q0 : Option Addr) (qw : Nat) (qE : List (S63)) (qx : Option Addr) (qy : Nat) (qN : List Int) (qT : Int) (qU : Int) (q1 : Option Addr) (qz : Nat) (qF : List (S63)) (qm : Option Addr) (qn : Nat) (qG : List Int) (qL : Int) (qM : Int) (qr : Option Addr) (qo : Nat) (qC : List (S63)) (qp : Option Addr) (qq : Nat) (qH : List Int) (r1 : List Int) (r2 : Int) (w : World) (yH : Kd.C k48 w qv qI.length qI) (yI : qI.length ≤ qu) (yJ : Kd.C k63 w q0 qE.length qE) (yK : qE.length ≤ qw) (yL : Kd.C (Kd.int .i64) w qx qN.length qN) (yM : qN.length ≤ qy) (yN : Kd.C k63 w q1 qF.length qF) (yO : qF.length ≤ qz) (jw : Kd.C (Kd.int .i64) w qm qG.length qG) (jx : qG.length ≤ qn) (jy : Kd.C k63 w qr qC.length qC) (jz : qC.length ≤ qo) (j0 : Kd.C (Kd.int .i64) w qp qH.length qH) (j1 : qH.length ≤ qq) (h : code_Encode.f k qP qQ qI qR qS qE qN qT qU qF qG qL qM qC qH = some (r1, r2)) :
  Calls Try.prog 12 #[.agg #[.int .i64 qP, .int .i64 qQ, .slice qv qI.length qu, .int .i64 qR, .int .i64 qS, .slice q0 qE.length qw, .slice qx qN.length qy, .int .i64 qT, .int .i64 qU, .slice q1 qF.length qz, .slice qm qG.length qn, .int .i64 qL, .int .i64 qM, .slice qr qC.length qo, .slice qp qH.length qq]] w fun e w' => ∃ v0_ : Value, e = .returned (.tuple #[v0_, .int .i64 r2]) ∧ Kd.R (Kd.int .u8) 5 w' w.heap.size (fun _ => True) v0_ r1 ∧ Below w.heap.size w w' := by
 have hu28 := Try.underlying28
 have hu48 := Try.underlying48
 have hu63 := Try.underlying63
 have jo := aM yH
 have yP := aM yI
 clear yH yI
 have jp := aM yJ
 have yQ := aM yK
 clear yJ yK
 have jq := aM yL
 have yR := aM yM
 clear yL yM
 have jr := aM yN
 have yS := aM yO
 clear yN yO
 have jl := aM jw
 have j2 := aM jx
 clear jw jx
 have jm := aM jy
 have j3 := aM jz
 clear jy jz
 have jn := aM j0
 have j4 := aM j1
 clear j0 j1
 have HB := aM (Below.refl w.heap.size w)
 have H : ((code_May.f k qP qQ qI qR qS qE qN qT qU qF qG qL qM qC qH).bind fun q6 => (if q6 = 0 then (code_Encode.l0 k (([65, 78, 86, 49, (qP) % 256, (qQ) % 256, ((qI.length : Int)) % 256] : List Int)) qI (qI.length : Int) 0 qP qQ qI qR qS qE qN qT qU qF qG qL qM qC qH) else (some (([] : List Int), q6)))) = some (r1, r2) := h
 clear h
 replace H := Option.bind_eq_some_iff.mp H
 obtain ⟨q6, A20, H⟩ := H
 replace H : (if q6 = 0 then (code_Encode.l0 k (([65, 78, 86, 49, (qP) % 256, (qQ) % 256, ((qI.length : Int)) % 256] : List Int)) qI (qI.length : Int) 0 qP qQ qI qR qS qE qN qT qU qF qG qL qM qC qH) else (some (([] : List Int), q6))) = some (r1, r2) := H
 have A2 := aM A20
 clear A20
 by_cases c3 : q6 = 0
 ·rw [if_pos c3] at H
  have c3b0 : (q6 == 0) = true := beq_iff_eq.mpr c3
  have c3b1 : (q6 != 0) = false := bne_eq_false_iff_eq.mpr c3
  clear c3
  obtain ⟨y160, hy160⟩ : ∃ y_ : List Int, y_ = (([65, 78, 86, 49, (qP) % 256, (qQ) % 256, ((qI.length : Int)) % 256] : List Int)) := ⟨_, rfl⟩
  replace H : (code_Encode.l0 k y160 qI (qI.length : Int) 0 qP qQ qI qR qS qE qN qT qU qF qG qL qM qC qH) = some (r1, r2) := by first | (rw [hy160]; with_reducible exact H) | (have H2_ := (Option.bind_some _ _).symm.trans H; rw [hy160]; with_reducible exact H2_) | (have H2_ := (Option.bind_some _ _).symm.trans H; with_reducible exact H2_) | with_reducible exact H | (rw [hy160]; exact H) | exact H
  have Ny160 := aM hy160
  clear hy160
  have H' := aM H
  clear H
  have yX : ∀ (g_ : Nat) (W : World), Sem.run Try.prog (Instr.index 58 (.agg #[.pointer (some ⟨g_, 3, none⟩), .pointer (some ⟨g_, 7, none⟩), .pointer (some ⟨g_, 11, none⟩)]) (.int .i64 0)) W = .ok (.pointer (some ⟨g_, 3, none⟩)) W := fun _ _ => by kernel_rfl
  have yY : ∀ (g_ : Nat) (W : World), Sem.run Try.prog (Instr.index 58 (.agg #[.pointer (some ⟨g_, 3, none⟩), .pointer (some ⟨g_, 7, none⟩), .pointer (some ⟨g_, 11, none⟩)]) (.int .i64 1)) W = .ok (.pointer (some ⟨g_, 7, none⟩)) W := fun _ _ => by kernel_rfl
  have yZ : ∀ (g_ : Nat) (W : World), Sem.run Try.prog (Instr.index 58 (.agg #[.pointer (some ⟨g_, 3, none⟩), .pointer (some ⟨g_, 7, none⟩), .pointer (some ⟨g_, 11, none⟩)]) (.int .i64 2)) W = .ok (.pointer (some ⟨g_, 11, none⟩)) W := fun _ _ => by kernel_rfl
  have kcB := fun (w : World) (C : Array Value) (n c : Nat) => Lib.run_convert_bytes_const (P := Try.prog) w 31 5 C n c Try.underlying31 Try.underlying5
  go_enter Try.func12, Try.ntmps12
  go_wp2_with (first | ((with_reducible refine gate_dst (N := 1) rfl ?_); refine box_event ?hg (N := 1) ?hd (cs := #[.int .i64 qP, .int .i64 qQ, .slice qv qI.length qu, .int .i64 qR, .int .i64 qS, .slice q0 qE.length qw, .slice qx qN.length qy, .int .i64 qT, .int .i64 qU, .slice q1 qF.length qz, .slice qm qG.length qn, .int .i64 qL, .int .i64 qM, .slice qr qC.length qo, .slice qp qH.length qq]) (t := 28) ?hr ?_; (case hd => rfl); (case hg => rfl); (case hr => first | (go_simp; done) | (go_simp; rfl)); intro qD hg w4 hbox hb; have qA := aM (hbox); have yj := aM ((by rw [hg]; exact (below_size (lB HB)) : w.heap.size ≤ qD)); have qJ := aM ((by rw [hg]; exact (below_size (lB HB)) : w.heap.size ≤ qD)); replace HB := aM (below_step (lB HB) hb); clear hb hbox hg; have qAr := zc15 qA.out; have qAs := fun i_ : Nat => blk_frozen qA.out i_) | ((with_reducible refine gate_callee (f := 20) rfl ?_); refine goesL_ (some 15) rfl rfl Try.func20 (by kernel_rfl) rfl #[.agg #[.int .i64 qP, .int .i64 qQ, .slice qv qI.length qu, .int .i64 qR, .int .i64 qS, .slice q0 qE.length qw, .slice qx qN.length qy, .int .i64 qT, .int .i64 qU, .slice q1 qF.length qz, .slice qm qG.length qn, .int .i64 qL, .int .i64 qM, .slice qr qC.length qo, .slice qp qH.length qq]] rfl (by (try simp only [List.map_toArray, List.map_cons, List.map_nil]); first | done | rfl | (simp only [List.length_drop, List.length_take]; rfl)) ?_; (with_reducible refine (code_May.calls k qP qQ _ _ qI qR qS _ _ qE _ _ qN qT qU _ _ qF _ _ qG qL qM _ _ qC _ _ qH q6 _ ?side1 ?side2 ?side3 ?side4 ?side5 ?side6 ?side7 ?side8 ?side9 ?side10 ?side11 ?side12 ?side13 ?side14 A2.out).mono ?_); (case side1 => refine lY ?_; exact (Kd.C_below jo.out HB.out)); (case side2 => exact yP.out); (case side3 => refine lY ?_; exact (Kd.C_below jp.out HB.out)); (case side4 => exact yQ.out); (case side5 => refine lY ?_; exact (Kd.C_below jq.out HB.out)); (case side6 => exact yR.out); (case side7 => refine lY ?_; exact (Kd.C_below jr.out HB.out)); (case side8 => exact yS.out); (case side9 => refine lY ?_; exact (Kd.C_below jl.out HB.out)); (case side10 => exact j2.out); (case side11 => refine lY ?_; exact (Kd.C_below jm.out HB.out)); (case side12 => exact j3.out); (case side13 => refine lY ?_; exact (Kd.C_below jn.out HB.out)); (case side14 => exact j4.out); rintro e w6 ⟨rfl, hb⟩; refine ⟨_, rfl, ?_⟩; replace qA := aM (blk_below (g := qD) (lK qA) hb); replace HB := aM (below_step (by have := GEc.mk qJ.out; exact lS HB) hb); (try clear hb); (try clear hb2); (try clear hk); (try clear hi); have qAt := zc15 qA.out; have qAu := fun i_ : Nat => blk_frozen qA.out i_) | ((with_reducible refine gate_dst (N := 20) rfl ?_); have hm0_ := (show World.cell? (World.alloc w6 (.cells #[.int .u8 65, .int .u8 78, .int .u8 86, .int .u8 49] 5 (4, 5))) ⟨qD, 0, none⟩ = some (.int .i64 qP) from (blk_cell (blk_alloc qA.out (.cells #[.int .u8 65, .int .u8 78, .int .u8 86, .int .u8 49] 5 (4, 5))) 0).trans rfl); have hm1_ := (show World.cell? (World.alloc w6 (.cells #[.int .u8 65, .int .u8 78, .int .u8 86, .int .u8 49] 5 (4, 5))) ⟨qD, 1, none⟩ = some (.int .i64 qQ) from (blk_cell (blk_alloc qA.out (.cells #[.int .u8 65, .int .u8 78, .int .u8 86, .int .u8 49] 5 (4, 5))) 1).trans rfl); have hm2_ := (show World.cell? (World.alloc w6 (.cells #[.int .u8 65, .int .u8 78, .int .u8 86, .int .u8 49] 5 (4, 5))) ⟨qD, 2, none⟩ = some (.slice qv qI.length qu) from (blk_cell (blk_alloc qA.out (.cells #[.int .u8 65, .int .u8 78, .int .u8 86, .int .u8 49] 5 (4, 5))) 2).trans rfl); refine Kd.event_run (v := .slice (some ⟨w6.heap.size, 0, none⟩) 4 4) (w1 := World.alloc w6 (.cells #[.int .u8 65, .int .u8 78, .int .u8 86, .int .u8 49] 5 (4, 5))) rfl ?hr ?_; (case hr => first | (go_simp; done) | (go_simp; rfl))) | ((with_reducible refine gate_dst (N := 32) rfl ?_); refine code_marked.app (x := (qP) % 256) (y := (qQ) % 256) (z := ((qI.length : Int)) % 256) rfl (.tmp 20) (.tmp 31) rfl Try.underlying31 info5 ?hs ?hx ?_; (case hs => first | (go_simp; done) | (go_simp; rfl)); (case hx => first | (go_simp; done) | (go_simp; rfl)); intro v161 w8 ho9 hb hg_ hnew_; clear hg_ hnew_; (first | rw [← Ny160.out] at ho9 | (simp only [Int.reduceToNat] at ho9; rw [← Ny160.out] at ho9)); have yk := aM (Kd.R_lower ho9 (below_size (by have := GEc.mk qJ.out; exact lS HB))); replace qA := aM (blk_below (g := qD) (lK qA) hb); replace HB := aM (below_step (by have := GEc.mk qJ.out; exact lS HB) hb); clear hb ho9; have qAP := zc15 qA.out; have qAQ := fun i_ : Nat => blk_frozen qA.out i_))
  go_loopg [5, 36] k (fun kq v5 v36 w' => ∃ (jJ : List Int) (qk : Int), v36 = .int .i64 qk ∧ Aside0 (code_Encode.l0 kq jJ qI (qI.length : Int) qk qP qQ qI qR qS qE qN qT qU qF qG qL qM qC qH = some (r1, r2)) ∧ Aside0 (kq ≤ k) ∧ Aside0 (Kd.R (Kd.int .u8) 5 w' w.heap.size (fun _ => True) v5 jJ) ∧ Aside0 (w'.heap[qD]? = some (.cells #[.int .i64 qP, .int .i64 qQ, (.slice qv qI.length qu), .int .i64 qR, .int .i64 qS, (.slice q0 qE.length qw), (.slice qx qN.length qy), .int .i64 qT, .int .i64 qU, (.slice q1 qF.length qz), (.slice qm qG.length qn), .int .i64 qL, .int .i64 qM, (.slice qr qC.length qo), (.slice qp qH.length qq)] 28 (0, 0))) ∧ Aside0 (Below w.heap.size w w'))
  case atStart => exact ⟨(y160), (0), (by first | rfl | (simp; done) | (simp [*]; done) | (simp [wrap64]; done)), H', ⟨Nat.le_refl _⟩, ⟨by (with_reducible repeat (first | apply Kd.R_alloc | apply Kd.R_drewN | apply Kd.R_drew)); exact yk.out⟩, ⟨by refine lZ ?_; exact qA.out⟩, ⟨by repeat (first | (with_reducible first | exact HB.out | apply below_alloc | apply pw_below_drewN | apply below_drew1 | refine below_set ?_ qJ.out) | exact HB.out)⟩⟩
  case round =>
   clear H'
   try clear c3
   obtain ⟨jJ, qk, rfl, HA, HK1, qK, qA, HB⟩ := hrel
   cases gk with
   | zero => exact absurd HA.out (by simp [code_Encode.l0])
   | succ k1 =>
    have H := HA.out
    clear HA
    simp only [code_Encode.l0] at H
    by_cases c11 : qk < (qI.length : Int)
    ·rw [if_pos c11] at H
     have c11b0 : decide (qk < (qI.length : Int)) = true := decide_eq_true c11
     clear c11
     by_cases c12 : 0 ≤ qk
     ·rw [if_pos c12] at H
      have c12b0 : decide (0 ≤ qk) = true := decide_eq_true c12
      clear c12
      by_cases c13 : qk < (qI.length : Int)
      ·rw [if_pos c13] at H
       have c13b0 : decide (qk < (qI.length : Int)) = true := decide_eq_true c13
       clear c13
       obtain ⟨y165, hy165⟩ : ∃ y_ : List Int, y_ = (([((rd_T48 qI qk).f0) % 256, ((rd_T48 qI qk).f1) % 256] : List Int)) := ⟨_, rfl⟩
       replace H : (if jJ.length + y165.length < 140737488355328 then (code_Encode.l0 k1 (jJ ++ y165) qI (qI.length : Int) (wrap64 (qk + 1)) qP qQ qI qR qS qE qN qT qU qF qG qL qM qC qH) else (none)) = some (r1, r2) := by first | (rw [hy165]; with_reducible exact H) | (have H2_ := (Option.bind_some _ _).symm.trans H; rw [hy165]; with_reducible exact H2_) | (have H2_ := (Option.bind_some _ _).symm.trans H; with_reducible exact H2_) | with_reducible exact H | (rw [hy165]; exact H) | exact H
       have Ny165 := aM hy165
       clear hy165
       by_cases c14 : jJ.length + y165.length < 140737488355328
       ·rw [if_pos c14] at H
        have LMc14 := aM c14
        clear c14
        obtain ⟨y168, hy168⟩ : ∃ y_ : List Int, y_ = (jJ ++ y165) := ⟨_, rfl⟩
        replace H : (code_Encode.l0 k1 y168 qI (qI.length : Int) (wrap64 (qk + 1)) qP qQ qI qR qS qE qN qT qU qF qG qL qM qC qH) = some (r1, r2) := by first | (rw [hy168]; with_reducible exact H) | (have H2_ := (Option.bind_some _ _).symm.trans H; rw [hy168]; with_reducible exact H2_) | (have H2_ := (Option.bind_some _ _).symm.trans H; with_reducible exact H2_) | with_reducible exact H | (rw [hy168]; exact H) | exact H
        have Ny168 := aM hy168
        clear hy168
        have H' := aM H
        clear H
        have p163 : 0 ≤ (qk : Int) := of_decide_eq_true (by first | (with_reducible assumption) | assumption)
        have q163 : qk < (qI.length : Int) := of_decide_eq_true (by first | (with_reducible assumption) | assumption)
        obtain ⟨ad163, e163, hx163_0, hx163_1⟩ := at_T48 jo.out qk p163 q163
        cases e163
        replace hx163_0 := (HB.out.cell (World.block_lt_of_cell? w _ hx163_0)).trans hx163_0
        replace hx163_1 := (HB.out.cell (World.block_lt_of_cell? w _ hx163_1)).trans hx163_1
        replace p163 := eq_true p163
        replace q163 := eq_true q163
        go_wp2_with (first | ((with_reducible refine gate_dst (N := 7) rfl ?_); refine box_event ?hg (N := 7) ?hd (cs := #[.int .i64 0, .int .i64 0]) (t := 48) ?hr ?_; (case hd => rfl); (case hg => rfl); (case hr => first | (go_simp; done) | (go_simp; rfl)); intro jS hg w15 hbox hb; replace qK := aM (Kd.R_below (lR qK) hb); have jD := aM (hbox); have qAx := aM ((by rw [hg]; exact (below_size (by have := GEc.mk qJ.out; exact lS HB)) : w.heap.size ≤ jS)); have jZ := aM ((by rw [hg]; exact (below_size (by have := GEc.mk qJ.out; exact lS HB)) : w.heap.size ≤ jS)); replace HB := aM (below_step (by have := GEc.mk qJ.out; exact lS HB) hb); have jR := aM ((by rw [hg]; exact Nat.ne_of_lt (blk_lt (g := qD) (lK qA)) : qD ≠ jS)); have j5 := aM ((by rw [hg]; exact Nat.ne_of_gt (blk_lt (g := qD) (lK qA)) : jS ≠ qD)); replace qA := aM (blk_below (g := qD) (lK qA) hb); clear hb hbox hg; have qAy := j5.out; have qAz := jR.out; have qAR := zc2 jD.out; have qAS := fun i_ : Nat => blk_frozen jD.out i_) | ((with_reducible refine gate_dst (N := 47) rfl ?_); refine Kd.R_lit (Kd.int .u8) _ 5 ?hg (N := 47) ?hd (xs := ([((rd_T48 qI qk).f0) % 256, ((rd_T48 qI qk).f1) % 256] : List Int)) (inner := [.int .u8 (((rd_T48 qI qk).f0) % 256), .int .u8 (((rd_T48 qI qk).f1) % 256)]) (ok := fun _ => True) (okp := fun _ => True) ?hr ?hp (fun _ hk => hk) trivial (Below.refl _ _) (Nat.le_refl _) (by simp) ?_; (case hd => rfl); (case hg => rfl); (case hr => first | (go_simp; done) | (go_simp; rfl)); (case hp => exact (Reps.one (show Kd.M (Kd.int .u8) _ _ _ (((rd_T48 qI qk).f0) % 256) [.int .u8 (((rd_T48 qI qk).f0) % 256)] from rfl) (Reps.one (show Kd.M (Kd.int .u8) _ _ _ (((rd_T48 qI qk).f1) % 256) [.int .u8 (((rd_T48 qI qk).f1) % 256)] from rfl) (Reps.none _ _)))); intro v166 w18 ho19 hb hg_ hnew_; clear hg_ hnew_; (first | rw [← Ny165.out] at ho19 | (simp only [Int.reduceToNat] at ho19; rw [← Ny165.out] at ho19)); have ja := aM (Kd.R_lower (Kd.R_new' ho19 (Kd.R_lt (by (with_reducible repeat (first | apply Kd.R_alloc | apply Kd.R_drewN | apply Kd.R_drew)); exact (Kd.R_mono (fA (fA (Kd.R_types qK.out jD.out (by decide)))) (fun _ h_ => h_.1))))) (below_size (by have := GEc.mk qJ.out; have := GEc.mk jZ.out; exact lS HB))); replace qK := aM (Kd.R_elder' (by (with_reducible repeat (first | apply Kd.R_alloc | apply Kd.R_drewN | apply Kd.R_drew)); exact (Kd.R_mono (fA (fA (Kd.R_types qK.out jD.out (by decide)))) (fun _ h_ => h_.1))) (Kd.R_base ho19) hb); replace qA := aM (blk_below (g := qD) (o := .cells #[.int .i64 qP, .int .i64 qQ, .slice (some ad163) qI.length qu, .int .i64 qR, .int .i64 qS, .slice q0 qE.length qw, .slice qx qN.length qy, .int .i64 qT, .int .i64 qU, .slice q1 qF.length qz, .slice qm qG.length qn, .int .i64 qL, .int .i64 qM, .slice qr qC.length qo, .slice qp qH.length qq] 28 (0, 0)) (by refine lZ ?_; refine blk_far ?_ jR.out _; refine lZ ?_; refine blk_far ?_ jR.out _; refine lZ ?_; exact qA.out) hb); replace jD := aM (blk_below (g := jS) (o := .cells #[.int .i64 ((rd_T48 qI qk).f0), .int .i64 ((rd_T48 qI qk).f1)] 48 (0, 0)) (by refine lZ ?_; refine blk_put (cs := #[.int .i64 ((rd_T48 qI qk).f0), .int .i64 0]) ?_ 1 _ rfl; refine lZ ?_; refine blk_put (cs := #[.int .i64 0, .int .i64 0]) ?_ 0 _ rfl; refine lZ ?_; exact jD.out) hb); replace HB := aM (below_step (by have := GEc.mk qJ.out; have := GEc.mk jZ.out; exact lS HB) hb); clear hb ho19; obtain ⟨yz, qAA, eo21⟩ := Kd.R_slice ja.out; subst eo21) | ((with_reducible refine gate_builtin (b := .append) (xs := #[.tmp 40, .tmp 47]) rfl ?_); at_builtin; refine Kd.R_append_rows (Kd.int .u8) (w0 := w) w.heap.size rfl (.tmp 40) (.tmp 47) 31 5 (.int .u8 0) 1 rfl Try.underlying31 info5 rfl (by decide) (by omega) u5 jJ y165 _ _ _ (fun k_ => some k_ ≠ (.slice yz y165.length qAA : Value).ownBlock) (fun _ => False) rfl rfl ?aO ?aR (fun _ _ h => h) (fun _ h => h.elim) ?aF ?aB ?aS ?aL ?_; (case aR => repeat (first | exact (Kd.R_reads' ja.out).2.2 | (with_reducible refine Kd.C_alloc ?_ _) | (with_reducible refine Kd.C_drewN ?_ _) | (with_reducible refine Kd.C_drew ?_))); (case aB => exact (by have := GEc.mk qJ.out; have := GEc.mk jZ.out; exact lS HB)); (case aF => exact (fun k_ hk => Kd.fresh' (Kd.R_lt (lR ja)) k_ hk)); (case aO => exact (by (with_reducible repeat (first | apply Kd.R_alloc | apply Kd.R_drewN | apply Kd.R_drew)); exact Kd.R_mono qK.out (fun _ hk => hk.2))); (case aS => exact (below_size (by have := GEc.mk qJ.out; have := GEc.mk jZ.out; exact lS HB))); (case aL => have := LMc14.out; omega); intro v169 w20 ho hb hg hat; rw [← Ny168.out] at ho; replace qA := aM (blk_grown (g := qD) (lK qA) hg (Kd.R_ne qK.out qA.out (by decide))); replace jD := aM (blk_grown (g := jS) (lK jD) hg (Kd.R_ne qK.out jD.out (by decide))); replace ja := aM (Kd.R_after (ok := (fun _ => True)) (lR ja) hg hat); replace HB := aM (hb); have yl := aM (ho); clear qK; clear ho hb hg hat))
        go_roundg k1
        case measure => have := HK1.out; omega
        case rel => exact ⟨(y168), (wrap64 (qk + 1)), (by first | rfl | (simp; done) | (simp [*]; done) | (simp [wrap64]; done)), H', ⟨by have := HK1.out; omega⟩, ⟨by (with_reducible repeat (first | apply Kd.R_alloc | apply Kd.R_drewN | apply Kd.R_drew)); exact Kd.R_mono yl.out (fun _ hk => trivial)⟩, ⟨by refine lZ ?_; exact qA.out⟩, ⟨by repeat (first | (with_reducible first | exact HB.out | apply below_alloc | apply pw_below_drewN | apply below_drew1 | refine below_set ?_ qJ.out | refine below_set ?_ jZ.out) | exact HB.out)⟩⟩
       ·rw [if_neg c14] at H
        exact absurd H (by simp)
      ·rw [if_neg c13] at H
       exact absurd H (by simp)
     ·rw [if_neg c12] at H
      exact absurd H (by simp)
    ·rw [if_neg c11] at H
     have c11b0 : decide (qk < (qI.length : Int)) = false := decide_eq_false c11
     clear c11
     replace H := Option.bind_eq_some_iff.mp H
     obtain ⟨ya, A220, H⟩ := H
     replace H : (code_Encode.l1 k1 jJ 0 qP qQ qI qR qS qE qN qT qU qF qG qL qM qC qH) = some (r1, r2) := H
     have A22 := aM A220
     clear A220
     have H' := aM H
     clear H
     go_wp2_with (first | ((with_reducible refine gate_callee (f := 27) rfl ?_); refine goesL_ (some 50) rfl rfl Try.func27 (by kernel_rfl) rfl #[.pointer (some ⟨qD, 0, none⟩)] rfl (by (try simp only [List.map_toArray, List.map_cons, List.map_nil]); first | done | rfl | (simp only [List.length_drop, List.length_take]; rfl)) ?_; (with_reducible refine (code_programs.calls 158 ya qD _ A22.out).mono ?_); rintro e w23 ⟨rfl, hb⟩; refine ⟨_, rfl, ?_⟩; replace qK := aM (Kd.R_below (lR qK) hb); replace qA := aM (blk_below (g := qD) (lK qA) hb); replace HB := aM (below_step (by have := GEc.mk qJ.out; exact lS HB) hb); (try clear hb); (try clear hb2); (try clear hk); (try clear hi)))
     go_loopg [5, 51] k1 (fun kq v5 v51 w' => ∃ (qs : List Int) (jE : Int), v51 = .int .i64 jE ∧ Aside0 (code_Encode.l1 kq qs jE qP qQ qI qR qS qE qN qT qU qF qG qL qM qC qH = some (r1, r2)) ∧ Aside0 (kq ≤ k1) ∧ Aside0 (Kd.R (Kd.int .u8) 5 w' w.heap.size (fun _ => True) v5 qs) ∧ Aside0 (w'.heap[qD]? = some (.cells #[.int .i64 qP, .int .i64 qQ, (.slice qv qI.length qu), .int .i64 qR, .int .i64 qS, (.slice q0 qE.length qw), (.slice qx qN.length qy), .int .i64 qT, .int .i64 qU, (.slice q1 qF.length qz), (.slice qm qG.length qn), .int .i64 qL, .int .i64 qM, (.slice qr qC.length qo), (.slice qp qH.length qq)] 28 (0, 0))) ∧ Aside0 (Below w.heap.size w w'))
     case atStart => exact ⟨(jJ), (0), (by first | rfl | (simp; done) | (simp [*]; done) | (simp [wrap64]; done)), H', ⟨Nat.le_refl _⟩, ⟨by (with_reducible repeat (first | apply Kd.R_alloc | apply Kd.R_drewN | apply Kd.R_drew)); exact qK.out⟩, ⟨by refine lZ ?_; exact qA.out⟩, ⟨by repeat (first | (with_reducible first | exact HB.out | apply below_alloc | apply pw_below_drewN | apply below_drew1 | refine below_set ?_ qJ.out) | exact HB.out)⟩⟩
     case round =>
      clear H'
      try clear c3
      try clear c11
      obtain ⟨qs, jE, rfl, HA, HK2, qK, qA, HB⟩ := hrel
      cases gk with
      | zero => exact absurd HA.out (by simp [code_Encode.l1])
      | succ k2 =>
       have H := HA.out
       clear HA
       simp only [code_Encode.l1] at H
       by_cases c24 : jE < 3
       ·rw [if_pos c24] at H
        have c24b0 : decide (jE < 3) = true := decide_eq_true c24
        clear c24
        by_cases c25 : jE = 0
        ·rw [if_pos c25] at H
         (first | rw [c25] | skip)
         obtain ⟨y176, hy176⟩ : ∃ y_ : List Int, y_ = (([(qR) % 256, (qS) % 256] : List Int)) := ⟨_, rfl⟩
         replace H : (if qs.length + y176.length < 140737488355328 then ((code_pair.f (qs ++ y176) (qE.length : Int)).bind fun jK => (code_Encode.l2 k2 jK 0 qE (qE.length : Int) 0 qP qQ qI qR qS qE qN qT qU qF qG qL qM qC qH)) else (none)) = some (r1, r2) := by first | (rw [hy176]; with_reducible exact H) | (have H2_ := (Option.bind_some _ _).symm.trans H; rw [hy176]; with_reducible exact H2_) | (have H2_ := (Option.bind_some _ _).symm.trans H; with_reducible exact H2_) | with_reducible exact H | (rw [hy176]; exact H) | exact H
         have Ny176 := aM hy176
         clear hy176
         by_cases c26 : qs.length + y176.length < 140737488355328
         ·rw [if_pos c26] at H
          have LMc26 := aM c26
          clear c26
          obtain ⟨y179, hy179⟩ : ∃ y_ : List Int, y_ = (qs ++ y176) := ⟨_, rfl⟩
          replace H : ((code_pair.f y179 (qE.length : Int)).bind fun jK => (code_Encode.l2 k2 jK 0 qE (qE.length : Int) 0 qP qQ qI qR qS qE qN qT qU qF qG qL qM qC qH)) = some (r1, r2) := by first | (rw [hy179]; with_reducible exact H) | (have H2_ := (Option.bind_some _ _).symm.trans H; rw [hy179]; with_reducible exact H2_) | (have H2_ := (Option.bind_some _ _).symm.trans H; with_reducible exact H2_) | with_reducible exact H | (rw [hy179]; exact H) | exact H
          have Ny179 := aM hy179
          clear hy179
          replace H := Option.bind_eq_some_iff.mp H
          obtain ⟨jK, A270, H⟩ := H
          replace H : (code_Encode.l2 k2 jK 0 qE (qE.length : Int) 0 qP qQ qI qR qS qE qN qT qU qF qG qL qM qC qH) = some (r1, r2) := H
          have A27 := aM A270
          clear A270
          have H' := aM H
          clear H
          try go_wp2
          have n0_ := aM (Kd.R_drew qK.out)
          have n1_ := aM (blk_drew qA.out)
          have n2_ := aM (below_drew1 HB.out)
          clear qK
          clear qA
          clear HB
          have qK := n0_
          have qA := n1_
          have HB := n2_
          clear n0_ n1_ n2_
          refine start_ (n := 14) (S := fun w' => w'.cell? ⟨qD, 0, none⟩ = some (.int .i64 qP) ∧ w'.cell? ⟨qD, 1, none⟩ = some (.int .i64 qQ) ∧ w'.cell? ⟨qD, 2, none⟩ = some (.slice qv qI.length qu) ∧ w'.cell? ⟨qD, 3, none⟩ = some (.int .i64 qR) ∧ w'.cell? ⟨qD, 4, none⟩ = some (.int .i64 qS) ∧ w'.cell? ⟨qD, 5, none⟩ = some (.slice q0 qE.length qw) ∧ w'.cell? ⟨qD, 6, none⟩ = some (.slice qx qN.length qy) ∧ w'.cell? ⟨qD, 7, none⟩ = some (.int .i64 qT) ∧ w'.cell? ⟨qD, 8, none⟩ = some (.int .i64 qU) ∧ w'.cell? ⟨qD, 9, none⟩ = some (.slice q1 qF.length qz) ∧ w'.cell? ⟨qD, 10, none⟩ = some (.slice qm qG.length qn) ∧ w'.cell? ⟨qD, 11, none⟩ = some (.int .i64 qL) ∧ w'.cell? ⟨qD, 12, none⟩ = some (.int .i64 qM) ∧ w'.cell? ⟨qD, 13, none⟩ = some (.slice qr qC.length qo) ∧ w'.cell? ⟨qD, 14, none⟩ = some (.slice qp qH.length qq)) (ds := []) #[false, false, false, false, false, false, false, false, false, false, false, false, false, false] (by kernel_rfl) rfl rfl ⟨(blk_cell qA.out 0).trans rfl, (blk_cell qA.out 1).trans rfl, (blk_cell qA.out 2).trans rfl, (blk_cell qA.out 3).trans rfl, (blk_cell qA.out 4).trans rfl, (blk_cell qA.out 5).trans rfl, (blk_cell qA.out 6).trans rfl, (blk_cell qA.out 7).trans rfl, (blk_cell qA.out 8).trans rfl, (blk_cell qA.out 9).trans rfl, (blk_cell qA.out 10).trans rfl, (blk_cell qA.out 11).trans rfl, (blk_cell qA.out 12).trans rfl, (blk_cell qA.out 13).trans rfl, (blk_cell qA.out 14).trans rfl⟩ (fun hHeld => ?_); refine with_tabW code_Encode.tab13 code_Encode.bits13 (fun HT_ HW_ => ?_)
          generalize wr.drew = w28 at qK qA HB hHeld ⊢
          refine pure_ (i := 0) (N := some 54) (v := ?_) (a' := ?_) #[true, false, false, false, false, false, false, false, false, false, false, false, false, false] rfl rfl (any_of HT_.out (by kernel_rfl)) (fun _ _ _ h => h) (Or.inl ⟨by rfl, ?_⟩) ?_ ?_
          rotate_left
          ·intro w'
           go_simp
           with_reducible rfl
          rotate_left
          ·simp only [Act.put, List.setIfInBounds_toArray, List.set_cons_zero, List.set_cons_succ, i64_w, i32_w]
           rfl
          refine pure_ (i := 1) (N := some 55) (v := ?_) (a' := ?_) #[true, true, false, false, false, false, false, false, false, false, false, false, false, false] rfl rfl (any_of HT_.out (by kernel_rfl)) (fun _ _ _ h => h) (Or.inl ⟨by rfl, ?_⟩) ?_ ?_
          rotate_left
          ·intro w'
           go_simp
           with_reducible rfl
          rotate_left
          ·simp only [Act.put, List.setIfInBounds_toArray, List.set_cons_zero, List.set_cons_succ, i64_w, i32_w]
           rfl
          refine pure_ (i := 2) (N := some 56) (v := ?_) (a' := ?_) #[true, true, true, false, false, false, false, false, false, false, false, false, false, false] rfl rfl (any_of HT_.out (by kernel_rfl)) (fun _ _ _ h => h) (Or.inl ⟨by rfl, ?_⟩) ?_ ?_
          rotate_left
          ·intro w'
           go_simp
           with_reducible rfl
          rotate_left
          ·simp only [Act.put, List.setIfInBounds_toArray, List.set_cons_zero, List.set_cons_succ, i64_w, i32_w]
           rfl
          refine pure_ (i := 3) (N := some 57) (v := ?_) (a' := ?_) #[true, true, true, true, false, false, false, false, false, false, false, false, false, false] rfl rfl (any_of HT_.out (by kernel_rfl)) (fun _ _ _ h => h) (Or.inl ⟨by rfl, ?_⟩) ?_ ?_
          rotate_left
          ·intro w'
           go_simp
           with_reducible rfl
          rotate_left
          ·simp only [Act.put, List.setIfInBounds_toArray, List.set_cons_zero, List.set_cons_succ, i64_w, i32_w]
           rfl
          refine pure_ (i := 6) (N := some 60) (v := ?_) (a' := ?_) #[true, true, true, true, false, false, true, false, false, false, false, false, false, false] rfl rfl (any_of HT_.out (by kernel_rfl)) (fun _ _ _ h => h) (Or.inl ⟨by rfl, ?_⟩) ?_ ?_
          rotate_left
          ·intro w'
           go_simp
           with_reducible rfl
          rotate_left
          ·simp only [Act.put, List.setIfInBounds_toArray, List.set_cons_zero, List.set_cons_succ, i64_w, i32_w]
           rfl
          refine pure_ (i := 7) (N := some 61) (v := ?_) (a' := ?_) #[true, true, true, true, false, false, true, true, false, false, false, false, false, false] rfl rfl (any_of HT_.out (by kernel_rfl)) (fun _ _ _ h => h) (Or.inl ⟨by rfl, ?_⟩) ?_ ?_
          rotate_left
          ·intro w'
           go_simp
           with_reducible rfl
          rotate_left
          ·simp only [Act.put, List.setIfInBounds_toArray, List.set_cons_zero, List.set_cons_succ, i64_w, i32_w]
           rfl
          refine pure_ (i := 8) (N := some 62) (v := ?_) (a' := ?_) #[true, true, true, true, false, false, true, true, true, false, false, false, false, false] rfl rfl (any_of HT_.out (by kernel_rfl)) (fun _ _ _ h => h) (Or.inl ⟨by rfl, ?_⟩) ?_ ?_
          rotate_left
          ·intro w'
           go_simp
           with_reducible rfl
          rotate_left
          ·simp only [Act.put, List.setIfInBounds_toArray, List.set_cons_zero, List.set_cons_succ, i64_w, i32_w]
           rfl
          refine take_ (i := 4) (N := some 58) (v := ?_) (a' := ?_) #[true, true, true, true, true, false, true, true, true, false, false, false, false, false] rfl rfl (take_ofW HT_.out HW_.out (by kernel_rfl)) (fun _ _ _ h => h) (Or.inl ⟨by rfl, ?_⟩) hHeld ?_ ?_
          rotate_left
          ·rintro w' ⟨s0, s1, s2, s3, s4, s5, s6, s7, s8, s9, s10, s11, s12, s13, s14⟩
           go_simp
           with_reducible rfl
          rotate_left
          ·simp only [Act.put, List.setIfInBounds_toArray, List.set_cons_zero, List.set_cons_succ, i64_w, i32_w]
           rfl
          refine pure_ (i := 5) (N := some 59) (v := ?_) (a' := ?_) #[true, true, true, true, true, true, true, true, true, false, false, false, false, false] rfl rfl (any_of HT_.out (by kernel_rfl)) (fun _ _ _ h => h) (Or.inl ⟨by rfl, ?_⟩) ?_ ?_
          rotate_left
          ·intro w'
           go_simp
           with_reducible rfl
          rotate_left
          ·simp only [Act.put, List.setIfInBounds_toArray, List.set_cons_zero, List.set_cons_succ, i64_w, i32_w]
           rfl
          refine take_ (i := 9) (N := some 63) (v := ?_) (a' := ?_) #[true, true, true, true, true, true, true, true, true, true, false, false, false, false] rfl rfl (take_ofW HT_.out HW_.out (by kernel_rfl)) (fun _ _ _ h => h) (Or.inl ⟨by rfl, ?_⟩) hHeld ?_ ?_
          rotate_left
          ·rintro w' ⟨s0, s1, s2, s3, s4, s5, s6, s7, s8, s9, s10, s11, s12, s13, s14⟩
           go_simp
           with_reducible rfl
          rotate_left
          ·simp only [Act.put, List.setIfInBounds_toArray, List.set_cons_zero, List.set_cons_succ, i64_w, i32_w]
           rfl
          refine pure_ (i := 10) (N := some 64) (v := ?_) (a' := ?_) #[true, true, true, true, true, true, true, true, true, true, true, false, false, false] rfl rfl (any_of HT_.out (by kernel_rfl)) (fun _ _ _ h => h) (Or.inl ⟨by rfl, ?_⟩) ?_ ?_
          rotate_left
          ·intro w'
           go_simp
           with_reducible rfl
          rotate_left
          ·simp only [Act.put, List.setIfInBounds_toArray, List.set_cons_zero, List.set_cons_succ, i64_w, i32_w]
           rfl
          refine one_ (i := 11) (N := some 65) #[true, true, true, true, true, true, true, true, true, true, true, true, false, false] rfl rfl (one_of HT_.out (by kernel_rfl)) (by decide) (fun K hK => ?_)
          refine Kd.R_lit_step (Kd.int .u8) _ 5 ?hg (N := 65) ?hd (xs := ([(qR) % 256, (qS) % 256] : List Int)) (inner := [.int .u8 ((qR) % 256), .int .u8 ((qS) % 256)]) (ok := fun _ => True) (okp := fun _ => True) ?hr ?hp (fun _ hk => hk) trivial (Below.refl _ _) (Nat.le_refl _) (by simp) ?_; (case hd => rfl); (case hg => rfl); (case hr => first | (go_simp; done) | (go_simp; rfl)); (case hp => exact (Reps.one (show Kd.M (Kd.int .u8) _ _ _ ((qR) % 256) [.int .u8 ((qR) % 256)] from rfl) (Reps.one (show Kd.M (Kd.int .u8) _ _ _ ((qS) % 256) [.int .u8 ((qS) % 256)] from rfl) (Reps.none _ _))))
          intro v177 w29 ho30 hb hg_ hnew_
          clear hg_ hnew_
          (first | rw [← Ny176.out] at ho30 | (simp only [Int.reduceToNat] at ho30; rw [← Ny176.out] at ho30))
          have n0_ := aM (Kd.R_elder' (lR qK) (Kd.R_base ho30) hb)
          have n1_ := aM (Kd.R_lower (Kd.R_new' ho30 (Kd.R_lt (lR qK))) (below_size (by have := GEc.mk qJ.out; exact lS HB)))
          have n2_ := aM (blk_below (g := qD) (lK qA) hb)
          have n3_ := aM (below_step (by have := GEc.mk qJ.out; exact lS HB) hb)
          clear qK
          clear qA
          clear HB
          have qK := n0_
          have jA := n1_
          have qA := n2_
          have HB := n3_
          clear n0_ n1_ n2_ n3_
          clear hb ho30
          obtain ⟨yb, yc, eo32⟩ := Kd.R_slice jA.out
          (first | subst eo32 | (injection eo32 with f1_ f2_ f3_; have f4_ := f1_.symm; have f5_ := f3_.symm; clear f1_ f2_ f3_; subst f4_; subst f5_))
          refine hK.out _ _ (zc15 qA.out) (fun hHeld => ?_)
          clear hK K
          refine norm_ (a' := ?_) ?_ ?_
          rotate_left
          ·show Act.put _ (some 65) _ = _
           simp only [Act.put, List.setIfInBounds_toArray, List.set_cons_zero, List.set_cons_succ, i64_w, i32_w]
           rfl
          refine one_ (i := 12) (N := some 66) #[true, true, true, true, true, true, true, true, true, true, true, true, true, false] rfl rfl (one_of HT_.out (by kernel_rfl)) (by decide) (fun K hK => ?_)
          refine Kd.R_append_rows_step (Kd.int .u8) (w0 := w) w.heap.size (by rfl) (.tmp 54) (.tmp 65) 31 5 (.int .u8 0) 1 rfl Try.underlying31 info5 rfl (by decide) (by omega) u5 qs y176 _ _ _ (fun k_ => some k_ ≠ (.slice yb y176.length yc : Value).ownBlock) (fun _ => False) rfl rfl ?aO ?aR (fun _ _ h => h) (fun _ h => h.elim) ?aF ?aB ?aS ?aL ?_
          (case aR => repeat (first | exact (Kd.R_reads' jA.out).2.2 | (with_reducible refine Kd.C_alloc ?_ _) | (with_reducible refine Kd.C_drewN ?_ _) | (with_reducible refine Kd.C_drew ?_)))
          (case aB => exact (by have := GEc.mk qJ.out; exact lS HB))
          (case aF => exact (fun k_ hk => Kd.fresh' (Kd.R_lt (lR jA)) k_ hk))
          (case aO => exact (by (with_reducible repeat (first | apply Kd.R_alloc | apply Kd.R_drewN | apply Kd.R_drew)); exact Kd.R_mono qK.out (fun _ hk => hk.2)))
          (case aS => exact (below_size (by have := GEc.mk qJ.out; exact lS HB)))
          (case aL => have := LMc26.out; omega)
          intro v180 w31 ho hb hg hat
          rw [← Ny179.out] at ho
          have n0_ := aM (blk_grown (g := qD) (lK qA) hg (Kd.R_ne qK.out qA.out (by decide)))
          have n1_ := aM (Kd.R_after (ok := (fun _ => True)) (lR jA) hg hat)
          have n2_ := aM (hb)
          have n3_ := aM (ho)
          clear qA
          clear jA
          clear HB
          clear qK
          have qA := n0_
          have jA := n1_
          have HB := n2_
          have jg := n3_
          clear n0_ n1_ n2_ n3_
          clear ho hb hg hat
          refine hK.out _ _ (zc15 qA.out) (fun hHeld => ?_)
          clear hK K
          refine norm_ (a' := ?_) ?_ ?_
          rotate_left
          ·show Act.put _ (some 66) _ = _
           simp only [Act.put, List.setIfInBounds_toArray, List.set_cons_zero, List.set_cons_succ, i64_w, i32_w]
           rfl
          refine pure_ (i := 13) (N := some 5) (v := ?_) (a' := ?_) #[true, true, true, true, true, true, true, true, true, true, true, true, true, true] rfl rfl (any_of HT_.out (by kernel_rfl)) (fun _ _ _ h => h) (Or.inl ⟨by rfl, ?_⟩) ?_ ?_
          rotate_left
          ·intro w'
           go_simp
           with_reducible rfl
          rotate_left
          ·simp only [Act.put, List.setIfInBounds_toArray, List.set_cons_zero, List.set_cons_succ, i64_w, i32_w]
           rfl
          refine done_ (done_of HT_.out (by kernel_rfl)) ?_
          have qAT := zc15 qA.out
          have qAU := fun i_ : Nat => blk_frozen qA.out i_
          obtain ⟨j9, yA, eo34⟩ := Kd.R_slice jg.out
          subst eo34
          try go_wp2_with (first | ((with_reducible refine gate_callee (f := 28) rfl ?_); refine goesL_ (some 73) rfl rfl Try.func28 (by kernel_rfl) rfl #[.slice j9 y179.length yA, .int .i64 (qE.length : Int)] rfl (by (try simp only [List.map_toArray, List.map_cons, List.map_nil]); first | done | rfl | (simp only [List.length_drop, List.length_take]; rfl)) ?_; (with_reducible refine (code_pair.calls (fun k_ => some k_ = (.slice j9 y179.length yA : Value).ownBlock) (.slice j9 y179.length yA) y179 (qE.length : Int) jK w _ ?side1 ?side2 A27.out).mono ?_); (case side1 => exact (by have := GEc.mk qJ.out; exact lS HB)); (case side2 => exact Kd.R_tight rfl jg.out); rintro e w35 ⟨v183, rfl, ho0, hb, hkp⟩; refine ⟨_, rfl, ?_⟩; replace qA := aM (blk_kept (lK qA) hkp (fun hs_ => (fun e_ => (Kd.R_ne jg.out qA.out (by decide)) e_) hs_)); have ym := aM (Kd.R_mono (ok' := fun k_ => some k_ ≠ (.slice yb y176.length yc : Value).ownBlock) ho0 (fun k_ hk_ => Or.elim hk_ (fun hs_ => fun e_ => (((jA.out).1 k_ e_.symm).2) hs_) (fun hn_ => (Kd.fresh' (Kd.R_lt (lR jA)) k_ hn_)))); replace jA := aM (Kd.R_mono (ok' := fun k_ => some k_ ≠ (v183 : Value).ownBlock) (Kd.R_keptB (jA.out) hkp (fun k_ hk_ hs_ => (hk_.2) hs_)) (fun k_ hk_ => fun e_ => Or.elim (ho0.1 k_ e_.symm) (fun hs_ => hk_.2.1 hs_) (fun hn_ => Nat.not_le.2 hk_.2.2 hn_))); replace HB := aM (hb); clear jg; (try clear hb); (try clear hkp); (try clear ho0); have qAV := zc15 qA.out; have qAW := fun i_ : Nat => blk_frozen qA.out i_))
          go_loopg [5, 79] k2 (fun kq v5 v79 w' => ∃ (ql : List Int) (qB : Int), v79 = .int .i64 qB ∧ Aside0 (code_Encode.l2 kq ql 0 qE (qE.length : Int) qB qP qQ qI qR qS qE qN qT qU qF qG qL qM qC qH = some (r1, r2)) ∧ Aside0 (kq ≤ k2) ∧ Aside0 (Kd.R (Kd.int .u8) 5 w' w.heap.size (fun _ => True) v5 ql) ∧ Aside0 (w'.heap[qD]? = some (.cells #[.int .i64 qP, .int .i64 qQ, (.slice qv qI.length qu), .int .i64 qR, .int .i64 qS, (.slice q0 qE.length qw), (.slice qx qN.length qy), .int .i64 qT, .int .i64 qU, (.slice q1 qF.length qz), (.slice qm qG.length qn), .int .i64 qL, .int .i64 qM, (.slice qr qC.length qo), (.slice qp qH.length qq)] 28 (0, 0))) ∧ Aside0 (Below w.heap.size w w'))
          case atStart => exact ⟨(jK), (0), (by first | rfl | (simp; done) | (simp [*]; done) | (simp [wrap64]; done)), H', ⟨Nat.le_refl _⟩, ⟨by (with_reducible repeat (first | apply Kd.R_alloc | apply Kd.R_drewN | apply Kd.R_drew)); exact Kd.R_mono ym.out (fun _ hk => trivial)⟩, ⟨by refine lZ ?_; exact qA.out⟩, ⟨by repeat (first | (with_reducible first | exact HB.out | apply below_alloc | apply pw_below_drewN | apply below_drew1 | refine below_set ?_ qJ.out) | exact HB.out)⟩⟩
          case round =>
           clear H'
           try clear c3
           try clear c11
           try clear c24
           try clear c25
           try clear c26
           obtain ⟨ql, qB, rfl, HA, HK3, qK, qA, HB⟩ := hrel
           cases gk with
           | zero => exact absurd HA.out (by simp [code_Encode.l2])
           | succ k3 =>
            have H := HA.out
            clear HA
            simp only [code_Encode.l2] at H
            by_cases c37 : qB < (qE.length : Int)
            ·rw [if_pos c37] at H
             have c37b0 : decide (qB < (qE.length : Int)) = true := decide_eq_true c37
             clear c37
             by_cases c38 : 0 ≤ qB
             ·rw [if_pos c38] at H
              have c38b0 : decide (0 ≤ qB) = true := decide_eq_true c38
              clear c38
              by_cases c39 : qB < (qE.length : Int)
              ·rw [if_pos c39] at H
               have c39b0 : decide (qB < (qE.length : Int)) = true := decide_eq_true c39
               clear c39
               obtain ⟨y187, hy187⟩ : ∃ y_ : List Int, y_ = (([((rd_T63 qE qB).f0) % 256, ((rd_T63 qE qB).f1) % 256, ((rd_T63 qE qB).f2) % 256, ((rd_T63 qE qB).f3) % 256] : List Int)) := ⟨_, rfl⟩
               replace H : (if ql.length + y187.length < 140737488355328 then ((code_pair.f (ql ++ y187) ((rd_T63 qE qB).f4)).bind fun jN => (code_Encode.l2 k3 jN 0 qE (qE.length : Int) (wrap64 (qB + 1)) qP qQ qI qR qS qE qN qT qU qF qG qL qM qC qH)) else (none)) = some (r1, r2) := by first | (rw [hy187]; with_reducible exact H) | (have H2_ := (Option.bind_some _ _).symm.trans H; rw [hy187]; with_reducible exact H2_) | (have H2_ := (Option.bind_some _ _).symm.trans H; with_reducible exact H2_) | with_reducible exact H | (rw [hy187]; exact H) | exact H
               have Ny187 := aM hy187
               clear hy187
               by_cases c40 : ql.length + y187.length < 140737488355328
               ·rw [if_pos c40] at H
                have LMc40 := aM c40
                clear c40
                obtain ⟨y190, hy190⟩ : ∃ y_ : List Int, y_ = (ql ++ y187) := ⟨_, rfl⟩
                replace H : ((code_pair.f y190 ((rd_T63 qE qB).f4)).bind fun jN => (code_Encode.l2 k3 jN 0 qE (qE.length : Int) (wrap64 (qB + 1)) qP qQ qI qR qS qE qN qT qU qF qG qL qM qC qH)) = some (r1, r2) := by first | (rw [hy190]; with_reducible exact H) | (have H2_ := (Option.bind_some _ _).symm.trans H; rw [hy190]; with_reducible exact H2_) | (have H2_ := (Option.bind_some _ _).symm.trans H; with_reducible exact H2_) | with_reducible exact H | (rw [hy190]; exact H) | exact H
                have Ny190 := aM hy190
                clear hy190
                replace H := Option.bind_eq_some_iff.mp H
                obtain ⟨jN, A410, H⟩ := H
                replace H : (code_Encode.l2 k3 jN 0 qE (qE.length : Int) (wrap64 (qB + 1)) qP qQ qI qR qS qE qN qT qU qF qG qL qM qC qH) = some (r1, r2) := H
                have A41 := aM A410
                clear A410
                have H' := aM H
                clear H
                have p185 : 0 ≤ (qB : Int) := of_decide_eq_true (by first | (with_reducible assumption) | assumption)
                have q185 : qB < (qE.length : Int) := of_decide_eq_true (by first | (with_reducible assumption) | assumption)
                obtain ⟨ad185, e185, hx185_0, hx185_1, hx185_2, hx185_3, hx185_4⟩ := at_T63 jp.out qB p185 q185
                cases e185
                replace hx185_0 := (HB.out.cell (World.block_lt_of_cell? w _ hx185_0)).trans hx185_0
                replace hx185_1 := (HB.out.cell (World.block_lt_of_cell? w _ hx185_1)).trans hx185_1
                replace hx185_2 := (HB.out.cell (World.block_lt_of_cell? w _ hx185_2)).trans hx185_2
                replace hx185_3 := (HB.out.cell (World.block_lt_of_cell? w _ hx185_3)).trans hx185_3
                replace hx185_4 := (HB.out.cell (World.block_lt_of_cell? w _ hx185_4)).trans hx185_4
                replace p185 := eq_true p185
                replace q185 := eq_true q185
                go_wp2_with (first | ((with_reducible refine gate_dst (N := 11) rfl ?_); refine box_event ?hg (N := 11) ?hd (cs := #[.int .i64 0, .int .i64 0, .int .i64 0, .int .i64 0, .int .i64 0]) (t := 63) ?hr ?_; (case hd => rfl); (case hg => rfl); (case hr => first | (go_simp; done) | (go_simp; rfl)); intro jT hg w42 hbox hb; replace qK := aM (Kd.R_below (lR qK) hb); have q2 := aM (hbox); have qA0 := aM ((by rw [hg]; exact (below_size (by have := GEc.mk qJ.out; exact lS HB)) : w.heap.size ≤ jT)); have jU := aM ((by rw [hg]; exact (below_size (by have := GEc.mk qJ.out; exact lS HB)) : w.heap.size ≤ jT)); replace HB := aM (below_step (by have := GEc.mk qJ.out; exact lS HB) hb); have q7 := aM ((by rw [hg]; exact Nat.ne_of_lt (blk_lt (g := qD) (lK qA)) : qD ≠ jT)); have j6 := aM ((by rw [hg]; exact Nat.ne_of_gt (blk_lt (g := qD) (lK qA)) : jT ≠ qD)); replace qA := aM (blk_below (g := qD) (lK qA) hb); clear hb hbox hg; have qA1 := j6.out; have qA2 := q7.out; have qAX := zc5 q2.out; have qAY := fun i_ : Nat => blk_frozen q2.out i_) | ((with_reducible refine gate_dst (N := 96) rfl ?_); refine Kd.R_lit (Kd.int .u8) _ 5 ?hg (N := 96) ?hd (xs := ([((rd_T63 qE qB).f0) % 256, ((rd_T63 qE qB).f1) % 256, ((rd_T63 qE qB).f2) % 256, ((rd_T63 qE qB).f3) % 256] : List Int)) (inner := [.int .u8 (((rd_T63 qE qB).f0) % 256), .int .u8 (((rd_T63 qE qB).f1) % 256), .int .u8 (((rd_T63 qE qB).f2) % 256), .int .u8 (((rd_T63 qE qB).f3) % 256)]) (ok := fun _ => True) (okp := fun _ => True) ?hr ?hp (fun _ hk => hk) trivial (Below.refl _ _) (Nat.le_refl _) (by simp) ?_; (case hd => rfl); (case hg => rfl); (case hr => first | (go_simp; done) | (go_simp; rfl)); (case hp => exact (Reps.one (show Kd.M (Kd.int .u8) _ _ _ (((rd_T63 qE qB).f0) % 256) [.int .u8 (((rd_T63 qE qB).f0) % 256)] from rfl) (Reps.one (show Kd.M (Kd.int .u8) _ _ _ (((rd_T63 qE qB).f1) % 256) [.int .u8 (((rd_T63 qE qB).f1) % 256)] from rfl) (Reps.one (show Kd.M (Kd.int .u8) _ _ _ (((rd_T63 qE qB).f2) % 256) [.int .u8 (((rd_T63 qE qB).f2) % 256)] from rfl) (Reps.one (show Kd.M (Kd.int .u8) _ _ _ (((rd_T63 qE qB).f3) % 256) [.int .u8 (((rd_T63 qE qB).f3) % 256)] from rfl) (Reps.none _ _)))))); intro v188 w45 ho46 hb hg_ hnew_; clear hg_ hnew_; (first | rw [← Ny187.out] at ho46 | (simp only [Int.reduceToNat] at ho46; rw [← Ny187.out] at ho46)); have jF := aM (Kd.R_lower (Kd.R_new' ho46 (Kd.R_lt (by (with_reducible repeat (first | apply Kd.R_alloc | apply Kd.R_drewN | apply Kd.R_drew)); exact (Kd.R_mono (fA (fA (fA (fA (fA (Kd.R_types qK.out q2.out (by decide))))))) (fun _ h_ => h_.1))))) (below_size (by have := GEc.mk qJ.out; have := GEc.mk jU.out; exact lS HB))); replace qK := aM (Kd.R_elder' (by (with_reducible repeat (first | apply Kd.R_alloc | apply Kd.R_drewN | apply Kd.R_drew)); exact (Kd.R_mono (fA (fA (fA (fA (fA (Kd.R_types qK.out q2.out (by decide))))))) (fun _ h_ => h_.1))) (Kd.R_base ho46) hb); replace qA := aM (blk_below (g := qD) (o := .cells #[.int .i64 qP, .int .i64 qQ, .slice qv qI.length qu, .int .i64 qR, .int .i64 qS, .slice (some ad185) qE.length qw, .slice qx qN.length qy, .int .i64 qT, .int .i64 qU, .slice q1 qF.length qz, .slice qm qG.length qn, .int .i64 qL, .int .i64 qM, .slice qr qC.length qo, .slice qp qH.length qq] 28 (0, 0)) (by refine lZ ?_; refine blk_far ?_ q7.out _; refine lZ ?_; refine blk_far ?_ q7.out _; refine lZ ?_; refine blk_far ?_ q7.out _; refine lZ ?_; refine blk_far ?_ q7.out _; refine lZ ?_; refine blk_far ?_ q7.out _; refine lZ ?_; exact qA.out) hb); replace q2 := aM (blk_below (g := jT) (o := .cells #[.int .i64 ((rd_T63 qE qB).f0), .int .i64 ((rd_T63 qE qB).f1), .int .i64 ((rd_T63 qE qB).f2), .int .i64 ((rd_T63 qE qB).f3), .int .i64 ((rd_T63 qE qB).f4)] 63 (0, 0)) (by refine lZ ?_; refine blk_put (cs := #[.int .i64 ((rd_T63 qE qB).f0), .int .i64 ((rd_T63 qE qB).f1), .int .i64 ((rd_T63 qE qB).f2), .int .i64 ((rd_T63 qE qB).f3), .int .i64 0]) ?_ 4 _ rfl; refine lZ ?_; refine blk_put (cs := #[.int .i64 ((rd_T63 qE qB).f0), .int .i64 ((rd_T63 qE qB).f1), .int .i64 ((rd_T63 qE qB).f2), .int .i64 0, .int .i64 0]) ?_ 3 _ rfl; refine lZ ?_; refine blk_put (cs := #[.int .i64 ((rd_T63 qE qB).f0), .int .i64 ((rd_T63 qE qB).f1), .int .i64 0, .int .i64 0, .int .i64 0]) ?_ 2 _ rfl; refine lZ ?_; refine blk_put (cs := #[.int .i64 ((rd_T63 qE qB).f0), .int .i64 0, .int .i64 0, .int .i64 0, .int .i64 0]) ?_ 1 _ rfl; refine lZ ?_; refine blk_put (cs := #[.int .i64 0, .int .i64 0, .int .i64 0, .int .i64 0, .int .i64 0]) ?_ 0 _ rfl; refine lZ ?_; exact q2.out) hb); replace HB := aM (below_step (by have := GEc.mk qJ.out; have := GEc.mk jU.out; exact lS HB) hb); clear hb ho46; obtain ⟨yd, ye, eo48⟩ := Kd.R_slice jF.out; subst eo48) | ((with_reducible refine gate_builtin (b := .append) (xs := #[.tmp 83, .tmp 96]) rfl ?_); at_builtin; refine Kd.R_append_rows (Kd.int .u8) (w0 := w) w.heap.size rfl (.tmp 83) (.tmp 96) 31 5 (.int .u8 0) 1 rfl Try.underlying31 info5 rfl (by decide) (by omega) u5 ql y187 _ _ _ (fun k_ => some k_ ≠ (.slice yd y187.length ye : Value).ownBlock) (fun _ => False) rfl rfl ?aO ?aR (fun _ _ h => h) (fun _ h => h.elim) ?aF ?aB ?aS ?aL ?_; (case aR => repeat (first | exact (Kd.R_reads' jF.out).2.2 | (with_reducible refine Kd.C_alloc ?_ _) | (with_reducible refine Kd.C_drewN ?_ _) | (with_reducible refine Kd.C_drew ?_))); (case aB => exact (by have := GEc.mk qJ.out; have := GEc.mk jU.out; exact lS HB)); (case aF => exact (fun k_ hk => Kd.fresh' (Kd.R_lt (lR jF)) k_ hk)); (case aO => exact (by (with_reducible repeat (first | apply Kd.R_alloc | apply Kd.R_drewN | apply Kd.R_drew)); exact Kd.R_mono qK.out (fun _ hk => hk.2))); (case aS => exact (below_size (by have := GEc.mk qJ.out; have := GEc.mk jU.out; exact lS HB))); (case aL => have := LMc40.out; omega); intro v191 w47 ho hb hg hat; rw [← Ny190.out] at ho; replace qA := aM (blk_grown (g := qD) (lK qA) hg (Kd.R_ne qK.out qA.out (by decide))); replace q2 := aM (blk_grown (g := jT) (lK q2) hg (Kd.R_ne qK.out q2.out (by decide))); replace jF := aM (Kd.R_after (ok := (fun _ => True)) (lR jF) hg hat); replace HB := aM (hb); have jb := aM (ho); clear qK; clear ho hb hg hat; have qAZ := zc5 q2.out; have qAa := fun i_ : Nat => blk_frozen q2.out i_; obtain ⟨yB, yC, eo50⟩ := Kd.R_slice jb.out; subst eo50) | ((with_reducible refine gate_callee (f := 28) rfl ?_); refine goesL_ (some 101) rfl rfl Try.func28 (by kernel_rfl) rfl #[.slice yB y190.length yC, .int .i64 ((rd_T63 qE qB).f4)] rfl (by (try simp only [List.map_toArray, List.map_cons, List.map_nil]); first | done | rfl | (simp only [List.length_drop, List.length_take]; rfl)) ?_; (with_reducible refine (code_pair.calls (fun k_ => some k_ = (.slice yB y190.length yC : Value).ownBlock) (.slice yB y190.length yC) y190 ((rd_T63 qE qB).f4) jN w _ ?side1 ?side2 A41.out).mono ?_); (case side1 => exact (by have := GEc.mk qJ.out; have := GEc.mk jU.out; exact lS HB)); (case side2 => exact Kd.R_tight rfl jb.out); rintro e w51 ⟨v194, rfl, ho0, hb, hkp⟩; refine ⟨_, rfl, ?_⟩; replace qA := aM (blk_kept (lK qA) hkp (fun hs_ => (fun e_ => (Kd.R_ne jb.out qA.out (by decide)) e_) hs_)); replace q2 := aM (blk_kept (lK q2) hkp (fun hs_ => (fun e_ => (Kd.R_ne jb.out q2.out (by decide)) e_) hs_)); have yn := aM (Kd.R_mono (ok' := fun k_ => some k_ ≠ (.slice yd y187.length ye : Value).ownBlock) ho0 (fun k_ hk_ => Or.elim hk_ (fun hs_ => fun e_ => (((jF.out).1 k_ e_.symm).2) hs_) (fun hn_ => (Kd.fresh' (Kd.R_lt (lR jF)) k_ hn_)))); replace jF := aM (Kd.R_mono (ok' := fun k_ => some k_ ≠ (v194 : Value).ownBlock) (Kd.R_keptB (jF.out) hkp (fun k_ hk_ hs_ => (hk_.2) hs_)) (fun k_ hk_ => fun e_ => Or.elim (ho0.1 k_ e_.symm) (fun hs_ => hk_.2.1 hs_) (fun hn_ => Nat.not_le.2 hk_.2.2 hn_))); replace HB := aM (hb); clear jb; (try clear hb); (try clear hkp); (try clear ho0)))
                go_roundg k3
                case measure => have := HK1.out; have := HK2.out; have := HK3.out; omega
                case rel => exact ⟨(jN), (wrap64 (qB + 1)), (by first | rfl | (simp; done) | (simp [*]; done) | (simp [wrap64]; done)), H', ⟨by have := HK1.out; have := HK2.out; have := HK3.out; omega⟩, ⟨by (with_reducible repeat (first | apply Kd.R_alloc | apply Kd.R_drewN | apply Kd.R_drew)); exact Kd.R_mono yn.out (fun _ hk => trivial)⟩, ⟨by refine lZ ?_; exact qA.out⟩, ⟨by repeat (first | (with_reducible first | exact HB.out | apply below_alloc | apply pw_below_drewN | apply below_drew1 | refine below_set ?_ qJ.out | refine below_set ?_ jU.out) | exact HB.out)⟩⟩
               ·rw [if_neg c40] at H
                exact absurd H (by simp)
              ·rw [if_neg c39] at H
               exact absurd H (by simp)
             ·rw [if_neg c38] at H
              exact absurd H (by simp)
            ·rw [if_neg c37] at H
             have c37b0 : decide (qB < (qE.length : Int)) = false := decide_eq_false c37
             clear c37
             by_cases c52 : ql.length < 140737488355328
             ·rw [if_pos c52] at H
              have LMc52 := aM c52
              clear c52
              obtain ⟨y196, hy196⟩ : ∃ y_ : List Int, y_ = (ql ++ [((qN.length : Int)) % 256]) := ⟨_, rfl⟩
              replace H : (code_Encode.l3 k3 y196 0 qN (qN.length : Int) 0 qP qQ qI qR qS qE qN qT qU qF qG qL qM qC qH) = some (r1, r2) := by first | (rw [hy196]; with_reducible exact H) | (have H2_ := (Option.bind_some _ _).symm.trans H; rw [hy196]; with_reducible exact H2_) | (have H2_ := (Option.bind_some _ _).symm.trans H; with_reducible exact H2_) | with_reducible exact H | (rw [hy196]; exact H) | exact H
              have Ny196 := aM hy196
              clear hy196
              have H' := aM H
              clear H
              have qAb := zc15 qA.out
              have qAc := fun i_ : Nat => blk_frozen qA.out i_
              go_wp2_with (first | ((with_reducible refine gate_builtin (b := .append) (xs := #[.tmp 103, .tmp 110]) rfl ?_); at_builtin; refine Kd.R_append (Kd.int .u8) (w0 := w) w.heap.size rfl (.tmp 103) (.tmp 110) 31 5 (.int .u8 0) 1 rfl Try.underlying31 info5 rfl (by decide) (by omega) u5 ql (((qN.length : Int)) % 256) [.int .u8 (((qN.length : Int)) % 256)] (fun _ => True) (fun _ => False) rfl rfl ?aP (fun _ hk => hk.elim) ?aF ?aO ?aB ?aS ?aL ?_; (case aP => exact rfl); (case aB => exact (by have := GEc.mk qJ.out; exact lS HB)); (case aF => exact (fun _ _ => trivial)); (case aO => exact (lR qK)); (case aS => exact (below_size (by have := GEc.mk qJ.out; exact lS HB))); (case aL => have := LMc52.out; omega); intro v197 w54 ho hb hg hat; rw [← Ny196.out] at ho; replace qA := aM (blk_grown (g := qD) (lK qA) hg (Kd.R_ne qK.out qA.out (by decide))); replace HB := aM (hb); have yo := aM (ho); clear qK; clear ho hb hg hat; have qAd := zc15 qA.out; have qAe := fun i_ : Nat => blk_frozen qA.out i_))
              go_loopg [5, 117] k3 (fun kq v5 v117 w' => ∃ (qt : List Int) (qO : Int), v117 = .int .i64 qO ∧ Aside0 (code_Encode.l3 kq qt 0 qN (qN.length : Int) qO qP qQ qI qR qS qE qN qT qU qF qG qL qM qC qH = some (r1, r2)) ∧ Aside0 (kq ≤ k3) ∧ Aside0 (Kd.R (Kd.int .u8) 5 w' w.heap.size (fun _ => True) v5 qt) ∧ Aside0 (w'.heap[qD]? = some (.cells #[.int .i64 qP, .int .i64 qQ, (.slice qv qI.length qu), .int .i64 qR, .int .i64 qS, (.slice q0 qE.length qw), (.slice qx qN.length qy), .int .i64 qT, .int .i64 qU, (.slice q1 qF.length qz), (.slice qm qG.length qn), .int .i64 qL, .int .i64 qM, (.slice qr qC.length qo), (.slice qp qH.length qq)] 28 (0, 0))) ∧ Aside0 (Below w.heap.size w w'))
              case atStart => exact ⟨(y196), (0), (by first | rfl | (simp; done) | (simp [*]; done) | (simp [wrap64]; done)), H', ⟨Nat.le_refl _⟩, ⟨by (with_reducible repeat (first | apply Kd.R_alloc | apply Kd.R_drewN | apply Kd.R_drew)); exact yo.out⟩, ⟨by refine lZ ?_; exact qA.out⟩, ⟨by repeat (first | (with_reducible first | exact HB.out | apply below_alloc | apply pw_below_drewN | apply below_drew1 | refine below_set ?_ qJ.out) | exact HB.out)⟩⟩
              case round =>
               clear H'
               try clear c3
               try clear c11
               try clear c24
               try clear c25
               try clear c26
               try clear c37
               try clear c52
               obtain ⟨qt, qO, rfl, HA, HK4, qK, qA, HB⟩ := hrel
               cases gk with
               | zero => exact absurd HA.out (by simp [code_Encode.l3])
               | succ k4 =>
                have H := HA.out
                clear HA
                simp only [code_Encode.l3] at H
                by_cases c56 : qO < (qN.length : Int)
                ·rw [if_pos c56] at H
                 have c56b0 : decide (qO < (qN.length : Int)) = true := decide_eq_true c56
                 clear c56
                 by_cases c57 : 0 ≤ qO
                 ·rw [if_pos c57] at H
                  have c57b0 : decide (0 ≤ qO) = true := decide_eq_true c57
                  clear c57
                  by_cases c58 : qO < (qN.length : Int)
                  ·rw [if_pos c58] at H
                   have c58b0 : decide (qO < (qN.length : Int)) = true := decide_eq_true c58
                   clear c58
                   by_cases c59 : qt.length < 140737488355328
                   ·rw [if_pos c59] at H
                    have LMc59 := aM c59
                    clear c59
                    obtain ⟨y200, hy200⟩ : ∃ y_ : List Int, y_ = (qt ++ [(rd qN qO) % 256]) := ⟨_, rfl⟩
                    replace H : (code_Encode.l3 k4 y200 0 qN (qN.length : Int) (wrap64 (qO + 1)) qP qQ qI qR qS qE qN qT qU qF qG qL qM qC qH) = some (r1, r2) := by first | (rw [hy200]; with_reducible exact H) | (have H2_ := (Option.bind_some _ _).symm.trans H; rw [hy200]; with_reducible exact H2_) | (have H2_ := (Option.bind_some _ _).symm.trans H; with_reducible exact H2_) | with_reducible exact H | (rw [hy200]; exact H) | exact H
                    have Ny200 := aM hy200
                    clear hy200
                    have H' := aM H
                    clear H
                    have p199 : 0 ≤ (qO : Int) := of_decide_eq_true (by first | (with_reducible assumption) | assumption)
                    have q199 : qO < (qN.length : Int) := of_decide_eq_true (by first | (with_reducible assumption) | assumption)
                    obtain ⟨ad199, e199, hx199_0⟩ := Kd.at_int jq.out qO p199 q199
                    cases e199
                    replace hx199_0 := (HB.out.cell (World.block_lt_of_cell? w _ hx199_0)).trans hx199_0
                    replace p199 := eq_true p199
                    replace q199 := eq_true q199
                    go_wp2_with (first | ((with_reducible refine gate_builtin (b := .append) (xs := #[.tmp 121, .tmp 124]) rfl ?_); at_builtin; refine Kd.R_append (Kd.int .u8) (w0 := w) w.heap.size rfl (.tmp 121) (.tmp 124) 31 5 (.int .u8 0) 1 rfl Try.underlying31 info5 rfl (by decide) (by omega) u5 qt ((rd qN qO) % 256) [.int .u8 ((rd qN qO) % 256)] (fun _ => True) (fun _ => False) rfl rfl ?aP (fun _ hk => hk.elim) ?aF ?aO ?aB ?aS ?aL ?_; (case aP => exact rfl); (case aB => exact (by have := GEc.mk qJ.out; exact lS HB)); (case aF => exact (fun _ _ => trivial)); (case aO => exact (lR qK)); (case aS => exact (below_size (by have := GEc.mk qJ.out; exact lS HB))); (case aL => have := LMc59.out; omega); intro v201 w60 ho hb hg hat; rw [← Ny200.out] at ho; replace qA := aM (blk_grown (g := qD) (lK qA) hg (Kd.R_ne qK.out qA.out (by decide))); replace HB := aM (hb); have yp := aM (ho); clear qK; clear ho hb hg hat))
                    go_roundg k4
                    case measure => have := HK1.out; have := HK2.out; have := HK3.out; have := HK4.out; omega
                    case rel => exact ⟨(y200), (wrap64 (qO + 1)), (by first | rfl | (simp; done) | (simp [*]; done) | (simp [wrap64]; done)), H', ⟨by have := HK1.out; have := HK2.out; have := HK3.out; have := HK4.out; omega⟩, ⟨by (with_reducible repeat (first | apply Kd.R_alloc | apply Kd.R_drewN | apply Kd.R_drew)); exact yp.out⟩, ⟨by refine lZ ?_; exact qA.out⟩, ⟨by repeat (first | (with_reducible first | exact HB.out | apply below_alloc | apply pw_below_drewN | apply below_drew1 | refine below_set ?_ qJ.out) | exact HB.out)⟩⟩
                   ·rw [if_neg c59] at H
                    exact absurd H (by simp)
                  ·rw [if_neg c58] at H
                   exact absurd H (by simp)
                 ·rw [if_neg c57] at H
                  exact absurd H (by simp)
                ·rw [if_neg c56] at H
                 have c56b0 : decide (qO < (qN.length : Int)) = false := decide_eq_false c56
                 clear c56
                 have H' := aM H
                 clear H
                 go_wp2
                 go_roundg k4
                 case measure => have := HK1.out; have := HK2.out; have := HK3.out; have := HK4.out; omega
                 case rel => exact ⟨(qt), (wrap64 (0 + 1)), (by first | rfl | (simp; done) | (simp [*]; done) | (simp [wrap64]; done)), H', ⟨by have := HK1.out; have := HK2.out; have := HK3.out; have := HK4.out; omega⟩, ⟨by (with_reducible repeat (first | apply Kd.R_alloc | apply Kd.R_drewN | apply Kd.R_drew)); exact qK.out⟩, ⟨by refine lZ ?_; exact qA.out⟩, ⟨by repeat (first | (with_reducible first | exact HB.out | apply below_alloc | apply pw_below_drewN | apply below_drew1 | refine below_set ?_ qJ.out) | exact HB.out)⟩⟩
             ·rw [if_neg c52] at H
              exact absurd H (by simp)
         ·rw [if_neg c26] at H
          exact absurd H (by simp)
        ·rw [if_neg c25] at H
         by_cases c61 : jE = 1
         ·rw [if_pos c61] at H
          (first | rw [c61] | skip)
          obtain ⟨y203, hy203⟩ : ∃ y_ : List Int, y_ = (([(qT) % 256, (qU) % 256] : List Int)) := ⟨_, rfl⟩
          replace H : (if qs.length + y203.length < 140737488355328 then ((code_pair.f (qs ++ y203) (qF.length : Int)).bind fun jL => (code_Encode.l4 k2 jL 1 qF (qF.length : Int) 0 qP qQ qI qR qS qE qN qT qU qF qG qL qM qC qH)) else (none)) = some (r1, r2) := by first | (rw [hy203]; with_reducible exact H) | (have H2_ := (Option.bind_some _ _).symm.trans H; rw [hy203]; with_reducible exact H2_) | (have H2_ := (Option.bind_some _ _).symm.trans H; with_reducible exact H2_) | with_reducible exact H | (rw [hy203]; exact H) | exact H
          have Ny203 := aM hy203
          clear hy203
          by_cases c62 : qs.length + y203.length < 140737488355328
          ·rw [if_pos c62] at H
           have LMc62 := aM c62
           clear c62
           obtain ⟨y206, hy206⟩ : ∃ y_ : List Int, y_ = (qs ++ y203) := ⟨_, rfl⟩
           replace H : ((code_pair.f y206 (qF.length : Int)).bind fun jL => (code_Encode.l4 k2 jL 1 qF (qF.length : Int) 0 qP qQ qI qR qS qE qN qT qU qF qG qL qM qC qH)) = some (r1, r2) := by first | (rw [hy206]; with_reducible exact H) | (have H2_ := (Option.bind_some _ _).symm.trans H; rw [hy206]; with_reducible exact H2_) | (have H2_ := (Option.bind_some _ _).symm.trans H; with_reducible exact H2_) | with_reducible exact H | (rw [hy206]; exact H) | exact H
           have Ny206 := aM hy206
           clear hy206
           replace H := Option.bind_eq_some_iff.mp H
           obtain ⟨jL, A630, H⟩ := H
           replace H : (code_Encode.l4 k2 jL 1 qF (qF.length : Int) 0 qP qQ qI qR qS qE qN qT qU qF qG qL qM qC qH) = some (r1, r2) := H
           have A63 := aM A630
           clear A630
           have H' := aM H
           clear H
           try go_wp2
           have n0_ := aM (Kd.R_drew qK.out)
           have n1_ := aM (blk_drew qA.out)
           have n2_ := aM (below_drew1 HB.out)
           clear qK
           clear qA
           clear HB
           have qK := n0_
           have qA := n1_
           have HB := n2_
           clear n0_ n1_ n2_
           refine start_ (n := 14) (S := fun w' => w'.cell? ⟨qD, 0, none⟩ = some (.int .i64 qP) ∧ w'.cell? ⟨qD, 1, none⟩ = some (.int .i64 qQ) ∧ w'.cell? ⟨qD, 2, none⟩ = some (.slice qv qI.length qu) ∧ w'.cell? ⟨qD, 3, none⟩ = some (.int .i64 qR) ∧ w'.cell? ⟨qD, 4, none⟩ = some (.int .i64 qS) ∧ w'.cell? ⟨qD, 5, none⟩ = some (.slice q0 qE.length qw) ∧ w'.cell? ⟨qD, 6, none⟩ = some (.slice qx qN.length qy) ∧ w'.cell? ⟨qD, 7, none⟩ = some (.int .i64 qT) ∧ w'.cell? ⟨qD, 8, none⟩ = some (.int .i64 qU) ∧ w'.cell? ⟨qD, 9, none⟩ = some (.slice q1 qF.length qz) ∧ w'.cell? ⟨qD, 10, none⟩ = some (.slice qm qG.length qn) ∧ w'.cell? ⟨qD, 11, none⟩ = some (.int .i64 qL) ∧ w'.cell? ⟨qD, 12, none⟩ = some (.int .i64 qM) ∧ w'.cell? ⟨qD, 13, none⟩ = some (.slice qr qC.length qo) ∧ w'.cell? ⟨qD, 14, none⟩ = some (.slice qp qH.length qq)) (ds := []) #[false, false, false, false, false, false, false, false, false, false, false, false, false, false] (by kernel_rfl) rfl rfl ⟨(blk_cell qA.out 0).trans rfl, (blk_cell qA.out 1).trans rfl, (blk_cell qA.out 2).trans rfl, (blk_cell qA.out 3).trans rfl, (blk_cell qA.out 4).trans rfl, (blk_cell qA.out 5).trans rfl, (blk_cell qA.out 6).trans rfl, (blk_cell qA.out 7).trans rfl, (blk_cell qA.out 8).trans rfl, (blk_cell qA.out 9).trans rfl, (blk_cell qA.out 10).trans rfl, (blk_cell qA.out 11).trans rfl, (blk_cell qA.out 12).trans rfl, (blk_cell qA.out 13).trans rfl, (blk_cell qA.out 14).trans rfl⟩ (fun hHeld => ?_); refine with_tabW code_Encode.tab13 code_Encode.bits13 (fun HT_ HW_ => ?_)
           generalize wr.drew = w64 at qK qA HB hHeld ⊢
           refine pure_ (i := 0) (N := some 54) (v := ?_) (a' := ?_) #[true, false, false, false, false, false, false, false, false, false, false, false, false, false] rfl rfl (any_of HT_.out (by kernel_rfl)) (fun _ _ _ h => h) (Or.inl ⟨by rfl, ?_⟩) ?_ ?_
           rotate_left
           ·intro w'
            go_simp
            with_reducible rfl
           rotate_left
           ·simp only [Act.put, List.setIfInBounds_toArray, List.set_cons_zero, List.set_cons_succ, i64_w, i32_w]
            rfl
           refine pure_ (i := 1) (N := some 55) (v := ?_) (a' := ?_) #[true, true, false, false, false, false, false, false, false, false, false, false, false, false] rfl rfl (any_of HT_.out (by kernel_rfl)) (fun _ _ _ h => h) (Or.inl ⟨by rfl, ?_⟩) ?_ ?_
           rotate_left
           ·intro w'
            go_simp
            with_reducible rfl
           rotate_left
           ·simp only [Act.put, List.setIfInBounds_toArray, List.set_cons_zero, List.set_cons_succ, i64_w, i32_w]
            rfl
           refine pure_ (i := 2) (N := some 56) (v := ?_) (a' := ?_) #[true, true, true, false, false, false, false, false, false, false, false, false, false, false] rfl rfl (any_of HT_.out (by kernel_rfl)) (fun _ _ _ h => h) (Or.inl ⟨by rfl, ?_⟩) ?_ ?_
           rotate_left
           ·intro w'
            go_simp
            with_reducible rfl
           rotate_left
           ·simp only [Act.put, List.setIfInBounds_toArray, List.set_cons_zero, List.set_cons_succ, i64_w, i32_w]
            rfl
           refine pure_ (i := 3) (N := some 57) (v := ?_) (a' := ?_) #[true, true, true, true, false, false, false, false, false, false, false, false, false, false] rfl rfl (any_of HT_.out (by kernel_rfl)) (fun _ _ _ h => h) (Or.inl ⟨by rfl, ?_⟩) ?_ ?_
           rotate_left
           ·intro w'
            go_simp
            with_reducible rfl
           rotate_left
           ·simp only [Act.put, List.setIfInBounds_toArray, List.set_cons_zero, List.set_cons_succ, i64_w, i32_w]
            rfl
           refine pure_ (i := 6) (N := some 60) (v := ?_) (a' := ?_) #[true, true, true, true, false, false, true, false, false, false, false, false, false, false] rfl rfl (any_of HT_.out (by kernel_rfl)) (fun _ _ _ h => h) (Or.inl ⟨by rfl, ?_⟩) ?_ ?_
           rotate_left
           ·intro w'
            go_simp
            with_reducible rfl
           rotate_left
           ·simp only [Act.put, List.setIfInBounds_toArray, List.set_cons_zero, List.set_cons_succ, i64_w, i32_w]
            rfl
           refine pure_ (i := 7) (N := some 61) (v := ?_) (a' := ?_) #[true, true, true, true, false, false, true, true, false, false, false, false, false, false] rfl rfl (any_of HT_.out (by kernel_rfl)) (fun _ _ _ h => h) (Or.inl ⟨by rfl, ?_⟩) ?_ ?_
           rotate_left
           ·intro w'
            go_simp
            with_reducible rfl
           rotate_left
           ·simp only [Act.put, List.setIfInBounds_toArray, List.set_cons_zero, List.set_cons_succ, i64_w, i32_w]
            rfl
           refine pure_ (i := 8) (N := some 62) (v := ?_) (a' := ?_) #[true, true, true, true, false, false, true, true, true, false, false, false, false, false] rfl rfl (any_of HT_.out (by kernel_rfl)) (fun _ _ _ h => h) (Or.inl ⟨by rfl, ?_⟩) ?_ ?_
           rotate_left
           ·intro w'
            go_simp
            with_reducible rfl
           rotate_left
           ·simp only [Act.put, List.setIfInBounds_toArray, List.set_cons_zero, List.set_cons_succ, i64_w, i32_w]
            rfl
           refine take_ (i := 4) (N := some 58) (v := ?_) (a' := ?_) #[true, true, true, true, true, false, true, true, true, false, false, false, false, false] rfl rfl (take_ofW HT_.out HW_.out (by kernel_rfl)) (fun _ _ _ h => h) (Or.inl ⟨by rfl, ?_⟩) hHeld ?_ ?_
           rotate_left
           ·rintro w' ⟨s0, s1, s2, s3, s4, s5, s6, s7, s8, s9, s10, s11, s12, s13, s14⟩
            go_simp
            with_reducible rfl
           rotate_left
           ·simp only [Act.put, List.setIfInBounds_toArray, List.set_cons_zero, List.set_cons_succ, i64_w, i32_w]
            rfl
           refine pure_ (i := 5) (N := some 59) (v := ?_) (a' := ?_) #[true, true, true, true, true, true, true, true, true, false, false, false, false, false] rfl rfl (any_of HT_.out (by kernel_rfl)) (fun _ _ _ h => h) (Or.inl ⟨by rfl, ?_⟩) ?_ ?_
           rotate_left
           ·intro w'
            go_simp
            with_reducible rfl
           rotate_left
           ·simp only [Act.put, List.setIfInBounds_toArray, List.set_cons_zero, List.set_cons_succ, i64_w, i32_w]
            rfl
           refine take_ (i := 9) (N := some 63) (v := ?_) (a' := ?_) #[true, true, true, true, true, true, true, true, true, true, false, false, false, false] rfl rfl (take_ofW HT_.out HW_.out (by kernel_rfl)) (fun _ _ _ h => h) (Or.inl ⟨by rfl, ?_⟩) hHeld ?_ ?_
           rotate_left
           ·rintro w' ⟨s0, s1, s2, s3, s4, s5, s6, s7, s8, s9, s10, s11, s12, s13, s14⟩
            go_simp
            with_reducible rfl
           rotate_left
           ·simp only [Act.put, List.setIfInBounds_toArray, List.set_cons_zero, List.set_cons_succ, i64_w, i32_w]
            rfl
           refine pure_ (i := 10) (N := some 64) (v := ?_) (a' := ?_) #[true, true, true, true, true, true, true, true, true, true, true, false, false, false] rfl rfl (any_of HT_.out (by kernel_rfl)) (fun _ _ _ h => h) (Or.inl ⟨by rfl, ?_⟩) ?_ ?_
           rotate_left
           ·intro w'
            go_simp
            with_reducible rfl
           rotate_left
           ·simp only [Act.put, List.setIfInBounds_toArray, List.set_cons_zero, List.set_cons_succ, i64_w, i32_w]
            rfl
           refine one_ (i := 11) (N := some 65) #[true, true, true, true, true, true, true, true, true, true, true, true, false, false] rfl rfl (one_of HT_.out (by kernel_rfl)) (by decide) (fun K hK => ?_)
           refine Kd.R_lit_step (Kd.int .u8) _ 5 ?hg (N := 65) ?hd (xs := ([(qT) % 256, (qU) % 256] : List Int)) (inner := [.int .u8 ((qT) % 256), .int .u8 ((qU) % 256)]) (ok := fun _ => True) (okp := fun _ => True) ?hr ?hp (fun _ hk => hk) trivial (Below.refl _ _) (Nat.le_refl _) (by simp) ?_; (case hd => rfl); (case hg => rfl); (case hr => first | (go_simp; done) | (go_simp; rfl)); (case hp => exact (Reps.one (show Kd.M (Kd.int .u8) _ _ _ ((qT) % 256) [.int .u8 ((qT) % 256)] from rfl) (Reps.one (show Kd.M (Kd.int .u8) _ _ _ ((qU) % 256) [.int .u8 ((qU) % 256)] from rfl) (Reps.none _ _))))
           intro v204 w65 ho66 hb hg_ hnew_
           clear hg_ hnew_
           (first | rw [← Ny203.out] at ho66 | (simp only [Int.reduceToNat] at ho66; rw [← Ny203.out] at ho66))
           have n0_ := aM (Kd.R_elder' (lR qK) (Kd.R_base ho66) hb)
           have n1_ := aM (Kd.R_lower (Kd.R_new' ho66 (Kd.R_lt (lR qK))) (below_size (by have := GEc.mk qJ.out; exact lS HB)))
           have n2_ := aM (blk_below (g := qD) (lK qA) hb)
           have n3_ := aM (below_step (by have := GEc.mk qJ.out; exact lS HB) hb)
           clear qK
           clear qA
           clear HB
           have qK := n0_
           have jB := n1_
           have qA := n2_
           have HB := n3_
           clear n0_ n1_ n2_ n3_
           clear hb ho66
           obtain ⟨yf, yg, eo68⟩ := Kd.R_slice jB.out
           (first | subst eo68 | (injection eo68 with f1_ f2_ f3_; have f4_ := f1_.symm; have f5_ := f3_.symm; clear f1_ f2_ f3_; subst f4_; subst f5_))
           refine hK.out _ _ (zc15 qA.out) (fun hHeld => ?_)
           clear hK K
           refine norm_ (a' := ?_) ?_ ?_
           rotate_left
           ·show Act.put _ (some 65) _ = _
            simp only [Act.put, List.setIfInBounds_toArray, List.set_cons_zero, List.set_cons_succ, i64_w, i32_w]
            rfl
           refine one_ (i := 12) (N := some 66) #[true, true, true, true, true, true, true, true, true, true, true, true, true, false] rfl rfl (one_of HT_.out (by kernel_rfl)) (by decide) (fun K hK => ?_)
           refine Kd.R_append_rows_step (Kd.int .u8) (w0 := w) w.heap.size (by rfl) (.tmp 54) (.tmp 65) 31 5 (.int .u8 0) 1 rfl Try.underlying31 info5 rfl (by decide) (by omega) u5 qs y203 _ _ _ (fun k_ => some k_ ≠ (.slice yf y203.length yg : Value).ownBlock) (fun _ => False) rfl rfl ?aO ?aR (fun _ _ h => h) (fun _ h => h.elim) ?aF ?aB ?aS ?aL ?_
           (case aR => repeat (first | exact (Kd.R_reads' jB.out).2.2 | (with_reducible refine Kd.C_alloc ?_ _) | (with_reducible refine Kd.C_drewN ?_ _) | (with_reducible refine Kd.C_drew ?_)))
           (case aB => exact (by have := GEc.mk qJ.out; exact lS HB))
           (case aF => exact (fun k_ hk => Kd.fresh' (Kd.R_lt (lR jB)) k_ hk))
           (case aO => exact (by (with_reducible repeat (first | apply Kd.R_alloc | apply Kd.R_drewN | apply Kd.R_drew)); exact Kd.R_mono qK.out (fun _ hk => hk.2)))
           (case aS => exact (below_size (by have := GEc.mk qJ.out; exact lS HB)))
           (case aL => have := LMc62.out; omega)
           intro v207 w67 ho hb hg hat
           rw [← Ny206.out] at ho
           have n0_ := aM (blk_grown (g := qD) (lK qA) hg (Kd.R_ne qK.out qA.out (by decide)))
           have n1_ := aM (Kd.R_after (ok := (fun _ => True)) (lR jB) hg hat)
           have n2_ := aM (hb)
           have n3_ := aM (ho)
           clear qA
           clear jB
           clear HB
           clear qK
           have qA := n0_
           have jB := n1_
           have HB := n2_
           have jh := n3_
           clear n0_ n1_ n2_ n3_
           clear ho hb hg hat
           refine hK.out _ _ (zc15 qA.out) (fun hHeld => ?_)
           clear hK K
           refine norm_ (a' := ?_) ?_ ?_
           rotate_left
           ·show Act.put _ (some 66) _ = _
            simp only [Act.put, List.setIfInBounds_toArray, List.set_cons_zero, List.set_cons_succ, i64_w, i32_w]
            rfl
           refine pure_ (i := 13) (N := some 5) (v := ?_) (a' := ?_) #[true, true, true, true, true, true, true, true, true, true, true, true, true, true] rfl rfl (any_of HT_.out (by kernel_rfl)) (fun _ _ _ h => h) (Or.inl ⟨by rfl, ?_⟩) ?_ ?_
           rotate_left
           ·intro w'
            go_simp
            with_reducible rfl
           rotate_left
           ·simp only [Act.put, List.setIfInBounds_toArray, List.set_cons_zero, List.set_cons_succ, i64_w, i32_w]
            rfl
           refine done_ (done_of HT_.out (by kernel_rfl)) ?_
           have qAf := zc15 qA.out
           have qAg := fun i_ : Nat => blk_frozen qA.out i_
           obtain ⟨yD, yE, eo70⟩ := Kd.R_slice jh.out
           subst eo70
           try go_wp2_with (first | ((with_reducible refine gate_callee (f := 28) rfl ?_); refine goesL_ (some 73) rfl rfl Try.func28 (by kernel_rfl) rfl #[.slice yD y206.length yE, .int .i64 (qF.length : Int)] rfl (by (try simp only [List.map_toArray, List.map_cons, List.map_nil]); first | done | rfl | (simp only [List.length_drop, List.length_take]; rfl)) ?_; (with_reducible refine (code_pair.calls (fun k_ => some k_ = (.slice yD y206.length yE : Value).ownBlock) (.slice yD y206.length yE) y206 (qF.length : Int) jL w _ ?side1 ?side2 A63.out).mono ?_); (case side1 => exact (by have := GEc.mk qJ.out; exact lS HB)); (case side2 => exact Kd.R_tight rfl jh.out); rintro e w71 ⟨v210, rfl, ho0, hb, hkp⟩; refine ⟨_, rfl, ?_⟩; replace qA := aM (blk_kept (lK qA) hkp (fun hs_ => (fun e_ => (Kd.R_ne jh.out qA.out (by decide)) e_) hs_)); have yq := aM (Kd.R_mono (ok' := fun k_ => some k_ ≠ (.slice yf y203.length yg : Value).ownBlock) ho0 (fun k_ hk_ => Or.elim hk_ (fun hs_ => fun e_ => (((jB.out).1 k_ e_.symm).2) hs_) (fun hn_ => (Kd.fresh' (Kd.R_lt (lR jB)) k_ hn_)))); replace jB := aM (Kd.R_mono (ok' := fun k_ => some k_ ≠ (v210 : Value).ownBlock) (Kd.R_keptB (jB.out) hkp (fun k_ hk_ hs_ => (hk_.2) hs_)) (fun k_ hk_ => fun e_ => Or.elim (ho0.1 k_ e_.symm) (fun hs_ => hk_.2.1 hs_) (fun hn_ => Nat.not_le.2 hk_.2.2 hn_))); replace HB := aM (hb); clear jh; (try clear hb); (try clear hkp); (try clear ho0); have qAh := zc15 qA.out; have qAi := fun i_ : Nat => blk_frozen qA.out i_))
           go_loopg [5, 79] k2 (fun kq v5 v79 w' => ∃ (ql : List Int) (qB : Int), v79 = .int .i64 qB ∧ Aside0 (code_Encode.l4 kq ql 1 qF (qF.length : Int) qB qP qQ qI qR qS qE qN qT qU qF qG qL qM qC qH = some (r1, r2)) ∧ Aside0 (kq ≤ k2) ∧ Aside0 (Kd.R (Kd.int .u8) 5 w' w.heap.size (fun _ => True) v5 ql) ∧ Aside0 (w'.heap[qD]? = some (.cells #[.int .i64 qP, .int .i64 qQ, (.slice qv qI.length qu), .int .i64 qR, .int .i64 qS, (.slice q0 qE.length qw), (.slice qx qN.length qy), .int .i64 qT, .int .i64 qU, (.slice q1 qF.length qz), (.slice qm qG.length qn), .int .i64 qL, .int .i64 qM, (.slice qr qC.length qo), (.slice qp qH.length qq)] 28 (0, 0))) ∧ Aside0 (Below w.heap.size w w'))
           case atStart => exact ⟨(jL), (0), (by first | rfl | (simp; done) | (simp [*]; done) | (simp [wrap64]; done)), H', ⟨Nat.le_refl _⟩, ⟨by (with_reducible repeat (first | apply Kd.R_alloc | apply Kd.R_drewN | apply Kd.R_drew)); exact Kd.R_mono yq.out (fun _ hk => trivial)⟩, ⟨by refine lZ ?_; exact qA.out⟩, ⟨by repeat (first | (with_reducible first | exact HB.out | apply below_alloc | apply pw_below_drewN | apply below_drew1 | refine below_set ?_ qJ.out) | exact HB.out)⟩⟩
           case round =>
            clear H'
            try clear c3
            try clear c11
            try clear c24
            try clear c25
            try clear c61
            try clear c62
            obtain ⟨ql, qB, rfl, HA, HK3, qK, qA, HB⟩ := hrel
            cases gk with
            | zero => exact absurd HA.out (by simp [code_Encode.l4])
            | succ k3 =>
             have H := HA.out
             clear HA
             simp only [code_Encode.l4] at H
             by_cases c73 : qB < (qF.length : Int)
             ·rw [if_pos c73] at H
              have c73b0 : decide (qB < (qF.length : Int)) = true := decide_eq_true c73
              clear c73
              by_cases c74 : 0 ≤ qB
              ·rw [if_pos c74] at H
               have c74b0 : decide (0 ≤ qB) = true := decide_eq_true c74
               clear c74
               by_cases c75 : qB < (qF.length : Int)
               ·rw [if_pos c75] at H
                have c75b0 : decide (qB < (qF.length : Int)) = true := decide_eq_true c75
                clear c75
                obtain ⟨y214, hy214⟩ : ∃ y_ : List Int, y_ = (([((rd_T63 qF qB).f0) % 256, ((rd_T63 qF qB).f1) % 256, ((rd_T63 qF qB).f2) % 256, ((rd_T63 qF qB).f3) % 256] : List Int)) := ⟨_, rfl⟩
                replace H : (if ql.length + y214.length < 140737488355328 then ((code_pair.f (ql ++ y214) ((rd_T63 qF qB).f4)).bind fun jO => (code_Encode.l4 k3 jO 1 qF (qF.length : Int) (wrap64 (qB + 1)) qP qQ qI qR qS qE qN qT qU qF qG qL qM qC qH)) else (none)) = some (r1, r2) := by first | (rw [hy214]; with_reducible exact H) | (have H2_ := (Option.bind_some _ _).symm.trans H; rw [hy214]; with_reducible exact H2_) | (have H2_ := (Option.bind_some _ _).symm.trans H; with_reducible exact H2_) | with_reducible exact H | (rw [hy214]; exact H) | exact H
                have Ny214 := aM hy214
                clear hy214
                by_cases c76 : ql.length + y214.length < 140737488355328
                ·rw [if_pos c76] at H
                 have LMc76 := aM c76
                 clear c76
                 obtain ⟨y217, hy217⟩ : ∃ y_ : List Int, y_ = (ql ++ y214) := ⟨_, rfl⟩
                 replace H : ((code_pair.f y217 ((rd_T63 qF qB).f4)).bind fun jO => (code_Encode.l4 k3 jO 1 qF (qF.length : Int) (wrap64 (qB + 1)) qP qQ qI qR qS qE qN qT qU qF qG qL qM qC qH)) = some (r1, r2) := by first | (rw [hy217]; with_reducible exact H) | (have H2_ := (Option.bind_some _ _).symm.trans H; rw [hy217]; with_reducible exact H2_) | (have H2_ := (Option.bind_some _ _).symm.trans H; with_reducible exact H2_) | with_reducible exact H | (rw [hy217]; exact H) | exact H
                 have Ny217 := aM hy217
                 clear hy217
                 replace H := Option.bind_eq_some_iff.mp H
                 obtain ⟨jO, A770, H⟩ := H
                 replace H : (code_Encode.l4 k3 jO 1 qF (qF.length : Int) (wrap64 (qB + 1)) qP qQ qI qR qS qE qN qT qU qF qG qL qM qC qH) = some (r1, r2) := H
                 have A77 := aM A770
                 clear A770
                 have H' := aM H
                 clear H
                 have p212 : 0 ≤ (qB : Int) := of_decide_eq_true (by first | (with_reducible assumption) | assumption)
                 have q212 : qB < (qF.length : Int) := of_decide_eq_true (by first | (with_reducible assumption) | assumption)
                 obtain ⟨ad212, e212, hx212_0, hx212_1, hx212_2, hx212_3, hx212_4⟩ := at_T63 jr.out qB p212 q212
                 cases e212
                 replace hx212_0 := (HB.out.cell (World.block_lt_of_cell? w _ hx212_0)).trans hx212_0
                 replace hx212_1 := (HB.out.cell (World.block_lt_of_cell? w _ hx212_1)).trans hx212_1
                 replace hx212_2 := (HB.out.cell (World.block_lt_of_cell? w _ hx212_2)).trans hx212_2
                 replace hx212_3 := (HB.out.cell (World.block_lt_of_cell? w _ hx212_3)).trans hx212_3
                 replace hx212_4 := (HB.out.cell (World.block_lt_of_cell? w _ hx212_4)).trans hx212_4
                 replace p212 := eq_true p212
                 replace q212 := eq_true q212
                 go_wp2_with (first | ((with_reducible refine gate_dst (N := 11) rfl ?_); refine box_event ?hg (N := 11) ?hd (cs := #[.int .i64 0, .int .i64 0, .int .i64 0, .int .i64 0, .int .i64 0]) (t := 63) ?hr ?_; (case hd => rfl); (case hg => rfl); (case hr => first | (go_simp; done) | (go_simp; rfl)); intro jV hg w78 hbox hb; replace qK := aM (Kd.R_below (lR qK) hb); have q3 := aM (hbox); have qA3 := aM ((by rw [hg]; exact (below_size (by have := GEc.mk qJ.out; exact lS HB)) : w.heap.size ≤ jV)); have jW := aM ((by rw [hg]; exact (below_size (by have := GEc.mk qJ.out; exact lS HB)) : w.heap.size ≤ jV)); replace HB := aM (below_step (by have := GEc.mk qJ.out; exact lS HB) hb); have q8 := aM ((by rw [hg]; exact Nat.ne_of_lt (blk_lt (g := qD) (lK qA)) : qD ≠ jV)); have j7 := aM ((by rw [hg]; exact Nat.ne_of_gt (blk_lt (g := qD) (lK qA)) : jV ≠ qD)); replace qA := aM (blk_below (g := qD) (lK qA) hb); clear hb hbox hg; have qA4 := j7.out; have qA5 := q8.out; have qAj := zc5 q3.out; have qAk := fun i_ : Nat => blk_frozen q3.out i_) | ((with_reducible refine gate_dst (N := 96) rfl ?_); refine Kd.R_lit (Kd.int .u8) _ 5 ?hg (N := 96) ?hd (xs := ([((rd_T63 qF qB).f0) % 256, ((rd_T63 qF qB).f1) % 256, ((rd_T63 qF qB).f2) % 256, ((rd_T63 qF qB).f3) % 256] : List Int)) (inner := [.int .u8 (((rd_T63 qF qB).f0) % 256), .int .u8 (((rd_T63 qF qB).f1) % 256), .int .u8 (((rd_T63 qF qB).f2) % 256), .int .u8 (((rd_T63 qF qB).f3) % 256)]) (ok := fun _ => True) (okp := fun _ => True) ?hr ?hp (fun _ hk => hk) trivial (Below.refl _ _) (Nat.le_refl _) (by simp) ?_; (case hd => rfl); (case hg => rfl); (case hr => first | (go_simp; done) | (go_simp; rfl)); (case hp => exact (Reps.one (show Kd.M (Kd.int .u8) _ _ _ (((rd_T63 qF qB).f0) % 256) [.int .u8 (((rd_T63 qF qB).f0) % 256)] from rfl) (Reps.one (show Kd.M (Kd.int .u8) _ _ _ (((rd_T63 qF qB).f1) % 256) [.int .u8 (((rd_T63 qF qB).f1) % 256)] from rfl) (Reps.one (show Kd.M (Kd.int .u8) _ _ _ (((rd_T63 qF qB).f2) % 256) [.int .u8 (((rd_T63 qF qB).f2) % 256)] from rfl) (Reps.one (show Kd.M (Kd.int .u8) _ _ _ (((rd_T63 qF qB).f3) % 256) [.int .u8 (((rd_T63 qF qB).f3) % 256)] from rfl) (Reps.none _ _)))))); intro v215 w81 ho82 hb hg_ hnew_; clear hg_ hnew_; (first | rw [← Ny214.out] at ho82 | (simp only [Int.reduceToNat] at ho82; rw [← Ny214.out] at ho82)); have jG := aM (Kd.R_lower (Kd.R_new' ho82 (Kd.R_lt (by (with_reducible repeat (first | apply Kd.R_alloc | apply Kd.R_drewN | apply Kd.R_drew)); exact (Kd.R_mono (fA (fA (fA (fA (fA (Kd.R_types qK.out q3.out (by decide))))))) (fun _ h_ => h_.1))))) (below_size (by have := GEc.mk qJ.out; have := GEc.mk jW.out; exact lS HB))); replace qK := aM (Kd.R_elder' (by (with_reducible repeat (first | apply Kd.R_alloc | apply Kd.R_drewN | apply Kd.R_drew)); exact (Kd.R_mono (fA (fA (fA (fA (fA (Kd.R_types qK.out q3.out (by decide))))))) (fun _ h_ => h_.1))) (Kd.R_base ho82) hb); replace qA := aM (blk_below (g := qD) (o := .cells #[.int .i64 qP, .int .i64 qQ, .slice qv qI.length qu, .int .i64 qR, .int .i64 qS, .slice q0 qE.length qw, .slice qx qN.length qy, .int .i64 qT, .int .i64 qU, .slice (some ad212) qF.length qz, .slice qm qG.length qn, .int .i64 qL, .int .i64 qM, .slice qr qC.length qo, .slice qp qH.length qq] 28 (0, 0)) (by refine lZ ?_; refine blk_far ?_ q8.out _; refine lZ ?_; refine blk_far ?_ q8.out _; refine lZ ?_; refine blk_far ?_ q8.out _; refine lZ ?_; refine blk_far ?_ q8.out _; refine lZ ?_; refine blk_far ?_ q8.out _; refine lZ ?_; exact qA.out) hb); replace q3 := aM (blk_below (g := jV) (o := .cells #[.int .i64 ((rd_T63 qF qB).f0), .int .i64 ((rd_T63 qF qB).f1), .int .i64 ((rd_T63 qF qB).f2), .int .i64 ((rd_T63 qF qB).f3), .int .i64 ((rd_T63 qF qB).f4)] 63 (0, 0)) (by refine lZ ?_; refine blk_put (cs := #[.int .i64 ((rd_T63 qF qB).f0), .int .i64 ((rd_T63 qF qB).f1), .int .i64 ((rd_T63 qF qB).f2), .int .i64 ((rd_T63 qF qB).f3), .int .i64 0]) ?_ 4 _ rfl; refine lZ ?_; refine blk_put (cs := #[.int .i64 ((rd_T63 qF qB).f0), .int .i64 ((rd_T63 qF qB).f1), .int .i64 ((rd_T63 qF qB).f2), .int .i64 0, .int .i64 0]) ?_ 3 _ rfl; refine lZ ?_; refine blk_put (cs := #[.int .i64 ((rd_T63 qF qB).f0), .int .i64 ((rd_T63 qF qB).f1), .int .i64 0, .int .i64 0, .int .i64 0]) ?_ 2 _ rfl; refine lZ ?_; refine blk_put (cs := #[.int .i64 ((rd_T63 qF qB).f0), .int .i64 0, .int .i64 0, .int .i64 0, .int .i64 0]) ?_ 1 _ rfl; refine lZ ?_; refine blk_put (cs := #[.int .i64 0, .int .i64 0, .int .i64 0, .int .i64 0, .int .i64 0]) ?_ 0 _ rfl; refine lZ ?_; exact q3.out) hb); replace HB := aM (below_step (by have := GEc.mk qJ.out; have := GEc.mk jW.out; exact lS HB) hb); clear hb ho82; obtain ⟨yh, yi, eo84⟩ := Kd.R_slice jG.out; subst eo84) | ((with_reducible refine gate_builtin (b := .append) (xs := #[.tmp 83, .tmp 96]) rfl ?_); at_builtin; refine Kd.R_append_rows (Kd.int .u8) (w0 := w) w.heap.size rfl (.tmp 83) (.tmp 96) 31 5 (.int .u8 0) 1 rfl Try.underlying31 info5 rfl (by decide) (by omega) u5 ql y214 _ _ _ (fun k_ => some k_ ≠ (.slice yh y214.length yi : Value).ownBlock) (fun _ => False) rfl rfl ?aO ?aR (fun _ _ h => h) (fun _ h => h.elim) ?aF ?aB ?aS ?aL ?_; (case aR => repeat (first | exact (Kd.R_reads' jG.out).2.2 | (with_reducible refine Kd.C_alloc ?_ _) | (with_reducible refine Kd.C_drewN ?_ _) | (with_reducible refine Kd.C_drew ?_))); (case aB => exact (by have := GEc.mk qJ.out; have := GEc.mk jW.out; exact lS HB)); (case aF => exact (fun k_ hk => Kd.fresh' (Kd.R_lt (lR jG)) k_ hk)); (case aO => exact (by (with_reducible repeat (first | apply Kd.R_alloc | apply Kd.R_drewN | apply Kd.R_drew)); exact Kd.R_mono qK.out (fun _ hk => hk.2))); (case aS => exact (below_size (by have := GEc.mk qJ.out; have := GEc.mk jW.out; exact lS HB))); (case aL => have := LMc76.out; omega); intro v218 w83 ho hb hg hat; rw [← Ny217.out] at ho; replace qA := aM (blk_grown (g := qD) (lK qA) hg (Kd.R_ne qK.out qA.out (by decide))); replace q3 := aM (blk_grown (g := jV) (lK q3) hg (Kd.R_ne qK.out q3.out (by decide))); replace jG := aM (Kd.R_after (ok := (fun _ => True)) (lR jG) hg hat); replace HB := aM (hb); have jc := aM (ho); clear qK; clear ho hb hg hat; have qAl := zc5 q3.out; have qAm := fun i_ : Nat => blk_frozen q3.out i_; obtain ⟨yF, yG, eo86⟩ := Kd.R_slice jc.out; subst eo86) | ((with_reducible refine gate_callee (f := 28) rfl ?_); refine goesL_ (some 101) rfl rfl Try.func28 (by kernel_rfl) rfl #[.slice yF y217.length yG, .int .i64 ((rd_T63 qF qB).f4)] rfl (by (try simp only [List.map_toArray, List.map_cons, List.map_nil]); first | done | rfl | (simp only [List.length_drop, List.length_take]; rfl)) ?_; (with_reducible refine (code_pair.calls (fun k_ => some k_ = (.slice yF y217.length yG : Value).ownBlock) (.slice yF y217.length yG) y217 ((rd_T63 qF qB).f4) jO w _ ?side1 ?side2 A77.out).mono ?_); (case side1 => exact (by have := GEc.mk qJ.out; have := GEc.mk jW.out; exact lS HB)); (case side2 => exact Kd.R_tight rfl jc.out); rintro e w87 ⟨v221, rfl, ho0, hb, hkp⟩; refine ⟨_, rfl, ?_⟩; replace qA := aM (blk_kept (lK qA) hkp (fun hs_ => (fun e_ => (Kd.R_ne jc.out qA.out (by decide)) e_) hs_)); replace q3 := aM (blk_kept (lK q3) hkp (fun hs_ => (fun e_ => (Kd.R_ne jc.out q3.out (by decide)) e_) hs_)); have yr := aM (Kd.R_mono (ok' := fun k_ => some k_ ≠ (.slice yh y214.length yi : Value).ownBlock) ho0 (fun k_ hk_ => Or.elim hk_ (fun hs_ => fun e_ => (((jG.out).1 k_ e_.symm).2) hs_) (fun hn_ => (Kd.fresh' (Kd.R_lt (lR jG)) k_ hn_)))); replace jG := aM (Kd.R_mono (ok' := fun k_ => some k_ ≠ (v221 : Value).ownBlock) (Kd.R_keptB (jG.out) hkp (fun k_ hk_ hs_ => (hk_.2) hs_)) (fun k_ hk_ => fun e_ => Or.elim (ho0.1 k_ e_.symm) (fun hs_ => hk_.2.1 hs_) (fun hn_ => Nat.not_le.2 hk_.2.2 hn_))); replace HB := aM (hb); clear jc; (try clear hb); (try clear hkp); (try clear ho0)))
                 go_roundg k3
                 case measure => have := HK1.out; have := HK2.out; have := HK3.out; omega
                 case rel => exact ⟨(jO), (wrap64 (qB + 1)), (by first | rfl | (simp; done) | (simp [*]; done) | (simp [wrap64]; done)), H', ⟨by have := HK1.out; have := HK2.out; have := HK3.out; omega⟩, ⟨by (with_reducible repeat (first | apply Kd.R_alloc | apply Kd.R_drewN | apply Kd.R_drew)); exact Kd.R_mono yr.out (fun _ hk => trivial)⟩, ⟨by refine lZ ?_; exact qA.out⟩, ⟨by repeat (first | (with_reducible first | exact HB.out | apply below_alloc | apply pw_below_drewN | apply below_drew1 | refine below_set ?_ qJ.out | refine below_set ?_ jW.out) | exact HB.out)⟩⟩
                ·rw [if_neg c76] at H
                 exact absurd H (by simp)
               ·rw [if_neg c75] at H
                exact absurd H (by simp)
              ·rw [if_neg c74] at H
               exact absurd H (by simp)
             ·rw [if_neg c73] at H
              have c73b0 : decide (qB < (qF.length : Int)) = false := decide_eq_false c73
              clear c73
              by_cases c88 : ql.length < 140737488355328
              ·rw [if_pos c88] at H
               have LMc88 := aM c88
               clear c88
               obtain ⟨y223, hy223⟩ : ∃ y_ : List Int, y_ = (ql ++ [((qG.length : Int)) % 256]) := ⟨_, rfl⟩
               replace H : (code_Encode.l5 k3 y223 1 qG (qG.length : Int) 0 qP qQ qI qR qS qE qN qT qU qF qG qL qM qC qH) = some (r1, r2) := by first | (rw [hy223]; with_reducible exact H) | (have H2_ := (Option.bind_some _ _).symm.trans H; rw [hy223]; with_reducible exact H2_) | (have H2_ := (Option.bind_some _ _).symm.trans H; with_reducible exact H2_) | with_reducible exact H | (rw [hy223]; exact H) | exact H
               have Ny223 := aM hy223
               clear hy223
               have H' := aM H
               clear H
               have qAn := zc15 qA.out
               have qAo := fun i_ : Nat => blk_frozen qA.out i_
               go_wp2_with (first | ((with_reducible refine gate_builtin (b := .append) (xs := #[.tmp 103, .tmp 110]) rfl ?_); at_builtin; refine Kd.R_append (Kd.int .u8) (w0 := w) w.heap.size rfl (.tmp 103) (.tmp 110) 31 5 (.int .u8 0) 1 rfl Try.underlying31 info5 rfl (by decide) (by omega) u5 ql (((qG.length : Int)) % 256) [.int .u8 (((qG.length : Int)) % 256)] (fun _ => True) (fun _ => False) rfl rfl ?aP (fun _ hk => hk.elim) ?aF ?aO ?aB ?aS ?aL ?_; (case aP => exact rfl); (case aB => exact (by have := GEc.mk qJ.out; exact lS HB)); (case aF => exact (fun _ _ => trivial)); (case aO => exact (lR qK)); (case aS => exact (below_size (by have := GEc.mk qJ.out; exact lS HB))); (case aL => have := LMc88.out; omega); intro v224 w90 ho hb hg hat; rw [← Ny223.out] at ho; replace qA := aM (blk_grown (g := qD) (lK qA) hg (Kd.R_ne qK.out qA.out (by decide))); replace HB := aM (hb); have ys := aM (ho); clear qK; clear ho hb hg hat; have qAp := zc15 qA.out; have qAq := fun i_ : Nat => blk_frozen qA.out i_))
               go_loopg [5, 117] k3 (fun kq v5 v117 w' => ∃ (qt : List Int) (qO : Int), v117 = .int .i64 qO ∧ Aside0 (code_Encode.l5 kq qt 1 qG (qG.length : Int) qO qP qQ qI qR qS qE qN qT qU qF qG qL qM qC qH = some (r1, r2)) ∧ Aside0 (kq ≤ k3) ∧ Aside0 (Kd.R (Kd.int .u8) 5 w' w.heap.size (fun _ => True) v5 qt) ∧ Aside0 (w'.heap[qD]? = some (.cells #[.int .i64 qP, .int .i64 qQ, (.slice qv qI.length qu), .int .i64 qR, .int .i64 qS, (.slice q0 qE.length qw), (.slice qx qN.length qy), .int .i64 qT, .int .i64 qU, (.slice q1 qF.length qz), (.slice qm qG.length qn), .int .i64 qL, .int .i64 qM, (.slice qr qC.length qo), (.slice qp qH.length qq)] 28 (0, 0))) ∧ Aside0 (Below w.heap.size w w'))
               case atStart => exact ⟨(y223), (0), (by first | rfl | (simp; done) | (simp [*]; done) | (simp [wrap64]; done)), H', ⟨Nat.le_refl _⟩, ⟨by (with_reducible repeat (first | apply Kd.R_alloc | apply Kd.R_drewN | apply Kd.R_drew)); exact ys.out⟩, ⟨by refine lZ ?_; exact qA.out⟩, ⟨by repeat (first | (with_reducible first | exact HB.out | apply below_alloc | apply pw_below_drewN | apply below_drew1 | refine below_set ?_ qJ.out) | exact HB.out)⟩⟩
               case round =>
                clear H'
                try clear c3
                try clear c11
                try clear c24
                try clear c25
                try clear c61
                try clear c62
                try clear c73
                try clear c88
                obtain ⟨qt, qO, rfl, HA, HK4, qK, qA, HB⟩ := hrel
                cases gk with
                | zero => exact absurd HA.out (by simp [code_Encode.l5])
                | succ k4 =>
                 have H := HA.out
                 clear HA
                 simp only [code_Encode.l5] at H
                 by_cases c92 : qO < (qG.length : Int)
                 ·rw [if_pos c92] at H
                  have c92b0 : decide (qO < (qG.length : Int)) = true := decide_eq_true c92
                  clear c92
                  by_cases c93 : 0 ≤ qO
                  ·rw [if_pos c93] at H
                   have c93b0 : decide (0 ≤ qO) = true := decide_eq_true c93
                   clear c93
                   by_cases c94 : qO < (qG.length : Int)
                   ·rw [if_pos c94] at H
                    have c94b0 : decide (qO < (qG.length : Int)) = true := decide_eq_true c94
                    clear c94
                    by_cases c95 : qt.length < 140737488355328
                    ·rw [if_pos c95] at H
                     have LMc95 := aM c95
                     clear c95
                     obtain ⟨y227, hy227⟩ : ∃ y_ : List Int, y_ = (qt ++ [(rd qG qO) % 256]) := ⟨_, rfl⟩
                     replace H : (code_Encode.l5 k4 y227 1 qG (qG.length : Int) (wrap64 (qO + 1)) qP qQ qI qR qS qE qN qT qU qF qG qL qM qC qH) = some (r1, r2) := by first | (rw [hy227]; with_reducible exact H) | (have H2_ := (Option.bind_some _ _).symm.trans H; rw [hy227]; with_reducible exact H2_) | (have H2_ := (Option.bind_some _ _).symm.trans H; with_reducible exact H2_) | with_reducible exact H | (rw [hy227]; exact H) | exact H
                     have Ny227 := aM hy227
                     clear hy227
                     have H' := aM H
                     clear H
                     have p226 : 0 ≤ (qO : Int) := of_decide_eq_true (by first | (with_reducible assumption) | assumption)
                     have q226 : qO < (qG.length : Int) := of_decide_eq_true (by first | (with_reducible assumption) | assumption)
                     obtain ⟨ad226, e226, hx226_0⟩ := Kd.at_int jl.out qO p226 q226
                     cases e226
                     replace hx226_0 := (HB.out.cell (World.block_lt_of_cell? w _ hx226_0)).trans hx226_0
                     replace p226 := eq_true p226
                     replace q226 := eq_true q226
                     go_wp2_with (first | ((with_reducible refine gate_builtin (b := .append) (xs := #[.tmp 121, .tmp 124]) rfl ?_); at_builtin; refine Kd.R_append (Kd.int .u8) (w0 := w) w.heap.size rfl (.tmp 121) (.tmp 124) 31 5 (.int .u8 0) 1 rfl Try.underlying31 info5 rfl (by decide) (by omega) u5 qt ((rd qG qO) % 256) [.int .u8 ((rd qG qO) % 256)] (fun _ => True) (fun _ => False) rfl rfl ?aP (fun _ hk => hk.elim) ?aF ?aO ?aB ?aS ?aL ?_; (case aP => exact rfl); (case aB => exact (by have := GEc.mk qJ.out; exact lS HB)); (case aF => exact (fun _ _ => trivial)); (case aO => exact (lR qK)); (case aS => exact (below_size (by have := GEc.mk qJ.out; exact lS HB))); (case aL => have := LMc95.out; omega); intro v228 w96 ho hb hg hat; rw [← Ny227.out] at ho; replace qA := aM (blk_grown (g := qD) (lK qA) hg (Kd.R_ne qK.out qA.out (by decide))); replace HB := aM (hb); have yt := aM (ho); clear qK; clear ho hb hg hat))
                     go_roundg k4
                     case measure => have := HK1.out; have := HK2.out; have := HK3.out; have := HK4.out; omega
                     case rel => exact ⟨(y227), (wrap64 (qO + 1)), (by first | rfl | (simp; done) | (simp [*]; done) | (simp [wrap64]; done)), H', ⟨by have := HK1.out; have := HK2.out; have := HK3.out; have := HK4.out; omega⟩, ⟨by (with_reducible repeat (first | apply Kd.R_alloc | apply Kd.R_drewN | apply Kd.R_drew)); exact yt.out⟩, ⟨by refine lZ ?_; exact qA.out⟩, ⟨by repeat (first | (with_reducible first | exact HB.out | apply below_alloc | apply pw_below_drewN | apply below_drew1 | refine below_set ?_ qJ.out) | exact HB.out)⟩⟩
                    ·rw [if_neg c95] at H
                     exact absurd H (by simp)
                   ·rw [if_neg c94] at H
                    exact absurd H (by simp)
                  ·rw [if_neg c93] at H
                   exact absurd H (by simp)
                 ·rw [if_neg c92] at H
                  have c92b0 : decide (qO < (qG.length : Int)) = false := decide_eq_false c92
                  clear c92
                  have H' := aM H
                  clear H
                  go_wp2
                  go_roundg k4
                  case measure => have := HK1.out; have := HK2.out; have := HK3.out; have := HK4.out; omega
                  case rel => exact ⟨(qt), (wrap64 (1 + 1)), (by first | rfl | (simp; done) | (simp [*]; done) | (simp [wrap64]; done)), H', ⟨by have := HK1.out; have := HK2.out; have := HK3.out; have := HK4.out; omega⟩, ⟨by (with_reducible repeat (first | apply Kd.R_alloc | apply Kd.R_drewN | apply Kd.R_drew)); exact qK.out⟩, ⟨by refine lZ ?_; exact qA.out⟩, ⟨by repeat (first | (with_reducible first | exact HB.out | apply below_alloc | apply pw_below_drewN | apply below_drew1 | refine below_set ?_ qJ.out) | exact HB.out)⟩⟩
              ·rw [if_neg c88] at H
               exact absurd H (by simp)
          ·rw [if_neg c62] at H
           exact absurd H (by simp)
         ·rw [if_neg c61] at H
          by_cases c97 : jE = 2
          ·rw [if_pos c97] at H
           (first | rw [c97] | skip)
           obtain ⟨y230, hy230⟩ : ∃ y_ : List Int, y_ = (([(qL) % 256, (qM) % 256] : List Int)) := ⟨_, rfl⟩
           replace H : (if qs.length + y230.length < 140737488355328 then ((code_pair.f (qs ++ y230) (qC.length : Int)).bind fun jM => (code_Encode.l6 k2 jM 2 qC (qC.length : Int) 0 qP qQ qI qR qS qE qN qT qU qF qG qL qM qC qH)) else (none)) = some (r1, r2) := by first | (rw [hy230]; with_reducible exact H) | (have H2_ := (Option.bind_some _ _).symm.trans H; rw [hy230]; with_reducible exact H2_) | (have H2_ := (Option.bind_some _ _).symm.trans H; with_reducible exact H2_) | with_reducible exact H | (rw [hy230]; exact H) | exact H
           have Ny230 := aM hy230
           clear hy230
           by_cases c98 : qs.length + y230.length < 140737488355328
           ·rw [if_pos c98] at H
            have LMc98 := aM c98
            clear c98
            obtain ⟨y233, hy233⟩ : ∃ y_ : List Int, y_ = (qs ++ y230) := ⟨_, rfl⟩
            replace H : ((code_pair.f y233 (qC.length : Int)).bind fun jM => (code_Encode.l6 k2 jM 2 qC (qC.length : Int) 0 qP qQ qI qR qS qE qN qT qU qF qG qL qM qC qH)) = some (r1, r2) := by first | (rw [hy233]; with_reducible exact H) | (have H2_ := (Option.bind_some _ _).symm.trans H; rw [hy233]; with_reducible exact H2_) | (have H2_ := (Option.bind_some _ _).symm.trans H; with_reducible exact H2_) | with_reducible exact H | (rw [hy233]; exact H) | exact H
            have Ny233 := aM hy233
            clear hy233
            replace H := Option.bind_eq_some_iff.mp H
            obtain ⟨jM, A990, H⟩ := H
            replace H : (code_Encode.l6 k2 jM 2 qC (qC.length : Int) 0 qP qQ qI qR qS qE qN qT qU qF qG qL qM qC qH) = some (r1, r2) := H
            have A99 := aM A990
            clear A990
            have H' := aM H
            clear H
            try go_wp2
            have n0_ := aM (Kd.R_drew qK.out)
            have n1_ := aM (blk_drew qA.out)
            have n2_ := aM (below_drew1 HB.out)
            clear qK
            clear qA
            clear HB
            have qK := n0_
            have qA := n1_
            have HB := n2_
            clear n0_ n1_ n2_
            refine start_ (n := 14) (S := fun w' => w'.cell? ⟨qD, 0, none⟩ = some (.int .i64 qP) ∧ w'.cell? ⟨qD, 1, none⟩ = some (.int .i64 qQ) ∧ w'.cell? ⟨qD, 2, none⟩ = some (.slice qv qI.length qu) ∧ w'.cell? ⟨qD, 3, none⟩ = some (.int .i64 qR) ∧ w'.cell? ⟨qD, 4, none⟩ = some (.int .i64 qS) ∧ w'.cell? ⟨qD, 5, none⟩ = some (.slice q0 qE.length qw) ∧ w'.cell? ⟨qD, 6, none⟩ = some (.slice qx qN.length qy) ∧ w'.cell? ⟨qD, 7, none⟩ = some (.int .i64 qT) ∧ w'.cell? ⟨qD, 8, none⟩ = some (.int .i64 qU) ∧ w'.cell? ⟨qD, 9, none⟩ = some (.slice q1 qF.length qz) ∧ w'.cell? ⟨qD, 10, none⟩ = some (.slice qm qG.length qn) ∧ w'.cell? ⟨qD, 11, none⟩ = some (.int .i64 qL) ∧ w'.cell? ⟨qD, 12, none⟩ = some (.int .i64 qM) ∧ w'.cell? ⟨qD, 13, none⟩ = some (.slice qr qC.length qo) ∧ w'.cell? ⟨qD, 14, none⟩ = some (.slice qp qH.length qq)) (ds := []) #[false, false, false, false, false, false, false, false, false, false, false, false, false, false] (by kernel_rfl) rfl rfl ⟨(blk_cell qA.out 0).trans rfl, (blk_cell qA.out 1).trans rfl, (blk_cell qA.out 2).trans rfl, (blk_cell qA.out 3).trans rfl, (blk_cell qA.out 4).trans rfl, (blk_cell qA.out 5).trans rfl, (blk_cell qA.out 6).trans rfl, (blk_cell qA.out 7).trans rfl, (blk_cell qA.out 8).trans rfl, (blk_cell qA.out 9).trans rfl, (blk_cell qA.out 10).trans rfl, (blk_cell qA.out 11).trans rfl, (blk_cell qA.out 12).trans rfl, (blk_cell qA.out 13).trans rfl, (blk_cell qA.out 14).trans rfl⟩ (fun hHeld => ?_); refine with_tabW code_Encode.tab13 code_Encode.bits13 (fun HT_ HW_ => ?_)
            generalize wr.drew = w100 at qK qA HB hHeld ⊢
            refine pure_ (i := 0) (N := some 54) (v := ?_) (a' := ?_) #[true, false, false, false, false, false, false, false, false, false, false, false, false, false] rfl rfl (any_of HT_.out (by kernel_rfl)) (fun _ _ _ h => h) (Or.inl ⟨by rfl, ?_⟩) ?_ ?_
            rotate_left
            ·intro w'
             go_simp
             with_reducible rfl
            rotate_left
            ·simp only [Act.put, List.setIfInBounds_toArray, List.set_cons_zero, List.set_cons_succ, i64_w, i32_w]
             rfl
            refine pure_ (i := 1) (N := some 55) (v := ?_) (a' := ?_) #[true, true, false, false, false, false, false, false, false, false, false, false, false, false] rfl rfl (any_of HT_.out (by kernel_rfl)) (fun _ _ _ h => h) (Or.inl ⟨by rfl, ?_⟩) ?_ ?_
            rotate_left
            ·intro w'
             go_simp
             with_reducible rfl
            rotate_left
            ·simp only [Act.put, List.setIfInBounds_toArray, List.set_cons_zero, List.set_cons_succ, i64_w, i32_w]
             rfl
            refine pure_ (i := 2) (N := some 56) (v := ?_) (a' := ?_) #[true, true, true, false, false, false, false, false, false, false, false, false, false, false] rfl rfl (any_of HT_.out (by kernel_rfl)) (fun _ _ _ h => h) (Or.inl ⟨by rfl, ?_⟩) ?_ ?_
            rotate_left
            ·intro w'
             go_simp
             with_reducible rfl
            rotate_left
            ·simp only [Act.put, List.setIfInBounds_toArray, List.set_cons_zero, List.set_cons_succ, i64_w, i32_w]
             rfl
            refine pure_ (i := 3) (N := some 57) (v := ?_) (a' := ?_) #[true, true, true, true, false, false, false, false, false, false, false, false, false, false] rfl rfl (any_of HT_.out (by kernel_rfl)) (fun _ _ _ h => h) (Or.inl ⟨by rfl, ?_⟩) ?_ ?_
            rotate_left
            ·intro w'
             go_simp
             with_reducible rfl
            rotate_left
            ·simp only [Act.put, List.setIfInBounds_toArray, List.set_cons_zero, List.set_cons_succ, i64_w, i32_w]
             rfl
            refine pure_ (i := 6) (N := some 60) (v := ?_) (a' := ?_) #[true, true, true, true, false, false, true, false, false, false, false, false, false, false] rfl rfl (any_of HT_.out (by kernel_rfl)) (fun _ _ _ h => h) (Or.inl ⟨by rfl, ?_⟩) ?_ ?_
            rotate_left
            ·intro w'
             go_simp
             with_reducible rfl
            rotate_left
            ·simp only [Act.put, List.setIfInBounds_toArray, List.set_cons_zero, List.set_cons_succ, i64_w, i32_w]
             rfl
            refine pure_ (i := 7) (N := some 61) (v := ?_) (a' := ?_) #[true, true, true, true, false, false, true, true, false, false, false, false, false, false] rfl rfl (any_of HT_.out (by kernel_rfl)) (fun _ _ _ h => h) (Or.inl ⟨by rfl, ?_⟩) ?_ ?_
            rotate_left
            ·intro w'
             go_simp
             with_reducible rfl
            rotate_left
            ·simp only [Act.put, List.setIfInBounds_toArray, List.set_cons_zero, List.set_cons_succ, i64_w, i32_w]
             rfl
            refine pure_ (i := 8) (N := some 62) (v := ?_) (a' := ?_) #[true, true, true, true, false, false, true, true, true, false, false, false, false, false] rfl rfl (any_of HT_.out (by kernel_rfl)) (fun _ _ _ h => h) (Or.inl ⟨by rfl, ?_⟩) ?_ ?_
            rotate_left
            ·intro w'
             go_simp
             with_reducible rfl
            rotate_left
            ·simp only [Act.put, List.setIfInBounds_toArray, List.set_cons_zero, List.set_cons_succ, i64_w, i32_w]
             rfl
            refine take_ (i := 4) (N := some 58) (v := ?_) (a' := ?_) #[true, true, true, true, true, false, true, true, true, false, false, false, false, false] rfl rfl (take_ofW HT_.out HW_.out (by kernel_rfl)) (fun _ _ _ h => h) (Or.inl ⟨by rfl, ?_⟩) hHeld ?_ ?_
            rotate_left
            ·rintro w' ⟨s0, s1, s2, s3, s4, s5, s6, s7, s8, s9, s10, s11, s12, s13, s14⟩
             go_simp
             with_reducible rfl
            rotate_left
            ·simp only [Act.put, List.setIfInBounds_toArray, List.set_cons_zero, List.set_cons_succ, i64_w, i32_w]
             rfl
            refine pure_ (i := 5) (N := some 59) (v := ?_) (a' := ?_) #[true, true, true, true, true, true, true, true, true, false, false, false, false, false] rfl rfl (any_of HT_.out (by kernel_rfl)) (fun _ _ _ h => h) (Or.inl ⟨by rfl, ?_⟩) ?_ ?_
            rotate_left
            ·intro w'
             go_simp
             with_reducible rfl
            rotate_left
            ·simp only [Act.put, List.setIfInBounds_toArray, List.set_cons_zero, List.set_cons_succ, i64_w, i32_w]
             rfl
            refine take_ (i := 9) (N := some 63) (v := ?_) (a' := ?_) #[true, true, true, true, true, true, true, true, true, true, false, false, false, false] rfl rfl (take_ofW HT_.out HW_.out (by kernel_rfl)) (fun _ _ _ h => h) (Or.inl ⟨by rfl, ?_⟩) hHeld ?_ ?_
            rotate_left
            ·rintro w' ⟨s0, s1, s2, s3, s4, s5, s6, s7, s8, s9, s10, s11, s12, s13, s14⟩
             go_simp
             with_reducible rfl
            rotate_left
            ·simp only [Act.put, List.setIfInBounds_toArray, List.set_cons_zero, List.set_cons_succ, i64_w, i32_w]
             rfl
            refine pure_ (i := 10) (N := some 64) (v := ?_) (a' := ?_) #[true, true, true, true, true, true, true, true, true, true, true, false, false, false] rfl rfl (any_of HT_.out (by kernel_rfl)) (fun _ _ _ h => h) (Or.inl ⟨by rfl, ?_⟩) ?_ ?_
            rotate_left
            ·intro w'
             go_simp
             with_reducible rfl
            rotate_left
            ·simp only [Act.put, List.setIfInBounds_toArray, List.set_cons_zero, List.set_cons_succ, i64_w, i32_w]
             rfl
            refine one_ (i := 11) (N := some 65) #[true, true, true, true, true, true, true, true, true, true, true, true, false, false] rfl rfl (one_of HT_.out (by kernel_rfl)) (by decide) (fun K hK => ?_)
            refine Kd.R_lit_step (Kd.int .u8) _ 5 ?hg (N := 65) ?hd (xs := ([(qL) % 256, (qM) % 256] : List Int)) (inner := [.int .u8 ((qL) % 256), .int .u8 ((qM) % 256)]) (ok := fun _ => True) (okp := fun _ => True) ?hr ?hp (fun _ hk => hk) trivial (Below.refl _ _) (Nat.le_refl _) (by simp) ?_; (case hd => rfl); (case hg => rfl); (case hr => first | (go_simp; done) | (go_simp; rfl)); (case hp => exact (Reps.one (show Kd.M (Kd.int .u8) _ _ _ ((qL) % 256) [.int .u8 ((qL) % 256)] from rfl) (Reps.one (show Kd.M (Kd.int .u8) _ _ _ ((qM) % 256) [.int .u8 ((qM) % 256)] from rfl) (Reps.none _ _))))
            intro v231 w101 ho102 hb hg_ hnew_
            clear hg_ hnew_
            (first | rw [← Ny230.out] at ho102 | (simp only [Int.reduceToNat] at ho102; rw [← Ny230.out] at ho102))
            have n0_ := aM (Kd.R_elder' (lR qK) (Kd.R_base ho102) hb)
            have n1_ := aM (Kd.R_lower (Kd.R_new' ho102 (Kd.R_lt (lR qK))) (below_size (by have := GEc.mk qJ.out; exact lS HB)))
            have n2_ := aM (blk_below (g := qD) (lK qA) hb)
            have n3_ := aM (below_step (by have := GEc.mk qJ.out; exact lS HB) hb)
            clear qK
            clear qA
            clear HB
            have qK := n0_
            have jC := n1_
            have qA := n2_
            have HB := n3_
            clear n0_ n1_ n2_ n3_
            clear hb ho102
            obtain ⟨yT, yU, eo104⟩ := Kd.R_slice jC.out
            (first | subst eo104 | (injection eo104 with f1_ f2_ f3_; have f4_ := f1_.symm; have f5_ := f3_.symm; clear f1_ f2_ f3_; subst f4_; subst f5_))
            refine hK.out _ _ (zc15 qA.out) (fun hHeld => ?_)
            clear hK K
            refine norm_ (a' := ?_) ?_ ?_
            rotate_left
            ·show Act.put _ (some 65) _ = _
             simp only [Act.put, List.setIfInBounds_toArray, List.set_cons_zero, List.set_cons_succ, i64_w, i32_w]
             rfl
            refine one_ (i := 12) (N := some 66) #[true, true, true, true, true, true, true, true, true, true, true, true, true, false] rfl rfl (one_of HT_.out (by kernel_rfl)) (by decide) (fun K hK => ?_)
            refine Kd.R_append_rows_step (Kd.int .u8) (w0 := w) w.heap.size (by rfl) (.tmp 54) (.tmp 65) 31 5 (.int .u8 0) 1 rfl Try.underlying31 info5 rfl (by decide) (by omega) u5 qs y230 _ _ _ (fun k_ => some k_ ≠ (.slice yT y230.length yU : Value).ownBlock) (fun _ => False) rfl rfl ?aO ?aR (fun _ _ h => h) (fun _ h => h.elim) ?aF ?aB ?aS ?aL ?_
            (case aR => repeat (first | exact (Kd.R_reads' jC.out).2.2 | (with_reducible refine Kd.C_alloc ?_ _) | (with_reducible refine Kd.C_drewN ?_ _) | (with_reducible refine Kd.C_drew ?_)))
            (case aB => exact (by have := GEc.mk qJ.out; exact lS HB))
            (case aF => exact (fun k_ hk => Kd.fresh' (Kd.R_lt (lR jC)) k_ hk))
            (case aO => exact (by (with_reducible repeat (first | apply Kd.R_alloc | apply Kd.R_drewN | apply Kd.R_drew)); exact Kd.R_mono qK.out (fun _ hk => hk.2)))
            (case aS => exact (below_size (by have := GEc.mk qJ.out; exact lS HB)))
            (case aL => have := LMc98.out; omega)
            intro v234 w103 ho hb hg hat
            rw [← Ny233.out] at ho
            have n0_ := aM (blk_grown (g := qD) (lK qA) hg (Kd.R_ne qK.out qA.out (by decide)))
            have n1_ := aM (Kd.R_after (ok := (fun _ => True)) (lR jC) hg hat)
            have n2_ := aM (hb)
            have n3_ := aM (ho)
            clear qA
            clear jC
            clear HB
            clear qK
            have qA := n0_
            have jC := n1_
            have HB := n2_
            have ji := n3_
            clear n0_ n1_ n2_ n3_
            clear ho hb hg hat
            refine hK.out _ _ (zc15 qA.out) (fun hHeld => ?_)
            clear hK K
            refine norm_ (a' := ?_) ?_ ?_
            rotate_left
            ·show Act.put _ (some 66) _ = _
             simp only [Act.put, List.setIfInBounds_toArray, List.set_cons_zero, List.set_cons_succ, i64_w, i32_w]
             rfl
            refine pure_ (i := 13) (N := some 5) (v := ?_) (a' := ?_) #[true, true, true, true, true, true, true, true, true, true, true, true, true, true] rfl rfl (any_of HT_.out (by kernel_rfl)) (fun _ _ _ h => h) (Or.inl ⟨by rfl, ?_⟩) ?_ ?_
            rotate_left
            ·intro w'
             go_simp
             with_reducible rfl
            rotate_left
            ·simp only [Act.put, List.setIfInBounds_toArray, List.set_cons_zero, List.set_cons_succ, i64_w, i32_w]
             rfl
            refine done_ (done_of HT_.out (by kernel_rfl)) ?_
            have qAB := zc15 qA.out
            have qAC := fun i_ : Nat => blk_frozen qA.out i_
            obtain ⟨js, jt, eo106⟩ := Kd.R_slice ji.out
            subst eo106
            try go_wp2_with (first | ((with_reducible refine gate_callee (f := 28) rfl ?_); refine goesL_ (some 73) rfl rfl Try.func28 (by kernel_rfl) rfl #[.slice js y233.length jt, .int .i64 (qC.length : Int)] rfl (by (try simp only [List.map_toArray, List.map_cons, List.map_nil]); first | done | rfl | (simp only [List.length_drop, List.length_take]; rfl)) ?_; (with_reducible refine (code_pair.calls (fun k_ => some k_ = (.slice js y233.length jt : Value).ownBlock) (.slice js y233.length jt) y233 (qC.length : Int) jM w _ ?side1 ?side2 A99.out).mono ?_); (case side1 => exact (by have := GEc.mk qJ.out; exact lS HB)); (case side2 => exact Kd.R_tight rfl ji.out); rintro e w107 ⟨v237, rfl, ho0, hb, hkp⟩; refine ⟨_, rfl, ?_⟩; replace qA := aM (blk_kept (lK qA) hkp (fun hs_ => (fun e_ => (Kd.R_ne ji.out qA.out (by decide)) e_) hs_)); have yu := aM (Kd.R_mono (ok' := fun k_ => some k_ ≠ (.slice yT y230.length yU : Value).ownBlock) ho0 (fun k_ hk_ => Or.elim hk_ (fun hs_ => fun e_ => (((jC.out).1 k_ e_.symm).2) hs_) (fun hn_ => (Kd.fresh' (Kd.R_lt (lR jC)) k_ hn_)))); replace jC := aM (Kd.R_mono (ok' := fun k_ => some k_ ≠ (v237 : Value).ownBlock) (Kd.R_keptB (jC.out) hkp (fun k_ hk_ hs_ => (hk_.2) hs_)) (fun k_ hk_ => fun e_ => Or.elim (ho0.1 k_ e_.symm) (fun hs_ => hk_.2.1 hs_) (fun hn_ => Nat.not_le.2 hk_.2.2 hn_))); replace HB := aM (hb); clear ji; (try clear hb); (try clear hkp); (try clear ho0); have qAD := zc15 qA.out; have qAE := fun i_ : Nat => blk_frozen qA.out i_))
            go_loopg [5, 79] k2 (fun kq v5 v79 w' => ∃ (ql : List Int) (qB : Int), v79 = .int .i64 qB ∧ Aside0 (code_Encode.l6 kq ql 2 qC (qC.length : Int) qB qP qQ qI qR qS qE qN qT qU qF qG qL qM qC qH = some (r1, r2)) ∧ Aside0 (kq ≤ k2) ∧ Aside0 (Kd.R (Kd.int .u8) 5 w' w.heap.size (fun _ => True) v5 ql) ∧ Aside0 (w'.heap[qD]? = some (.cells #[.int .i64 qP, .int .i64 qQ, (.slice qv qI.length qu), .int .i64 qR, .int .i64 qS, (.slice q0 qE.length qw), (.slice qx qN.length qy), .int .i64 qT, .int .i64 qU, (.slice q1 qF.length qz), (.slice qm qG.length qn), .int .i64 qL, .int .i64 qM, (.slice qr qC.length qo), (.slice qp qH.length qq)] 28 (0, 0))) ∧ Aside0 (Below w.heap.size w w'))
            case atStart => exact ⟨(jM), (0), (by first | rfl | (simp; done) | (simp [*]; done) | (simp [wrap64]; done)), H', ⟨Nat.le_refl _⟩, ⟨by (with_reducible repeat (first | apply Kd.R_alloc | apply Kd.R_drewN | apply Kd.R_drew)); exact Kd.R_mono yu.out (fun _ hk => trivial)⟩, ⟨by refine lZ ?_; exact qA.out⟩, ⟨by repeat (first | (with_reducible first | exact HB.out | apply below_alloc | apply pw_below_drewN | apply below_drew1 | refine below_set ?_ qJ.out) | exact HB.out)⟩⟩
            case round =>
             clear H'
             try clear c61
             try clear c97
             try clear c98
             obtain ⟨ql, qB, rfl, HA, HK3, qK, qA, HB⟩ := hrel
             cases gk with
             | zero => exact absurd HA.out (by simp [code_Encode.l6])
             | succ k3 =>
              have H := HA.out
              clear HA
              simp only [code_Encode.l6] at H
              by_cases c109 : qB < (qC.length : Int)
              ·rw [if_pos c109] at H
               have c109b0 : decide (qB < (qC.length : Int)) = true := decide_eq_true c109
               clear c109
               by_cases c110 : 0 ≤ qB
               ·rw [if_pos c110] at H
                have c110b0 : decide (0 ≤ qB) = true := decide_eq_true c110
                clear c110
                by_cases c111 : qB < (qC.length : Int)
                ·rw [if_pos c111] at H
                 have c111b0 : decide (qB < (qC.length : Int)) = true := decide_eq_true c111
                 clear c111
                 obtain ⟨y241, hy241⟩ : ∃ y_ : List Int, y_ = (([((rd_T63 qC qB).f0) % 256, ((rd_T63 qC qB).f1) % 256, ((rd_T63 qC qB).f2) % 256, ((rd_T63 qC qB).f3) % 256] : List Int)) := ⟨_, rfl⟩
                 replace H : (if ql.length + y241.length < 140737488355328 then ((code_pair.f (ql ++ y241) ((rd_T63 qC qB).f4)).bind fun jP => (code_Encode.l6 k3 jP 2 qC (qC.length : Int) (wrap64 (qB + 1)) qP qQ qI qR qS qE qN qT qU qF qG qL qM qC qH)) else (none)) = some (r1, r2) := by first | (rw [hy241]; with_reducible exact H) | (have H2_ := (Option.bind_some _ _).symm.trans H; rw [hy241]; with_reducible exact H2_) | (have H2_ := (Option.bind_some _ _).symm.trans H; with_reducible exact H2_) | with_reducible exact H | (rw [hy241]; exact H) | exact H
                 have Ny241 := aM hy241
                 clear hy241
                 by_cases c112 : ql.length + y241.length < 140737488355328
                 ·rw [if_pos c112] at H
                  have LMc112 := aM c112
                  clear c112
                  obtain ⟨y244, hy244⟩ : ∃ y_ : List Int, y_ = (ql ++ y241) := ⟨_, rfl⟩
                  replace H : ((code_pair.f y244 ((rd_T63 qC qB).f4)).bind fun jP => (code_Encode.l6 k3 jP 2 qC (qC.length : Int) (wrap64 (qB + 1)) qP qQ qI qR qS qE qN qT qU qF qG qL qM qC qH)) = some (r1, r2) := by first | (rw [hy244]; with_reducible exact H) | (have H2_ := (Option.bind_some _ _).symm.trans H; rw [hy244]; with_reducible exact H2_) | (have H2_ := (Option.bind_some _ _).symm.trans H; with_reducible exact H2_) | with_reducible exact H | (rw [hy244]; exact H) | exact H
                  have Ny244 := aM hy244
                  clear hy244
                  replace H := Option.bind_eq_some_iff.mp H
                  obtain ⟨jP, A1130, H⟩ := H
                  replace H : (code_Encode.l6 k3 jP 2 qC (qC.length : Int) (wrap64 (qB + 1)) qP qQ qI qR qS qE qN qT qU qF qG qL qM qC qH) = some (r1, r2) := H
                  have A113 := aM A1130
                  clear A1130
                  have H' := aM H
                  clear H
                  have p239 : 0 ≤ (qB : Int) := of_decide_eq_true (by first | (with_reducible assumption) | assumption)
                  have q239 : qB < (qC.length : Int) := of_decide_eq_true (by first | (with_reducible assumption) | assumption)
                  obtain ⟨ad239, e239, hx239_0, hx239_1, hx239_2, hx239_3, hx239_4⟩ := at_T63 jm.out qB p239 q239
                  cases e239
                  replace hx239_0 := (HB.out.cell (World.block_lt_of_cell? w _ hx239_0)).trans hx239_0
                  replace hx239_1 := (HB.out.cell (World.block_lt_of_cell? w _ hx239_1)).trans hx239_1
                  replace hx239_2 := (HB.out.cell (World.block_lt_of_cell? w _ hx239_2)).trans hx239_2
                  replace hx239_3 := (HB.out.cell (World.block_lt_of_cell? w _ hx239_3)).trans hx239_3
                  replace hx239_4 := (HB.out.cell (World.block_lt_of_cell? w _ hx239_4)).trans hx239_4
                  replace p239 := eq_true p239
                  replace q239 := eq_true q239
                  go_wp2_with (first | ((with_reducible refine gate_dst (N := 11) rfl ?_); refine box_event ?hg (N := 11) ?hd (cs := #[.int .i64 0, .int .i64 0, .int .i64 0, .int .i64 0, .int .i64 0]) (t := 63) ?hr ?_; (case hd => rfl); (case hg => rfl); (case hr => first | (go_simp; done) | (go_simp; rfl)); intro jX hg w114 hbox hb; replace qK := aM (Kd.R_below (lR qK) hb); have q4 := aM (hbox); have qA6 := aM ((by rw [hg]; exact (below_size (by have := GEc.mk qJ.out; exact lS HB)) : w.heap.size ≤ jX)); have jY := aM ((by rw [hg]; exact (below_size (by have := GEc.mk qJ.out; exact lS HB)) : w.heap.size ≤ jX)); replace HB := aM (below_step (by have := GEc.mk qJ.out; exact lS HB) hb); have q9 := aM ((by rw [hg]; exact Nat.ne_of_lt (blk_lt (g := qD) (lK qA)) : qD ≠ jX)); have j8 := aM ((by rw [hg]; exact Nat.ne_of_gt (blk_lt (g := qD) (lK qA)) : jX ≠ qD)); replace qA := aM (blk_below (g := qD) (lK qA) hb); clear hb hbox hg; have qAv := j8.out; have qAw := q9.out; have qAF := zc5 q4.out; have qAG := fun i_ : Nat => blk_frozen q4.out i_) | ((with_reducible refine gate_dst (N := 96) rfl ?_); refine Kd.R_lit (Kd.int .u8) _ 5 ?hg (N := 96) ?hd (xs := ([((rd_T63 qC qB).f0) % 256, ((rd_T63 qC qB).f1) % 256, ((rd_T63 qC qB).f2) % 256, ((rd_T63 qC qB).f3) % 256] : List Int)) (inner := [.int .u8 (((rd_T63 qC qB).f0) % 256), .int .u8 (((rd_T63 qC qB).f1) % 256), .int .u8 (((rd_T63 qC qB).f2) % 256), .int .u8 (((rd_T63 qC qB).f3) % 256)]) (ok := fun _ => True) (okp := fun _ => True) ?hr ?hp (fun _ hk => hk) trivial (Below.refl _ _) (Nat.le_refl _) (by simp) ?_; (case hd => rfl); (case hg => rfl); (case hr => first | (go_simp; done) | (go_simp; rfl)); (case hp => exact (Reps.one (show Kd.M (Kd.int .u8) _ _ _ (((rd_T63 qC qB).f0) % 256) [.int .u8 (((rd_T63 qC qB).f0) % 256)] from rfl) (Reps.one (show Kd.M (Kd.int .u8) _ _ _ (((rd_T63 qC qB).f1) % 256) [.int .u8 (((rd_T63 qC qB).f1) % 256)] from rfl) (Reps.one (show Kd.M (Kd.int .u8) _ _ _ (((rd_T63 qC qB).f2) % 256) [.int .u8 (((rd_T63 qC qB).f2) % 256)] from rfl) (Reps.one (show Kd.M (Kd.int .u8) _ _ _ (((rd_T63 qC qB).f3) % 256) [.int .u8 (((rd_T63 qC qB).f3) % 256)] from rfl) (Reps.none _ _)))))); intro v242 w117 ho118 hb hg_ hnew_; clear hg_ hnew_; (first | rw [← Ny241.out] at ho118 | (simp only [Int.reduceToNat] at ho118; rw [← Ny241.out] at ho118)); have jH := aM (Kd.R_lower (Kd.R_new' ho118 (Kd.R_lt (by (with_reducible repeat (first | apply Kd.R_alloc | apply Kd.R_drewN | apply Kd.R_drew)); exact (Kd.R_mono (fA (fA (fA (fA (fA (Kd.R_types qK.out q4.out (by decide))))))) (fun _ h_ => h_.1))))) (below_size (by have := GEc.mk qJ.out; have := GEc.mk jY.out; exact lS HB))); replace qK := aM (Kd.R_elder' (by (with_reducible repeat (first | apply Kd.R_alloc | apply Kd.R_drewN | apply Kd.R_drew)); exact (Kd.R_mono (fA (fA (fA (fA (fA (Kd.R_types qK.out q4.out (by decide))))))) (fun _ h_ => h_.1))) (Kd.R_base ho118) hb); replace qA := aM (blk_below (g := qD) (o := .cells #[.int .i64 qP, .int .i64 qQ, .slice qv qI.length qu, .int .i64 qR, .int .i64 qS, .slice q0 qE.length qw, .slice qx qN.length qy, .int .i64 qT, .int .i64 qU, .slice q1 qF.length qz, .slice qm qG.length qn, .int .i64 qL, .int .i64 qM, .slice (some ad239) qC.length qo, .slice qp qH.length qq] 28 (0, 0)) (by refine lZ ?_; refine blk_far ?_ q9.out _; refine lZ ?_; refine blk_far ?_ q9.out _; refine lZ ?_; refine blk_far ?_ q9.out _; refine lZ ?_; refine blk_far ?_ q9.out _; refine lZ ?_; refine blk_far ?_ q9.out _; refine lZ ?_; exact qA.out) hb); replace q4 := aM (blk_below (g := jX) (o := .cells #[.int .i64 ((rd_T63 qC qB).f0), .int .i64 ((rd_T63 qC qB).f1), .int .i64 ((rd_T63 qC qB).f2), .int .i64 ((rd_T63 qC qB).f3), .int .i64 ((rd_T63 qC qB).f4)] 63 (0, 0)) (by refine lZ ?_; refine blk_put (cs := #[.int .i64 ((rd_T63 qC qB).f0), .int .i64 ((rd_T63 qC qB).f1), .int .i64 ((rd_T63 qC qB).f2), .int .i64 ((rd_T63 qC qB).f3), .int .i64 0]) ?_ 4 _ rfl; refine lZ ?_; refine blk_put (cs := #[.int .i64 ((rd_T63 qC qB).f0), .int .i64 ((rd_T63 qC qB).f1), .int .i64 ((rd_T63 qC qB).f2), .int .i64 0, .int .i64 0]) ?_ 3 _ rfl; refine lZ ?_; refine blk_put (cs := #[.int .i64 ((rd_T63 qC qB).f0), .int .i64 ((rd_T63 qC qB).f1), .int .i64 0, .int .i64 0, .int .i64 0]) ?_ 2 _ rfl; refine lZ ?_; refine blk_put (cs := #[.int .i64 ((rd_T63 qC qB).f0), .int .i64 0, .int .i64 0, .int .i64 0, .int .i64 0]) ?_ 1 _ rfl; refine lZ ?_; refine blk_put (cs := #[.int .i64 0, .int .i64 0, .int .i64 0, .int .i64 0, .int .i64 0]) ?_ 0 _ rfl; refine lZ ?_; exact q4.out) hb); replace HB := aM (below_step (by have := GEc.mk qJ.out; have := GEc.mk jY.out; exact lS HB) hb); clear hb ho118; obtain ⟨yV, yW, eo120⟩ := Kd.R_slice jH.out; subst eo120) | ((with_reducible refine gate_builtin (b := .append) (xs := #[.tmp 83, .tmp 96]) rfl ?_); at_builtin; refine Kd.R_append_rows (Kd.int .u8) (w0 := w) w.heap.size rfl (.tmp 83) (.tmp 96) 31 5 (.int .u8 0) 1 rfl Try.underlying31 info5 rfl (by decide) (by omega) u5 ql y241 _ _ _ (fun k_ => some k_ ≠ (.slice yV y241.length yW : Value).ownBlock) (fun _ => False) rfl rfl ?aO ?aR (fun _ _ h => h) (fun _ h => h.elim) ?aF ?aB ?aS ?aL ?_; (case aR => repeat (first | exact (Kd.R_reads' jH.out).2.2 | (with_reducible refine Kd.C_alloc ?_ _) | (with_reducible refine Kd.C_drewN ?_ _) | (with_reducible refine Kd.C_drew ?_))); (case aB => exact (by have := GEc.mk qJ.out; have := GEc.mk jY.out; exact lS HB)); (case aF => exact (fun k_ hk => Kd.fresh' (Kd.R_lt (lR jH)) k_ hk)); (case aO => exact (by (with_reducible repeat (first | apply Kd.R_alloc | apply Kd.R_drewN | apply Kd.R_drew)); exact Kd.R_mono qK.out (fun _ hk => hk.2))); (case aS => exact (below_size (by have := GEc.mk qJ.out; have := GEc.mk jY.out; exact lS HB))); (case aL => have := LMc112.out; omega); intro v245 w119 ho hb hg hat; rw [← Ny244.out] at ho; replace qA := aM (blk_grown (g := qD) (lK qA) hg (Kd.R_ne qK.out qA.out (by decide))); replace q4 := aM (blk_grown (g := jX) (lK q4) hg (Kd.R_ne qK.out q4.out (by decide))); replace jH := aM (Kd.R_after (ok := (fun _ => True)) (lR jH) hg hat); replace HB := aM (hb); have jd := aM (ho); clear qK; clear ho hb hg hat; have qAH := zc5 q4.out; have qAI := fun i_ : Nat => blk_frozen q4.out i_; obtain ⟨ju, jv, eo122⟩ := Kd.R_slice jd.out; subst eo122) | ((with_reducible refine gate_callee (f := 28) rfl ?_); refine goesL_ (some 101) rfl rfl Try.func28 (by kernel_rfl) rfl #[.slice ju y244.length jv, .int .i64 ((rd_T63 qC qB).f4)] rfl (by (try simp only [List.map_toArray, List.map_cons, List.map_nil]); first | done | rfl | (simp only [List.length_drop, List.length_take]; rfl)) ?_; (with_reducible refine (code_pair.calls (fun k_ => some k_ = (.slice ju y244.length jv : Value).ownBlock) (.slice ju y244.length jv) y244 ((rd_T63 qC qB).f4) jP w _ ?side1 ?side2 A113.out).mono ?_); (case side1 => exact (by have := GEc.mk qJ.out; have := GEc.mk jY.out; exact lS HB)); (case side2 => exact Kd.R_tight rfl jd.out); rintro e w123 ⟨v248, rfl, ho0, hb, hkp⟩; refine ⟨_, rfl, ?_⟩; replace qA := aM (blk_kept (lK qA) hkp (fun hs_ => (fun e_ => (Kd.R_ne jd.out qA.out (by decide)) e_) hs_)); replace q4 := aM (blk_kept (lK q4) hkp (fun hs_ => (fun e_ => (Kd.R_ne jd.out q4.out (by decide)) e_) hs_)); have yv := aM (Kd.R_mono (ok' := fun k_ => some k_ ≠ (.slice yV y241.length yW : Value).ownBlock) ho0 (fun k_ hk_ => Or.elim hk_ (fun hs_ => fun e_ => (((jH.out).1 k_ e_.symm).2) hs_) (fun hn_ => (Kd.fresh' (Kd.R_lt (lR jH)) k_ hn_)))); replace jH := aM (Kd.R_mono (ok' := fun k_ => some k_ ≠ (v248 : Value).ownBlock) (Kd.R_keptB (jH.out) hkp (fun k_ hk_ hs_ => (hk_.2) hs_)) (fun k_ hk_ => fun e_ => Or.elim (ho0.1 k_ e_.symm) (fun hs_ => hk_.2.1 hs_) (fun hn_ => Nat.not_le.2 hk_.2.2 hn_))); replace HB := aM (hb); clear jd; (try clear hb); (try clear hkp); (try clear ho0)))
                  go_roundg k3
                  case measure => have := HK1.out; have := HK2.out; have := HK3.out; omega
                  case rel => exact ⟨(jP), (wrap64 (qB + 1)), (by first | rfl | (simp; done) | (simp [*]; done) | (simp [wrap64]; done)), H', ⟨by have := HK1.out; have := HK2.out; have := HK3.out; omega⟩, ⟨by (with_reducible repeat (first | apply Kd.R_alloc | apply Kd.R_drewN | apply Kd.R_drew)); exact Kd.R_mono yv.out (fun _ hk => trivial)⟩, ⟨by refine lZ ?_; exact qA.out⟩, ⟨by repeat (first | (with_reducible first | exact HB.out | apply below_alloc | apply pw_below_drewN | apply below_drew1 | refine below_set ?_ qJ.out | refine below_set ?_ jY.out) | exact HB.out)⟩⟩
                 ·rw [if_neg c112] at H
                  exact absurd H (by simp)
                ·rw [if_neg c111] at H
                 exact absurd H (by simp)
               ·rw [if_neg c110] at H
                exact absurd H (by simp)
              ·rw [if_neg c109] at H
               have c109b0 : decide (qB < (qC.length : Int)) = false := decide_eq_false c109
               clear c109
               by_cases c124 : ql.length < 140737488355328
               ·rw [if_pos c124] at H
                have LMc124 := aM c124
                clear c124
                obtain ⟨y250, hy250⟩ : ∃ y_ : List Int, y_ = (ql ++ [((qH.length : Int)) % 256]) := ⟨_, rfl⟩
                replace H : (code_Encode.l7 k3 y250 2 qH (qH.length : Int) 0 qP qQ qI qR qS qE qN qT qU qF qG qL qM qC qH) = some (r1, r2) := by first | (rw [hy250]; with_reducible exact H) | (have H2_ := (Option.bind_some _ _).symm.trans H; rw [hy250]; with_reducible exact H2_) | (have H2_ := (Option.bind_some _ _).symm.trans H; with_reducible exact H2_) | with_reducible exact H | (rw [hy250]; exact H) | exact H
                have Ny250 := aM hy250
                clear hy250
                have H' := aM H
                clear H
                have qAJ := zc15 qA.out
                have qAK := fun i_ : Nat => blk_frozen qA.out i_
                go_wp2_with (first | ((with_reducible refine gate_builtin (b := .append) (xs := #[.tmp 103, .tmp 110]) rfl ?_); at_builtin; refine Kd.R_append (Kd.int .u8) (w0 := w) w.heap.size rfl (.tmp 103) (.tmp 110) 31 5 (.int .u8 0) 1 rfl Try.underlying31 info5 rfl (by decide) (by omega) u5 ql (((qH.length : Int)) % 256) [.int .u8 (((qH.length : Int)) % 256)] (fun _ => True) (fun _ => False) rfl rfl ?aP (fun _ hk => hk.elim) ?aF ?aO ?aB ?aS ?aL ?_; (case aP => exact rfl); (case aB => exact (by have := GEc.mk qJ.out; exact lS HB)); (case aF => exact (fun _ _ => trivial)); (case aO => exact (lR qK)); (case aS => exact (below_size (by have := GEc.mk qJ.out; exact lS HB))); (case aL => have := LMc124.out; omega); intro v251 w126 ho hb hg hat; rw [← Ny250.out] at ho; replace qA := aM (blk_grown (g := qD) (lK qA) hg (Kd.R_ne qK.out qA.out (by decide))); replace HB := aM (hb); have yw := aM (ho); clear qK; clear ho hb hg hat; have qAL := zc15 qA.out; have qAM := fun i_ : Nat => blk_frozen qA.out i_))
                go_loopg [5, 117] k3 (fun kq v5 v117 w' => ∃ (qt : List Int) (qO : Int), v117 = .int .i64 qO ∧ Aside0 (code_Encode.l7 kq qt 2 qH (qH.length : Int) qO qP qQ qI qR qS qE qN qT qU qF qG qL qM qC qH = some (r1, r2)) ∧ Aside0 (kq ≤ k3) ∧ Aside0 (Kd.R (Kd.int .u8) 5 w' w.heap.size (fun _ => True) v5 qt) ∧ Aside0 (w'.heap[qD]? = some (.cells #[.int .i64 qP, .int .i64 qQ, (.slice qv qI.length qu), .int .i64 qR, .int .i64 qS, (.slice q0 qE.length qw), (.slice qx qN.length qy), .int .i64 qT, .int .i64 qU, (.slice q1 qF.length qz), (.slice qm qG.length qn), .int .i64 qL, .int .i64 qM, (.slice qr qC.length qo), (.slice qp qH.length qq)] 28 (0, 0))) ∧ Aside0 (Below w.heap.size w w'))
                case atStart => exact ⟨(y250), (0), (by first | rfl | (simp; done) | (simp [*]; done) | (simp [wrap64]; done)), H', ⟨Nat.le_refl _⟩, ⟨by (with_reducible repeat (first | apply Kd.R_alloc | apply Kd.R_drewN | apply Kd.R_drew)); exact yw.out⟩, ⟨by refine lZ ?_; exact qA.out⟩, ⟨by repeat (first | (with_reducible first | exact HB.out | apply below_alloc | apply pw_below_drewN | apply below_drew1 | refine below_set ?_ qJ.out) | exact HB.out)⟩⟩
                case round =>
                 clear H'
                 try clear c11
                 try clear c61
                 try clear c97
                 try clear c98
                 try clear c109
                 try clear c124
                 obtain ⟨qt, qO, rfl, HA, HK4, qK, qA, HB⟩ := hrel
                 cases gk with
                 | zero => exact absurd HA.out (by simp [code_Encode.l7])
                 | succ k4 =>
                  have H := HA.out
                  clear HA
                  simp only [code_Encode.l7] at H
                  by_cases c128 : qO < (qH.length : Int)
                  ·rw [if_pos c128] at H
                   have c128b0 : decide (qO < (qH.length : Int)) = true := decide_eq_true c128
                   clear c128
                   by_cases c129 : 0 ≤ qO
                   ·rw [if_pos c129] at H
                    have c129b0 : decide (0 ≤ qO) = true := decide_eq_true c129
                    clear c129
                    by_cases c130 : qO < (qH.length : Int)
                    ·rw [if_pos c130] at H
                     have c130b0 : decide (qO < (qH.length : Int)) = true := decide_eq_true c130
                     clear c130
                     by_cases c131 : qt.length < 140737488355328
                     ·rw [if_pos c131] at H
                      have LMc131 := aM c131
                      clear c131
                      obtain ⟨y254, hy254⟩ : ∃ y_ : List Int, y_ = (qt ++ [(rd qH qO) % 256]) := ⟨_, rfl⟩
                      replace H : (code_Encode.l7 k4 y254 2 qH (qH.length : Int) (wrap64 (qO + 1)) qP qQ qI qR qS qE qN qT qU qF qG qL qM qC qH) = some (r1, r2) := by first | (rw [hy254]; with_reducible exact H) | (have H2_ := (Option.bind_some _ _).symm.trans H; rw [hy254]; with_reducible exact H2_) | (have H2_ := (Option.bind_some _ _).symm.trans H; with_reducible exact H2_) | with_reducible exact H | (rw [hy254]; exact H) | exact H
                      have Ny254 := aM hy254
                      clear hy254
                      have H' := aM H
                      clear H
                      have p253 : 0 ≤ (qO : Int) := of_decide_eq_true (by first | (with_reducible assumption) | assumption)
                      have q253 : qO < (qH.length : Int) := of_decide_eq_true (by first | (with_reducible assumption) | assumption)
                      obtain ⟨ad253, e253, hx253_0⟩ := Kd.at_int jn.out qO p253 q253
                      cases e253
                      replace hx253_0 := (HB.out.cell (World.block_lt_of_cell? w _ hx253_0)).trans hx253_0
                      replace p253 := eq_true p253
                      replace q253 := eq_true q253
                      go_wp2_with (first | ((with_reducible refine gate_builtin (b := .append) (xs := #[.tmp 121, .tmp 124]) rfl ?_); at_builtin; refine Kd.R_append (Kd.int .u8) (w0 := w) w.heap.size rfl (.tmp 121) (.tmp 124) 31 5 (.int .u8 0) 1 rfl Try.underlying31 info5 rfl (by decide) (by omega) u5 qt ((rd qH qO) % 256) [.int .u8 ((rd qH qO) % 256)] (fun _ => True) (fun _ => False) rfl rfl ?aP (fun _ hk => hk.elim) ?aF ?aO ?aB ?aS ?aL ?_; (case aP => exact rfl); (case aB => exact (by have := GEc.mk qJ.out; exact lS HB)); (case aF => exact (fun _ _ => trivial)); (case aO => exact (lR qK)); (case aS => exact (below_size (by have := GEc.mk qJ.out; exact lS HB))); (case aL => have := LMc131.out; omega); intro v255 w132 ho hb hg hat; rw [← Ny254.out] at ho; replace qA := aM (blk_grown (g := qD) (lK qA) hg (Kd.R_ne qK.out qA.out (by decide))); replace HB := aM (hb); have yx := aM (ho); clear qK; clear ho hb hg hat))
                      go_roundg k4
                      case measure => have := HK1.out; have := HK2.out; have := HK3.out; have := HK4.out; omega
                      case rel => exact ⟨(y254), (wrap64 (qO + 1)), (by first | rfl | (simp; done) | (simp [*]; done) | (simp [wrap64]; done)), H', ⟨by have := HK1.out; have := HK2.out; have := HK3.out; have := HK4.out; omega⟩, ⟨by (with_reducible repeat (first | apply Kd.R_alloc | apply Kd.R_drewN | apply Kd.R_drew)); exact yx.out⟩, ⟨by refine lZ ?_; exact qA.out⟩, ⟨by repeat (first | (with_reducible first | exact HB.out | apply below_alloc | apply pw_below_drewN | apply below_drew1 | refine below_set ?_ qJ.out) | exact HB.out)⟩⟩
                     ·rw [if_neg c131] at H
                      exact absurd H (by simp)
                    ·rw [if_neg c130] at H
                     exact absurd H (by simp)
                   ·rw [if_neg c129] at H
                    exact absurd H (by simp)
                  ·rw [if_neg c128] at H
                   have c128b0 : decide (qO < (qH.length : Int)) = false := decide_eq_false c128
                   clear c128
                   have H' := aM H
                   clear H
                   go_wp2
                   go_roundg k4
                   case measure => have := HK1.out; have := HK2.out; have := HK3.out; have := HK4.out; omega
                   case rel => exact ⟨(qt), (wrap64 (2 + 1)), (by first | rfl | (simp; done) | (simp [*]; done) | (simp [wrap64]; done)), H', ⟨by have := HK1.out; have := HK2.out; have := HK3.out; have := HK4.out; omega⟩, ⟨by (with_reducible repeat (first | apply Kd.R_alloc | apply Kd.R_drewN | apply Kd.R_drew)); exact qK.out⟩, ⟨by refine lZ ?_; exact qA.out⟩, ⟨by repeat (first | (with_reducible first | exact HB.out | apply below_alloc | apply pw_below_drewN | apply below_drew1 | refine below_set ?_ qJ.out) | exact HB.out)⟩⟩
               ·rw [if_neg c124] at H
                exact absurd H (by simp)
           ·rw [if_neg c98] at H
            exact absurd H (by simp)
          ·rw [if_neg c97] at H
           exact absurd H (by simp)
       ·rw [if_neg c24] at H
        have c24b0 : decide (jE < 3) = false := decide_eq_false c24
        clear c24
        replace H := Option.bind_eq_some_iff.mp H
        obtain ⟨je, A1330, H⟩ := H
        replace H : ((code_pair.f qs je).bind fun jf => (some (jf, 0))) = some (r1, r2) := H
        have A133 := aM A1330
        clear A1330
        replace H := Option.bind_eq_some_iff.mp H
        obtain ⟨jf, A1340, H⟩ := H
        replace H : (some (jf, 0)) = some (r1, r2) := H
        have A134 := aM A1340
        clear A1340
        simp only [Option.some.injEq, Prod.mk.injEq] at H
        obtain ⟨rfl, rfl⟩ := H
        obtain ⟨jj, jk, eo135⟩ := Kd.R_slice qK.out
        subst eo135
        go_wp2_with (first | ((with_reducible refine gate_callee (f := 29) rfl ?_); refine goesL_ (some 130) rfl rfl Try.func29 (by kernel_rfl) rfl #[.slice jj qs.length jk] rfl (by (try simp only [List.map_toArray, List.map_cons, List.map_nil]); first | done | rfl | (simp only [List.length_drop, List.length_take]; rfl)) ?_; (with_reducible refine (code_check.calls k2 _ _ qs je _ ?side1 ?side2 A133.out).mono ?_); (case side1 => refine lY ?_; exact (Kd.R_reads' qK.out).2.2); (case side2 => exact (Kd.R_reads' qK.out).2.1); rintro e w' ⟨rfl, ⟨nd, rfl⟩⟩; refine ⟨_, rfl, ?_⟩) | ((with_reducible refine gate_callee (f := 28) rfl ?_); refine goesL_ (some 131) rfl rfl Try.func28 (by kernel_rfl) rfl #[.slice jj qs.length jk, .int .i64 je] rfl (by (try simp only [List.map_toArray, List.map_cons, List.map_nil]); first | done | rfl | (simp only [List.length_drop, List.length_take]; rfl)) ?_; (with_reducible refine (code_pair.calls (fun k_ => some k_ = (.slice jj qs.length jk : Value).ownBlock) (.slice jj qs.length jk) qs je jf w _ ?side1 ?side2 A134.out).mono ?_); (case side1 => exact (by have := GEc.mk qJ.out; exact lS HB)); (case side2 => exact Kd.R_tight rfl qK.out); rintro e w136 ⟨v174, rfl, ho0, hb, hkp⟩; refine ⟨_, rfl, ?_⟩; replace qA := aM (blk_kept (lK qA) hkp (fun hs_ => (fun e_ => (Kd.R_ne qK.out qA.out (by decide)) e_) hs_)); have yy := aM (Kd.R_mono (ok' := fun k_ => True) ho0 (fun k_ hk_ => trivial)); replace HB := aM (hb); clear qK; (try clear hb); (try clear hkp); (try clear ho0)))
        go_ret2
        exact ⟨_, by first | rfl | (simp [errW_none, errW_some] <;> rfl) | (simp [*, errW_none, errW_some] <;> rfl), by (with_reducible repeat (first | apply Kd.R_alloc | apply Kd.R_drewN | apply Kd.R_drew)); exact yy.out, by repeat (first | (with_reducible first | exact HB.out | apply below_alloc | apply pw_below_drewN | apply below_drew1 | refine below_set ?_ qJ.out) | exact HB.out)⟩
 ·rw [if_neg c3] at H
  have c3b0 : (q6 == 0) = false := beq_eq_false_iff_ne.mpr c3
  have c3b1 : (q6 != 0) = true := bne_iff_ne.mpr c3
  simp only [Option.some.injEq, Prod.mk.injEq] at H
  obtain ⟨rfl, rfl⟩ := H
  have yX : ∀ (g_ : Nat) (W : World), Sem.run Try.prog (Instr.index 58 (.agg #[.pointer (some ⟨g_, 3, none⟩), .pointer (some ⟨g_, 7, none⟩), .pointer (some ⟨g_, 11, none⟩)]) (.int .i64 0)) W = .ok (.pointer (some ⟨g_, 3, none⟩)) W := fun _ _ => by kernel_rfl
  have yY : ∀ (g_ : Nat) (W : World), Sem.run Try.prog (Instr.index 58 (.agg #[.pointer (some ⟨g_, 3, none⟩), .pointer (some ⟨g_, 7, none⟩), .pointer (some ⟨g_, 11, none⟩)]) (.int .i64 1)) W = .ok (.pointer (some ⟨g_, 7, none⟩)) W := fun _ _ => by kernel_rfl
  have yZ : ∀ (g_ : Nat) (W : World), Sem.run Try.prog (Instr.index 58 (.agg #[.pointer (some ⟨g_, 3, none⟩), .pointer (some ⟨g_, 7, none⟩), .pointer (some ⟨g_, 11, none⟩)]) (.int .i64 2)) W = .ok (.pointer (some ⟨g_, 11, none⟩)) W := fun _ _ => by kernel_rfl
  have kcB := fun (w : World) (C : Array Value) (n c : Nat) => Lib.run_convert_bytes_const (P := Try.prog) w 31 5 C n c Try.underlying31 Try.underlying5
  go_enter Try.func12, Try.ntmps12
  go_wp2_with (first | ((with_reducible refine gate_dst (N := 1) rfl ?_); refine box_event ?hg (N := 1) ?hd (cs := #[.int .i64 qP, .int .i64 qQ, .slice qv qI.length qu, .int .i64 qR, .int .i64 qS, .slice q0 qE.length qw, .slice qx qN.length qy, .int .i64 qT, .int .i64 qU, .slice q1 qF.length qz, .slice qm qG.length qn, .int .i64 qL, .int .i64 qM, .slice qr qC.length qo, .slice qp qH.length qq]) (t := 28) ?hr ?_; (case hd => rfl); (case hg => rfl); (case hr => first | (go_simp; done) | (go_simp; rfl)); intro qD hg w137 hbox hb; have qA := aM (hbox); have yj := aM ((by rw [hg]; exact (below_size (lB HB)) : w.heap.size ≤ qD)); have qJ := aM ((by rw [hg]; exact (below_size (lB HB)) : w.heap.size ≤ qD)); replace HB := aM (below_step (lB HB) hb); clear hb hbox hg; have qAN := zc15 qA.out; have qAO := fun i_ : Nat => blk_frozen qA.out i_) | ((with_reducible refine gate_callee (f := 20) rfl ?_); refine goesL_ (some 15) rfl rfl Try.func20 (by kernel_rfl) rfl #[.agg #[.int .i64 qP, .int .i64 qQ, .slice qv qI.length qu, .int .i64 qR, .int .i64 qS, .slice q0 qE.length qw, .slice qx qN.length qy, .int .i64 qT, .int .i64 qU, .slice q1 qF.length qz, .slice qm qG.length qn, .int .i64 qL, .int .i64 qM, .slice qr qC.length qo, .slice qp qH.length qq]] rfl (by (try simp only [List.map_toArray, List.map_cons, List.map_nil]); first | done | rfl | (simp only [List.length_drop, List.length_take]; rfl)) ?_; (with_reducible refine (code_May.calls k qP qQ _ _ qI qR qS _ _ qE _ _ qN qT qU _ _ qF _ _ qG qL qM _ _ qC _ _ qH q6 _ ?side1 ?side2 ?side3 ?side4 ?side5 ?side6 ?side7 ?side8 ?side9 ?side10 ?side11 ?side12 ?side13 ?side14 A2.out).mono ?_); (case side1 => refine lY ?_; exact (Kd.C_below jo.out HB.out)); (case side2 => exact yP.out); (case side3 => refine lY ?_; exact (Kd.C_below jp.out HB.out)); (case side4 => exact yQ.out); (case side5 => refine lY ?_; exact (Kd.C_below jq.out HB.out)); (case side6 => exact yR.out); (case side7 => refine lY ?_; exact (Kd.C_below jr.out HB.out)); (case side8 => exact yS.out); (case side9 => refine lY ?_; exact (Kd.C_below jl.out HB.out)); (case side10 => exact j2.out); (case side11 => refine lY ?_; exact (Kd.C_below jm.out HB.out)); (case side12 => exact j3.out); (case side13 => refine lY ?_; exact (Kd.C_below jn.out HB.out)); (case side14 => exact j4.out); rintro e w139 ⟨rfl, hb⟩; refine ⟨_, rfl, ?_⟩; replace qA := aM (blk_below (g := qD) (lK qA) hb); replace HB := aM (below_step (by have := GEc.mk qJ.out; exact lS HB) hb); (try clear hb); (try clear hb2); (try clear hk); (try clear hi)))
  go_ret2
  exact ⟨_, by first | rfl | (simp [errW_none, errW_some] <;> rfl) | (simp [*, errW_none, errW_some] <;> rfl), by first | exact Kd.R_nil _ _ _ _ _ | exact Kd.N_nil _ _ _ _ _ | exact Kd.V_nil _ _ _ _ _ | exact Kd.Q_nil _ _ _ _ _ | exact Kd.S_nil _ _ _ _ _, by repeat (first | (with_reducible first | exact HB.out | apply below_alloc | apply pw_below_drewN | apply below_drew1 | refine below_set ?_ qJ.out) | exact HB.out)⟩

end Go.Proofs.Ytccbdcbeinkjgaa.XA
end
