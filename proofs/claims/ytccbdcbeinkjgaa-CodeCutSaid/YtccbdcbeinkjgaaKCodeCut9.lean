/- Part 9 of the proof of the law CodeCut for every input: words, walks and plain laws. No condition. -/
import Derived.Laws.EntriesVeiled
import Derived.Test.YtccbdcbeinkjgaaKCodeCut8
section
namespace Go.Proofs.Ytccbdcbeinkjgaa.XA
open Go.Proofs.Ytccbdcbeinkjgaa.Lift Go.RowKit Go.Proofs.YtccbdcbeinkjgaaW.PrintWords Go.Proofs.YtccbdcbeinkjgaaW.PrintLast Go.Proofs.YtccbdcbeinkjgaaW.PrintMore
attribute [local go_sem] max2_int min2_int max_two min_two max_three min_three max_four min_four
set_option linter.unusedVariables false
set_option linter.unusedSimpArgs false

theorem eqA48 (d : Nat) (w : World) (x0 y0 : Int) (x1 y1 : Int) :
  (Op.equalIn (d + 2) 48 (.agg #[.int .i64 x0, .int .i64 x1]) (.agg #[.int .i64 y0, .int .i64 y1])).run Try.prog w = .ok (x0 == y0 && (x1 == y1)) w := by
 refine eqA_of Try.underlying48 zk ?_
 refine eqf_cons (by rfl) (by go_simp; rfl) (by go_simp; rfl) (by go_simp) ?_
 exact eqf_last (by rfl) (by go_simp; rfl) (by go_simp; rfl) (by go_simp)
end Go.Proofs.Ytccbdcbeinkjgaa.XA
end

section
namespace Go.Proofs.Ytccbdcbeinkjgaa.XA
open Go.Proofs.Ytccbdcbeinkjgaa.Lift Go.RowKit Go.Proofs.YtccbdcbeinkjgaaW.PrintWords Go.Proofs.YtccbdcbeinkjgaaW.PrintLast Go.Proofs.YtccbdcbeinkjgaaW.PrintMore
attribute [local go_sem] max2_int min2_int max_two min_two max_three min_three max_four min_four
set_option linter.unusedVariables false
set_option linter.unusedSimpArgs false

attribute [local go_sem high] eqA48
/-! ### api_Point_30: function 30 -/
def api_Point_30.l0 : Nat → List (S48) → List (S48) → Int → Int → Option (Bool)
 | 0, _, _, _, _ => none
 | k + 1, x0, x1, x12, x13 => if x13 < x12 then (if 0 ≤ x13 then (if x13 < (x0.length : Int) then (if x13 < (x1.length : Int) then (if (!(((rd_T48 x0 x13).f0) == ((rd_T48 x1 x13).f0)) || (!(((rd_T48 x0 x13).f1) == ((rd_T48 x1 x13).f1)))) = true then (some false) else (api_Point_30.l0 k x0 x1 x12 (wrap64 (x13 + 1)))) else (none)) else (none)) else (none)) else (some true)
def api_Point_30.f (k : Nat) (l0 : List (S48)) (l1 : List (S48)) : Option (Bool) := if (l0.length : Int) = (l1.length : Int) then (api_Point_30.l0 k l0 l1 (l0.length : Int) 0) else (some false)
theorem api_Point_30.mono_l : ∀ k, (∀ y0 y1 y2 y3, LeO (api_Point_30.l0 k y0 y1 y2 y3) (api_Point_30.l0 (k + 1) y0 y1 y2 y3))
 | 0 => fun _ _ _ _ r h => by simp [api_Point_30.l0] at h
 | k + 1 => by
  have ih0 := api_Point_30.mono_l k
  ·intro y0 y1 y2 y3
   unfold api_Point_30.l0
   exact zM
theorem api_Point_30.mono : ∀ a0 a1 k, LeO (api_Point_30.f k a0 a1) (api_Point_30.f (k + 1) a0 a1) := by
 intro a0 a1 k
 have ih0 := api_Point_30.mono_l k
 unfold api_Point_30.f
 exact zM
set_option maxHeartbeats 8000000 in
set_option maxRecDepth 100000 in
theorem api_Point_30.calls (k : Nat) (A0 : Option Addr) (c0 : Nat) (l0 : List (S48)) (A1 : Option Addr) (c1 : Nat) (l1 : List (S48)) (r : Bool) (w : World) (hr0 : Kd.C k48 w A0 l0.length l0) (hc0 : l0.length ≤ c0) (hr1 : Kd.C k48 w A1 l1.length l1) (hc1 : l1.length ≤ c1) (h : api_Point_30.f k l0 l1 = some r) :
  Calls Try.prog 30 #[.slice A0 l0.length c0, .slice A1 l1.length c1] w fun e w' => e = .returned (.bool r) ∧ Drawn0 w w' := by
 have hu48 := Try.underlying48
 have HR0 := aM hr0
 have HC0 := aM hc0
 clear hr0 hc0
 have HR1 := aM hr1
 have HC1 := aM hc1
 clear hr1 hc1
 have H : (if (l0.length : Int) = (l1.length : Int) then (api_Point_30.l0 k l0 l1 (l0.length : Int) 0) else (some false)) = some r := h
 clear h
 by_cases c3 : (l0.length : Int) = (l1.length : Int)
 ·rw [if_pos c3] at H
  have c3b0 : ((l0.length : Int) == (l1.length : Int)) = true := beq_iff_eq.mpr c3
  have c3b1 : ((l0.length : Int) != (l1.length : Int)) = false := bne_eq_false_iff_eq.mpr c3
  have c3b2 : (l0.length == l1.length) = true := by first | simpa using c3 | (simp at c3 ⊢; omega)
  clear c3
  have H' := aM H
  clear H
  go_enter Try.func30, Try.ntmps30
  go_wp2
  repeat (go_quiet (fail); try go_wp2)
  go_loopg [13] k (fun kq v13 w' => ∃ (qA : Int), v13 = .int .i64 qA ∧ Aside0 (api_Point_30.l0 kq l0 l1 (l0.length : Int) qA = some r) ∧ Aside0 (kq ≤ k) ∧ Drawn0 w w')
  case atStart => exact ⟨(0), zT, H', ⟨Nat.le_refl _⟩, by repeat (first | exact Drawn0.refl _ | apply Drawn0.step)⟩
  case round =>
   clear H'
   try clear c1
   try clear c3
   obtain ⟨qA, rfl, HA, HK1, ⟨m1, rfl⟩⟩ := hrel
   cases gk with
   | zero => exact absurd HA.out (by simp [api_Point_30.l0])
   | succ k1 =>
    have H := HA.out
    clear HA
    simp only [api_Point_30.l0] at H
    by_cases c4 : qA < (l0.length : Int)
    ·rw [if_pos c4] at H
     have c4b0 := decide_eq_true c4
     clear c4
     by_cases c5 : 0 ≤ qA
     ·rw [if_pos c5] at H
      have c5b0 := decide_eq_true c5
      clear c5
      by_cases c6 : qA < (l0.length : Int)
      ·rw [if_pos c6] at H
       have c6b0 := decide_eq_true c6
       clear c6
       by_cases c7 : qA < (l1.length : Int)
       ·rw [if_pos c7] at H
        have c7b0 := decide_eq_true c7
        clear c7
        by_cases c8 : (!(((rd_T48 l0 qA).f0) == ((rd_T48 l1 qA).f0)) || (!(((rd_T48 l0 qA).f1) == ((rd_T48 l1 qA).f1)))) = true
        ·rw [if_pos c8] at H
         have c8b0 : (!(((rd_T48 l0 qA).f0) == ((rd_T48 l1 qA).f0)) || (!(((rd_T48 l0 qA).f1) == ((rd_T48 l1 qA).f1)))) = true := c8
         clear c8
         obtain rfl := Option.some.inj H
         have p257 : 0 ≤ (qA : Int) := of_decide_eq_true za
         have q257 : qA < (l0.length : Int) := of_decide_eq_true za
         obtain ⟨ad257, e257, hx257_0, hx257_1⟩ := at_T48 HR0.out qA p257 q257
         cases e257
         replace p257 := eq_true p257
         replace q257 := eq_true q257
         have p258 : 0 ≤ (qA : Int) := of_decide_eq_true za
         have q258 : qA < (l1.length : Int) := of_decide_eq_true za
         obtain ⟨ad258, e258, hx258_0, hx258_1⟩ := at_T48 HR1.out qA p258 q258
         cases e258
         replace p258 := eq_true p258
         replace q258 := eq_true q258
         go_wp2
         repeat (go_quiet (fail); try go_wp2)
         go_ret
         exact ⟨zT, by repeat (first | exact Drawn0.refl _ | apply Drawn0.step)⟩
        ·rw [if_neg c8] at H
         have c8b0 : (!(((rd_T48 l0 qA).f0) == ((rd_T48 l1 qA).f0)) || (!(((rd_T48 l0 qA).f1) == ((rd_T48 l1 qA).f1)))) = false := by simpa using c8
         clear c8
         have H' := aM H
         clear H
         have p257 : 0 ≤ (qA : Int) := of_decide_eq_true za
         have q257 : qA < (l0.length : Int) := of_decide_eq_true za
         obtain ⟨ad257, e257, hx257_0, hx257_1⟩ := at_T48 HR0.out qA p257 q257
         cases e257
         replace p257 := eq_true p257
         replace q257 := eq_true q257
         have p258 : 0 ≤ (qA : Int) := of_decide_eq_true za
         have q258 : qA < (l1.length : Int) := of_decide_eq_true za
         obtain ⟨ad258, e258, hx258_0, hx258_1⟩ := at_T48 HR1.out qA p258 q258
         cases e258
         replace p258 := eq_true p258
         replace q258 := eq_true q258
         go_wp2
         repeat (go_quiet (fail); try go_wp2)
         go_roundg k1
         case measure => have := HK1.out; omega
         case rel => exact ⟨(wrap64 (qA + 1)), zT, H', ⟨by have := HK1.out; omega⟩, by repeat (first | exact Drawn0.refl _ | apply Drawn0.step)⟩
       ·rw [if_neg c7] at H
        exact absurd H (by simp)
      ·rw [if_neg c6] at H
       exact absurd H (by simp)
     ·rw [if_neg c5] at H
      exact absurd H (by simp)
    ·rw [if_neg c4] at H
     have c4b0 := decide_eq_false c4
     clear c4
     obtain rfl := Option.some.inj H
     go_wp2
     repeat (go_quiet (fail); try go_wp2)
     go_ret
     exact ⟨zT, by repeat (first | exact Drawn0.refl _ | apply Drawn0.step)⟩
 ·rw [if_neg c3] at H
  have c3b0 : ((l0.length : Int) == (l1.length : Int)) = false := beq_eq_false_iff_ne.mpr c3
  have c3b1 : ((l0.length : Int) != (l1.length : Int)) = true := bne_iff_ne.mpr c3
  have c3b2 : (l0.length == l1.length) = false := by first | simpa using c3 | (simp at c3 ⊢; omega)
  obtain rfl := Option.some.inj H
  go_enter Try.func30, Try.ntmps30
  go_wp2
  repeat (go_quiet (fail); try go_wp2)
  go_ret
  exact ⟨zT, by repeat (first | exact Drawn0.refl _ | apply Drawn0.step)⟩

end Go.Proofs.Ytccbdcbeinkjgaa.XA
end

section
namespace Go.Proofs.Ytccbdcbeinkjgaa.XA
open Go.Proofs.Ytccbdcbeinkjgaa.Lift Go.RowKit Go.Proofs.YtccbdcbeinkjgaaW.PrintWords Go.Proofs.YtccbdcbeinkjgaaW.PrintLast Go.Proofs.YtccbdcbeinkjgaaW.PrintMore
attribute [local go_sem] max2_int min2_int max_two min_two max_three min_three max_four min_four
set_option linter.unusedVariables false
set_option linter.unusedSimpArgs false

theorem eqA63 (d : Nat) (w : World) (x0 y0 : Int) (x1 y1 : Int) (x2 y2 : Int) (x3 y3 : Int) (x4 y4 : Int) :
  (Op.equalIn (d + 2) 63 (.agg #[.int .i64 x0, .int .i64 x1, .int .i64 x2, .int .i64 x3, .int .i64 x4]) (.agg #[.int .i64 y0, .int .i64 y1, .int .i64 y2, .int .i64 y3, .int .i64 y4])).run Try.prog w = .ok (x0 == y0 && (x1 == y1 && (x2 == y2 && (x3 == y3 && (x4 == y4))))) w := by
 refine eqA_of Try.underlying63 zk ?_
 refine eqf_cons (by rfl) (by go_simp; rfl) (by go_simp; rfl) (by go_simp) ?_
 refine eqf_cons (by rfl) (by go_simp; rfl) (by go_simp; rfl) (by go_simp) ?_
 refine eqf_cons (by rfl) (by go_simp; rfl) (by go_simp; rfl) (by go_simp) ?_
 refine eqf_cons (by rfl) (by go_simp; rfl) (by go_simp; rfl) (by go_simp) ?_
 exact eqf_last (by rfl) (by go_simp; rfl) (by go_simp; rfl) (by go_simp)
end Go.Proofs.Ytccbdcbeinkjgaa.XA
end

section
namespace Go.Proofs.Ytccbdcbeinkjgaa.XA
open Go.Proofs.Ytccbdcbeinkjgaa.Lift Go.RowKit Go.Proofs.YtccbdcbeinkjgaaW.PrintWords Go.Proofs.YtccbdcbeinkjgaaW.PrintLast Go.Proofs.YtccbdcbeinkjgaaW.PrintMore
attribute [local go_sem] max2_int min2_int max_two min_two max_three min_three max_four min_four
set_option linter.unusedVariables false
set_option linter.unusedSimpArgs false

attribute [local go_sem high] eqA63
/-! ### api_Instr: function 49 -/
def api_Instr.l0 : Nat → List (S63) → List (S63) → Int → Int → Option (Bool)
 | 0, _, _, _, _ => none
 | k + 1, x0, x1, x12, x13 => if x13 < x12 then (if 0 ≤ x13 then (if x13 < (x0.length : Int) then (if x13 < (x1.length : Int) then (if (!(((rd_T63 x0 x13).f0) == ((rd_T63 x1 x13).f0)) || (!(((rd_T63 x0 x13).f1) == ((rd_T63 x1 x13).f1)) || (!(((rd_T63 x0 x13).f2) == ((rd_T63 x1 x13).f2)) || (!(((rd_T63 x0 x13).f3) == ((rd_T63 x1 x13).f3)) || (!(((rd_T63 x0 x13).f4) == ((rd_T63 x1 x13).f4))))))) = true then (some false) else (api_Instr.l0 k x0 x1 x12 (wrap64 (x13 + 1)))) else (none)) else (none)) else (none)) else (some true)
def api_Instr.f (k : Nat) (l0 : List (S63)) (l1 : List (S63)) : Option (Bool) := if (l0.length : Int) = (l1.length : Int) then (api_Instr.l0 k l0 l1 (l0.length : Int) 0) else (some false)
theorem api_Instr.mono_l : ∀ k, (∀ y0 y1 y2 y3, LeO (api_Instr.l0 k y0 y1 y2 y3) (api_Instr.l0 (k + 1) y0 y1 y2 y3))
 | 0 => fun _ _ _ _ r h => by simp [api_Instr.l0] at h
 | k + 1 => by
  have ih0 := api_Instr.mono_l k
  ·intro y0 y1 y2 y3
   unfold api_Instr.l0
   exact zM
theorem api_Instr.mono : ∀ a0 a1 k, LeO (api_Instr.f k a0 a1) (api_Instr.f (k + 1) a0 a1) := by
 intro a0 a1 k
 have ih0 := api_Instr.mono_l k
 unfold api_Instr.f
 exact zM
set_option maxHeartbeats 8000000 in
set_option maxRecDepth 100000 in
theorem api_Instr.calls (k : Nat) (A0 : Option Addr) (c0 : Nat) (l0 : List (S63)) (A1 : Option Addr) (c1 : Nat) (l1 : List (S63)) (r : Bool) (w : World) (hr0 : Kd.C k63 w A0 l0.length l0) (hc0 : l0.length ≤ c0) (hr1 : Kd.C k63 w A1 l1.length l1) (hc1 : l1.length ≤ c1) (h : api_Instr.f k l0 l1 = some r) :
  Calls Try.prog 49 #[.slice A0 l0.length c0, .slice A1 l1.length c1] w fun e w' => e = .returned (.bool r) ∧ Drawn0 w w' := by
 have hu63 := Try.underlying63
 have HR0 := aM hr0
 have HC0 := aM hc0
 clear hr0 hc0
 have HR1 := aM hr1
 have HC1 := aM hc1
 clear hr1 hc1
 have H : (if (l0.length : Int) = (l1.length : Int) then (api_Instr.l0 k l0 l1 (l0.length : Int) 0) else (some false)) = some r := h
 clear h
 by_cases c3 : (l0.length : Int) = (l1.length : Int)
 ·rw [if_pos c3] at H
  have c3b0 : ((l0.length : Int) == (l1.length : Int)) = true := beq_iff_eq.mpr c3
  have c3b1 : ((l0.length : Int) != (l1.length : Int)) = false := bne_eq_false_iff_eq.mpr c3
  have c3b2 : (l0.length == l1.length) = true := by first | simpa using c3 | (simp at c3 ⊢; omega)
  clear c3
  have H' := aM H
  clear H
  go_enter Try.func49, Try.ntmps49
  go_wp2
  repeat (go_quiet (fail); try go_wp2)
  go_loopg [13] k (fun kq v13 w' => ∃ (qA : Int), v13 = .int .i64 qA ∧ Aside0 (api_Instr.l0 kq l0 l1 (l0.length : Int) qA = some r) ∧ Aside0 (kq ≤ k) ∧ Drawn0 w w')
  case atStart => exact ⟨(0), zT, H', ⟨Nat.le_refl _⟩, by repeat (first | exact Drawn0.refl _ | apply Drawn0.step)⟩
  case round =>
   clear H'
   try clear c1
   try clear c3
   obtain ⟨qA, rfl, HA, HK1, ⟨m1, rfl⟩⟩ := hrel
   cases gk with
   | zero => exact absurd HA.out (by simp [api_Instr.l0])
   | succ k1 =>
    have H := HA.out
    clear HA
    simp only [api_Instr.l0] at H
    by_cases c4 : qA < (l0.length : Int)
    ·rw [if_pos c4] at H
     have c4b0 := decide_eq_true c4
     clear c4
     by_cases c5 : 0 ≤ qA
     ·rw [if_pos c5] at H
      have c5b0 := decide_eq_true c5
      clear c5
      by_cases c6 : qA < (l0.length : Int)
      ·rw [if_pos c6] at H
       have c6b0 := decide_eq_true c6
       clear c6
       by_cases c7 : qA < (l1.length : Int)
       ·rw [if_pos c7] at H
        have c7b0 := decide_eq_true c7
        clear c7
        by_cases c8 : (!(((rd_T63 l0 qA).f0) == ((rd_T63 l1 qA).f0)) || (!(((rd_T63 l0 qA).f1) == ((rd_T63 l1 qA).f1)) || (!(((rd_T63 l0 qA).f2) == ((rd_T63 l1 qA).f2)) || (!(((rd_T63 l0 qA).f3) == ((rd_T63 l1 qA).f3)) || (!(((rd_T63 l0 qA).f4) == ((rd_T63 l1 qA).f4))))))) = true
        ·rw [if_pos c8] at H
         have c8b0 : (!(((rd_T63 l0 qA).f0) == ((rd_T63 l1 qA).f0)) || (!(((rd_T63 l0 qA).f1) == ((rd_T63 l1 qA).f1)) || (!(((rd_T63 l0 qA).f2) == ((rd_T63 l1 qA).f2)) || (!(((rd_T63 l0 qA).f3) == ((rd_T63 l1 qA).f3)) || (!(((rd_T63 l0 qA).f4) == ((rd_T63 l1 qA).f4))))))) = true := c8
         clear c8
         obtain rfl := Option.some.inj H
         have p259 : 0 ≤ (qA : Int) := of_decide_eq_true za
         have q259 : qA < (l0.length : Int) := of_decide_eq_true za
         obtain ⟨ad259, e259, hx259_0, hx259_1, hx259_2, hx259_3, hx259_4⟩ := at_T63 HR0.out qA p259 q259
         cases e259
         replace p259 := eq_true p259
         replace q259 := eq_true q259
         have p260 : 0 ≤ (qA : Int) := of_decide_eq_true za
         have q260 : qA < (l1.length : Int) := of_decide_eq_true za
         obtain ⟨ad260, e260, hx260_0, hx260_1, hx260_2, hx260_3, hx260_4⟩ := at_T63 HR1.out qA p260 q260
         cases e260
         replace p260 := eq_true p260
         replace q260 := eq_true q260
         go_wp2
         repeat (go_quiet (fail); try go_wp2)
         go_ret
         exact ⟨zT, by repeat (first | exact Drawn0.refl _ | apply Drawn0.step)⟩
        ·rw [if_neg c8] at H
         have c8b0 : (!(((rd_T63 l0 qA).f0) == ((rd_T63 l1 qA).f0)) || (!(((rd_T63 l0 qA).f1) == ((rd_T63 l1 qA).f1)) || (!(((rd_T63 l0 qA).f2) == ((rd_T63 l1 qA).f2)) || (!(((rd_T63 l0 qA).f3) == ((rd_T63 l1 qA).f3)) || (!(((rd_T63 l0 qA).f4) == ((rd_T63 l1 qA).f4))))))) = false := by simpa using c8
         clear c8
         have H' := aM H
         clear H
         have p259 : 0 ≤ (qA : Int) := of_decide_eq_true za
         have q259 : qA < (l0.length : Int) := of_decide_eq_true za
         obtain ⟨ad259, e259, hx259_0, hx259_1, hx259_2, hx259_3, hx259_4⟩ := at_T63 HR0.out qA p259 q259
         cases e259
         replace p259 := eq_true p259
         replace q259 := eq_true q259
         have p260 : 0 ≤ (qA : Int) := of_decide_eq_true za
         have q260 : qA < (l1.length : Int) := of_decide_eq_true za
         obtain ⟨ad260, e260, hx260_0, hx260_1, hx260_2, hx260_3, hx260_4⟩ := at_T63 HR1.out qA p260 q260
         cases e260
         replace p260 := eq_true p260
         replace q260 := eq_true q260
         go_wp2
         repeat (go_quiet (fail); try go_wp2)
         go_roundg k1
         case measure => have := HK1.out; omega
         case rel => exact ⟨(wrap64 (qA + 1)), zT, H', ⟨by have := HK1.out; omega⟩, by repeat (first | exact Drawn0.refl _ | apply Drawn0.step)⟩
       ·rw [if_neg c7] at H
        exact absurd H (by simp)
      ·rw [if_neg c6] at H
       exact absurd H (by simp)
     ·rw [if_neg c5] at H
      exact absurd H (by simp)
    ·rw [if_neg c4] at H
     have c4b0 := decide_eq_false c4
     clear c4
     obtain rfl := Option.some.inj H
     go_wp2
     repeat (go_quiet (fail); try go_wp2)
     go_ret
     exact ⟨zT, by repeat (first | exact Drawn0.refl _ | apply Drawn0.step)⟩
 ·rw [if_neg c3] at H
  have c3b0 : ((l0.length : Int) == (l1.length : Int)) = false := beq_eq_false_iff_ne.mpr c3
  have c3b1 : ((l0.length : Int) != (l1.length : Int)) = true := bne_iff_ne.mpr c3
  have c3b2 : (l0.length == l1.length) = false := by first | simpa using c3 | (simp at c3 ⊢; omega)
  obtain rfl := Option.some.inj H
  go_enter Try.func49, Try.ntmps49
  go_wp2
  repeat (go_quiet (fail); try go_wp2)
  go_ret
  exact ⟨zT, by repeat (first | exact Drawn0.refl _ | apply Drawn0.step)⟩

end Go.Proofs.Ytccbdcbeinkjgaa.XA
end

section
namespace Go.Proofs.Ytccbdcbeinkjgaa.XA
open Go.Proofs.Ytccbdcbeinkjgaa.Lift Go.RowKit Go.Proofs.YtccbdcbeinkjgaaW.PrintWords Go.Proofs.YtccbdcbeinkjgaaW.PrintLast Go.Proofs.YtccbdcbeinkjgaaW.PrintMore
attribute [local go_sem] max2_int min2_int max_two min_two max_three min_three max_four min_four
set_option linter.unusedVariables false
set_option linter.unusedSimpArgs false

/-! ### slices_Equal_int_int: function 50 -/
def slices_Equal_int_int.l0 : Nat → List Int → List Int → Int → Int → Option (Bool)
 | 0, _, _, _, _ => none
 | k + 1, x0, x1, x12, x13 => if x13 < x12 then (if 0 ≤ x13 then (if x13 < (x0.length : Int) then (if x13 < (x1.length : Int) then (if (rd x0 x13) = (rd x1 x13) then (slices_Equal_int_int.l0 k x0 x1 x12 (wrap64 (x13 + 1))) else (some false)) else (none)) else (none)) else (none)) else (some true)
def slices_Equal_int_int.f (k : Nat) (l0 : List Int) (l1 : List Int) : Option (Bool) := if (l0.length : Int) = (l1.length : Int) then (slices_Equal_int_int.l0 k l0 l1 (l0.length : Int) 0) else (some false)
theorem slices_Equal_int_int.mono_l : ∀ k, (∀ y0 y1 y2 y3, LeO (slices_Equal_int_int.l0 k y0 y1 y2 y3) (slices_Equal_int_int.l0 (k + 1) y0 y1 y2 y3))
 | 0 => fun _ _ _ _ r h => by simp [slices_Equal_int_int.l0] at h
 | k + 1 => by
  have ih0 := slices_Equal_int_int.mono_l k
  ·intro y0 y1 y2 y3
   unfold slices_Equal_int_int.l0
   exact zM
theorem slices_Equal_int_int.mono : ∀ a0 a1 k, LeO (slices_Equal_int_int.f k a0 a1) (slices_Equal_int_int.f (k + 1) a0 a1) := by
 intro a0 a1 k
 have ih0 := slices_Equal_int_int.mono_l k
 unfold slices_Equal_int_int.f
 exact zM
set_option maxHeartbeats 8000000 in
set_option maxRecDepth 100000 in
theorem slices_Equal_int_int.calls (k : Nat) (A0 : Option Addr) (c0 : Nat) (l0 : List Int) (A1 : Option Addr) (c1 : Nat) (l1 : List Int) (r : Bool) (w : World) (hr0 : Kd.C (Kd.int .i64) w A0 l0.length l0) (hc0 : l0.length ≤ c0) (hr1 : Kd.C (Kd.int .i64) w A1 l1.length l1) (hc1 : l1.length ≤ c1) (h : slices_Equal_int_int.f k l0 l1 = some r) :
  Calls Try.prog 50 #[.slice A0 l0.length c0, .slice A1 l1.length c1] w fun e w' => e = .returned (.bool r) ∧ Drawn0 w w' := by
 have HR0 := aM hr0
 have HC0 := aM hc0
 clear hr0 hc0
 have HR1 := aM hr1
 have HC1 := aM hc1
 clear hr1 hc1
 have H : (if (l0.length : Int) = (l1.length : Int) then (slices_Equal_int_int.l0 k l0 l1 (l0.length : Int) 0) else (some false)) = some r := h
 clear h
 by_cases c3 : (l0.length : Int) = (l1.length : Int)
 ·rw [if_pos c3] at H
  have c3b0 : ((l0.length : Int) == (l1.length : Int)) = true := beq_iff_eq.mpr c3
  have c3b1 : ((l0.length : Int) != (l1.length : Int)) = false := bne_eq_false_iff_eq.mpr c3
  have c3b2 : (l0.length == l1.length) = true := by first | simpa using c3 | (simp at c3 ⊢; omega)
  clear c3
  have H' := aM H
  clear H
  go_enter Try.func50, Try.ntmps50
  go_wp2
  repeat (go_quiet (fail); try go_wp2)
  go_loopg [13] k (fun kq v13 w' => ∃ (qA : Int), v13 = .int .i64 qA ∧ Aside0 (slices_Equal_int_int.l0 kq l0 l1 (l0.length : Int) qA = some r) ∧ Aside0 (kq ≤ k) ∧ Drawn0 w w')
  case atStart => exact ⟨(0), zT, H', ⟨Nat.le_refl _⟩, by repeat (first | exact Drawn0.refl _ | apply Drawn0.step)⟩
  case round =>
   clear H'
   try clear c1
   try clear c3
   obtain ⟨qA, rfl, HA, HK1, ⟨m1, rfl⟩⟩ := hrel
   cases gk with
   | zero => exact absurd HA.out (by simp [slices_Equal_int_int.l0])
   | succ k1 =>
    have H := HA.out
    clear HA
    simp only [slices_Equal_int_int.l0] at H
    by_cases c4 : qA < (l0.length : Int)
    ·rw [if_pos c4] at H
     have c4b0 := decide_eq_true c4
     clear c4
     by_cases c5 : 0 ≤ qA
     ·rw [if_pos c5] at H
      have c5b0 := decide_eq_true c5
      clear c5
      by_cases c6 : qA < (l0.length : Int)
      ·rw [if_pos c6] at H
       have c6b0 := decide_eq_true c6
       clear c6
       by_cases c7 : qA < (l1.length : Int)
       ·rw [if_pos c7] at H
        have c7b0 := decide_eq_true c7
        clear c7
        by_cases c8 : (rd l0 qA) = (rd l1 qA)
        ·rw [if_pos c8] at H
         have c8b0 : ((rd l0 qA) == (rd l1 qA)) = true := beq_iff_eq.mpr c8
         have c8b1 : ((rd l0 qA) != (rd l1 qA)) = false := bne_eq_false_iff_eq.mpr c8
         clear c8
         have H' := aM H
         clear H
         have p261 : 0 ≤ (qA : Int) := of_decide_eq_true za
         have q261 : qA < (l0.length : Int) := of_decide_eq_true za
         obtain ⟨ad261, e261, hx261_0⟩ := Kd.at_int HR0.out qA p261 q261
         cases e261
         replace p261 := eq_true p261
         replace q261 := eq_true q261
         have p262 : 0 ≤ (qA : Int) := of_decide_eq_true za
         have q262 : qA < (l1.length : Int) := of_decide_eq_true za
         obtain ⟨ad262, e262, hx262_0⟩ := Kd.at_int HR1.out qA p262 q262
         cases e262
         replace p262 := eq_true p262
         replace q262 := eq_true q262
         go_wp2
         repeat (go_quiet (fail); try go_wp2)
         go_roundg k1
         case measure => have := HK1.out; omega
         case rel => exact ⟨(wrap64 (qA + 1)), zT, H', ⟨by have := HK1.out; omega⟩, by repeat (first | exact Drawn0.refl _ | apply Drawn0.step)⟩
        ·rw [if_neg c8] at H
         have c8b0 : ((rd l0 qA) == (rd l1 qA)) = false := beq_eq_false_iff_ne.mpr c8
         have c8b1 : ((rd l0 qA) != (rd l1 qA)) = true := bne_iff_ne.mpr c8
         obtain rfl := Option.some.inj H
         have p261 : 0 ≤ (qA : Int) := of_decide_eq_true za
         have q261 : qA < (l0.length : Int) := of_decide_eq_true za
         obtain ⟨ad261, e261, hx261_0⟩ := Kd.at_int HR0.out qA p261 q261
         cases e261
         replace p261 := eq_true p261
         replace q261 := eq_true q261
         have p262 : 0 ≤ (qA : Int) := of_decide_eq_true za
         have q262 : qA < (l1.length : Int) := of_decide_eq_true za
         obtain ⟨ad262, e262, hx262_0⟩ := Kd.at_int HR1.out qA p262 q262
         cases e262
         replace p262 := eq_true p262
         replace q262 := eq_true q262
         go_wp2
         repeat (go_quiet (fail); try go_wp2)
         go_ret
         exact ⟨zT, by repeat (first | exact Drawn0.refl _ | apply Drawn0.step)⟩
       ·rw [if_neg c7] at H
        exact absurd H (by simp)
      ·rw [if_neg c6] at H
       exact absurd H (by simp)
     ·rw [if_neg c5] at H
      exact absurd H (by simp)
    ·rw [if_neg c4] at H
     have c4b0 := decide_eq_false c4
     clear c4
     obtain rfl := Option.some.inj H
     go_wp2
     repeat (go_quiet (fail); try go_wp2)
     go_ret
     exact ⟨zT, by repeat (first | exact Drawn0.refl _ | apply Drawn0.step)⟩
 ·rw [if_neg c3] at H
  have c3b0 : ((l0.length : Int) == (l1.length : Int)) = false := beq_eq_false_iff_ne.mpr c3
  have c3b1 : ((l0.length : Int) != (l1.length : Int)) = true := bne_iff_ne.mpr c3
  have c3b2 : (l0.length == l1.length) = false := by first | simpa using c3 | (simp at c3 ⊢; omega)
  obtain rfl := Option.some.inj H
  go_enter Try.func50, Try.ntmps50
  go_wp2
  repeat (go_quiet (fail); try go_wp2)
  go_ret
  exact ⟨zT, by repeat (first | exact Drawn0.refl _ | apply Drawn0.step)⟩

end Go.Proofs.Ytccbdcbeinkjgaa.XA
end

section
namespace Go.Proofs.Ytccbdcbeinkjgaa.XA
open Go.Proofs.Ytccbdcbeinkjgaa.Lift Go.RowKit Go.Proofs.YtccbdcbeinkjgaaW.PrintWords Go.Proofs.YtccbdcbeinkjgaaW.PrintLast Go.Proofs.YtccbdcbeinkjgaaW.PrintMore
attribute [local go_sem] max2_int min2_int max_two min_two max_three min_three max_four min_four
set_option linter.unusedVariables false
set_option linter.unusedSimpArgs false

/-! ### prog_Same: function 31 -/
def prog_Same.f (k : Nat) (qH : Int) (qI : Int) (qJ : List (S63)) (qF : List Int) (qK : Int) (qL : Int) (qM : List (S63)) (qG : List Int) : Option (Bool) := if qH = qK then (if qI = qL then ((api_Instr.f k qJ qM).bind fun qP => (if qP = true then ((slices_Equal_int_int.f k qF qG).bind fun qO => (some qO)) else (some false))) else (some false)) else (some false)
theorem prog_Same.mono : ∀ a0 a1 a2 a3 a4 a5 a6 a7 k, LeO (prog_Same.f k a0 a1 a2 a3 a4 a5 a6 a7) (prog_Same.f (k + 1) a0 a1 a2 a3 a4 a5 a6 a7) := by
 intro a0 a1 a2 a3 a4 a5 a6 a7 k
 unfold prog_Same.f
 have im0 := @api_Instr.mono; have im1 := @slices_Equal_int_int.mono; exact zM
set_option maxHeartbeats 8000000 in
set_option maxRecDepth 100000 in
theorem prog_Same.calls (k : Nat) (qH : Int) (qI : Int) (qQ : Option Addr) (qR : Nat) (qJ : List (S63)) (qS : Option Addr) (qT : Nat) (qF : List Int) (qK : Int) (qL : Int) (qU : Option Addr) (qV : Nat) (qM : List (S63)) (qW : Option Addr) (qX : Nat) (qG : List Int) (r : Bool) (w : World) (qc : Kd.C k63 w qQ qJ.length qJ) (qd : qJ.length ≤ qR) (qe : Kd.C (Kd.int .i64) w qS qF.length qF) (qf : qF.length ≤ qT) (qg : Kd.C k63 w qU qM.length qM) (qh : qM.length ≤ qV) (qi : Kd.C (Kd.int .i64) w qW qG.length qG) (qj : qG.length ≤ qX) (h : prog_Same.f k qH qI qJ qF qK qL qM qG = some r) :
  Calls Try.prog 31 #[.agg #[.int .i64 qH, .int .i64 qI, .slice qQ qJ.length qR, .slice qS qF.length qT], .agg #[.int .i64 qK, .int .i64 qL, .slice qU qM.length qV, .slice qW qG.length qX]] w fun e w' => e = .returned (.bool r) ∧ Below w.heap.size w w' := by
 have hu26 := Try.underlying26
 have qk := aM qc
 have ql := aM qd
 clear qc qd
 have qo := aM qe
 have qp := aM qf
 clear qe qf
 have qm := aM qg
 have qn := aM qh
 clear qg qh
 have qq := aM qi
 have qr := aM qj
 clear qi qj
 have HB := aM (Below.refl w.heap.size w)
 have H : (if qH = qK then (if qI = qL then ((api_Instr.f k qJ qM).bind fun qP => (if qP = true then ((slices_Equal_int_int.f k qF qG).bind fun qO => (some qO)) else (some false))) else (some false)) else (some false)) = some r := h
 clear h
 by_cases c3 : qH = qK
 ·rw [if_pos c3] at H
  have c3b0 : (qH == qK) = true := beq_iff_eq.mpr c3
  have c3b1 : (qH != qK) = false := bne_eq_false_iff_eq.mpr c3
  clear c3
  by_cases c4 : qI = qL
  ·rw [if_pos c4] at H
   have c4b0 : (qI == qL) = true := beq_iff_eq.mpr c4
   have c4b1 : (qI != qL) = false := bne_eq_false_iff_eq.mpr c4
   clear c4
   replace H := Option.bind_eq_some_iff.mp H
   obtain ⟨qP, A50, H⟩ := H
   replace H : (if qP = true then ((slices_Equal_int_int.f k qF qG).bind fun qO => (some qO)) else (some false)) = some r := H
   have A5 := aM A50
   clear A50
   by_cases c6 : qP = true
   ·subst c6
    have H1 : ((slices_Equal_int_int.f k qF qG).bind fun qO => (some qO)) = some r := by rw [if_pos rfl] at H; exact H
    clear H
    have H := H1
    clear H1
    replace H := Option.bind_eq_some_iff.mp H
    obtain ⟨qO, A70, H⟩ := H
    replace H : (some qO) = some r := H
    have A7 := aM A70
    clear A70
    obtain rfl := Option.some.inj H
    go_enter Try.func31, Try.ntmps31
    go_wp2_with (first | ((with_reducible refine gate_dst (N := 2) rfl ?_); refine box_event rfl (N := 2) rfl (cs := #[.int .i64 qH, .int .i64 qI, .slice qQ qJ.length qR, .slice qS qF.length qT]) (t := 26) zG ?_; intro qA hg w8 hbox hb; have qB := aM (hbox); have qY := aM ((by rw [hg]; exact (below_size (lB HB)) : w.heap.size ≤ qA)); have qZ := aM ((by rw [hg]; exact (below_size (lB HB)) : w.heap.size ≤ qA)); replace HB := aM (below_step (lB HB) hb); clear hb hbox hg) | ((with_reducible refine gate_dst (N := 3) rfl ?_); refine box_event rfl (N := 3) rfl (cs := #[.int .i64 qK, .int .i64 qL, .slice qU qM.length qV, .slice qW qG.length qX]) (t := 26) zG ?_; intro qC hg w9 hbox hb; have qN := aM (hbox); have qa := aM ((by rw [hg]; exact (below_size (zB HB)) : w.heap.size ≤ qC)); have qb := aM ((by rw [hg]; exact (below_size (zB HB)) : w.heap.size ≤ qC)); replace HB := aM (below_step (zB HB) hb); have qD := aM ((by rw [hg]; exact Nat.ne_of_lt (blk_lt (g := qA) (lK qB)) : qA ≠ qC)); have qE := aM ((by rw [hg]; exact Nat.ne_of_gt (blk_lt (g := qA) (lK qB)) : qC ≠ qA)); replace qB := aM (blk_below (g := qA) (lK qB) hb); clear hb hbox hg; have q8 := qD.out; have q9 := qE.out; have qs := zc4 qB.out; have qt := fun i_ : Nat => blk_frozen qB.out i_; have qu := zc4 qN.out; have qv := fun i_ : Nat => blk_frozen qN.out i_) | (go_at_call 49; (with_reducible refine (api_Instr.calls k _ _ qJ _ _ qM true _ ?side1 ?side2 ?side3 ?side4 A5.out).mono ?_); (case side1 => refine lY ?_; exact (Kd.C_below qk.out HB.out)); (case side2 => exact ql.out); (case side3 => refine lY ?_; exact (Kd.C_below qm.out HB.out)); (case side4 => exact qn.out); rintro e w' ⟨rfl, ⟨nd, rfl⟩⟩) | (go_at_call 50; (with_reducible refine (slices_Equal_int_int.calls k _ _ qF _ _ qG qO _ ?side1 ?side2 ?side3 ?side4 A7.out).mono ?_); (case side1 => refine lY ?_; exact (Kd.C_below qo.out (zB HB))); (case side2 => exact qp.out); (case side3 => refine lY ?_; exact (Kd.C_below qq.out (zB HB))); (case side4 => exact qr.out); rintro e w' ⟨rfl, ⟨nd, rfl⟩⟩))
    go_ret
    exact ⟨zE, zB HB⟩
   ·replace c6 := Bool.eq_false_iff.mpr c6
    subst c6
    have H1 : (some false) = some r := by rw [if_neg (show ¬ (false = true) by decide)] at H; exact H
    clear H
    have H := H1
    clear H1
    obtain rfl := Option.some.inj H
    go_enter Try.func31, Try.ntmps31
    go_wp2_with (first | ((with_reducible refine gate_dst (N := 2) rfl ?_); refine box_event rfl (N := 2) rfl (cs := #[.int .i64 qH, .int .i64 qI, .slice qQ qJ.length qR, .slice qS qF.length qT]) (t := 26) zG ?_; intro qA hg w13 hbox hb; have qB := aM (hbox); have qY := aM ((by rw [hg]; exact (below_size (lB HB)) : w.heap.size ≤ qA)); have qZ := aM ((by rw [hg]; exact (below_size (lB HB)) : w.heap.size ≤ qA)); replace HB := aM (below_step (lB HB) hb); clear hb hbox hg) | ((with_reducible refine gate_dst (N := 3) rfl ?_); refine box_event rfl (N := 3) rfl (cs := #[.int .i64 qK, .int .i64 qL, .slice qU qM.length qV, .slice qW qG.length qX]) (t := 26) zG ?_; intro qC hg w14 hbox hb; have qN := aM (hbox); have qa := aM ((by rw [hg]; exact (below_size (zB HB)) : w.heap.size ≤ qC)); have qb := aM ((by rw [hg]; exact (below_size (zB HB)) : w.heap.size ≤ qC)); replace HB := aM (below_step (zB HB) hb); have qD := aM ((by rw [hg]; exact Nat.ne_of_lt (blk_lt (g := qA) (lK qB)) : qA ≠ qC)); have qE := aM ((by rw [hg]; exact Nat.ne_of_gt (blk_lt (g := qA) (lK qB)) : qC ≠ qA)); replace qB := aM (blk_below (g := qA) (lK qB) hb); clear hb hbox hg; have jA := qD.out; have jB := qE.out; have qw := zc4 qB.out; have qx := fun i_ : Nat => blk_frozen qB.out i_; have qy := zc4 qN.out; have qz := fun i_ : Nat => blk_frozen qN.out i_) | (go_at_call 49; (with_reducible refine (api_Instr.calls k _ _ qJ _ _ qM false _ ?side1 ?side2 ?side3 ?side4 A5.out).mono ?_); (case side1 => refine lY ?_; exact (Kd.C_below qk.out HB.out)); (case side2 => exact ql.out); (case side3 => refine lY ?_; exact (Kd.C_below qm.out HB.out)); (case side4 => exact qn.out); rintro e w' ⟨rfl, ⟨nd, rfl⟩⟩))
    go_ret
    exact ⟨zE, zB HB⟩
  ·rw [if_neg c4] at H
   have c4b0 : (qI == qL) = false := beq_eq_false_iff_ne.mpr c4
   have c4b1 : (qI != qL) = true := bne_iff_ne.mpr c4
   obtain rfl := Option.some.inj H
   go_enter Try.func31, Try.ntmps31
   go_wp2_with (first | ((with_reducible refine gate_dst (N := 2) rfl ?_); refine box_event rfl (N := 2) rfl (cs := #[.int .i64 qH, .int .i64 qI, .slice qQ qJ.length qR, .slice qS qF.length qT]) (t := 26) zG ?_; intro qA hg w18 hbox hb; have qB := aM (hbox); have qY := aM ((by rw [hg]; exact (below_size (lB HB)) : w.heap.size ≤ qA)); have qZ := aM ((by rw [hg]; exact (below_size (lB HB)) : w.heap.size ≤ qA)); replace HB := aM (below_step (lB HB) hb); clear hb hbox hg) | ((with_reducible refine gate_dst (N := 3) rfl ?_); refine box_event rfl (N := 3) rfl (cs := #[.int .i64 qK, .int .i64 qL, .slice qU qM.length qV, .slice qW qG.length qX]) (t := 26) zG ?_; intro qC hg w19 hbox hb; have qN := aM (hbox); have qa := aM ((by rw [hg]; exact (below_size (zB HB)) : w.heap.size ≤ qC)); have qb := aM ((by rw [hg]; exact (below_size (zB HB)) : w.heap.size ≤ qC)); replace HB := aM (below_step (zB HB) hb); have qD := aM ((by rw [hg]; exact Nat.ne_of_lt (blk_lt (g := qA) (lK qB)) : qA ≠ qC)); have qE := aM ((by rw [hg]; exact Nat.ne_of_gt (blk_lt (g := qA) (lK qB)) : qC ≠ qA)); replace qB := aM (blk_below (g := qA) (lK qB) hb); clear hb hbox hg; have jC := qD.out; have jD := qE.out; have q0 := zc4 qB.out; have q1 := fun i_ : Nat => blk_frozen qB.out i_; have q2 := zc4 qN.out; have q3 := fun i_ : Nat => blk_frozen qN.out i_))
   go_ret
   exact ⟨zE, zB HB⟩
 ·rw [if_neg c3] at H
  have c3b0 : (qH == qK) = false := beq_eq_false_iff_ne.mpr c3
  have c3b1 : (qH != qK) = true := bne_iff_ne.mpr c3
  obtain rfl := Option.some.inj H
  go_enter Try.func31, Try.ntmps31
  go_wp2_with (first | ((with_reducible refine gate_dst (N := 2) rfl ?_); refine box_event rfl (N := 2) rfl (cs := #[.int .i64 qH, .int .i64 qI, .slice qQ qJ.length qR, .slice qS qF.length qT]) (t := 26) zG ?_; intro qA hg w23 hbox hb; have qB := aM (hbox); have qY := aM ((by rw [hg]; exact (below_size (lB HB)) : w.heap.size ≤ qA)); have qZ := aM ((by rw [hg]; exact (below_size (lB HB)) : w.heap.size ≤ qA)); replace HB := aM (below_step (lB HB) hb); clear hb hbox hg) | ((with_reducible refine gate_dst (N := 3) rfl ?_); refine box_event rfl (N := 3) rfl (cs := #[.int .i64 qK, .int .i64 qL, .slice qU qM.length qV, .slice qW qG.length qX]) (t := 26) zG ?_; intro qC hg w24 hbox hb; have qN := aM (hbox); have qa := aM ((by rw [hg]; exact (below_size (zB HB)) : w.heap.size ≤ qC)); have qb := aM ((by rw [hg]; exact (below_size (zB HB)) : w.heap.size ≤ qC)); replace HB := aM (below_step (zB HB) hb); have qD := aM ((by rw [hg]; exact Nat.ne_of_lt (blk_lt (g := qA) (lK qB)) : qA ≠ qC)); have qE := aM ((by rw [hg]; exact Nat.ne_of_gt (blk_lt (g := qA) (lK qB)) : qC ≠ qA)); replace qB := aM (blk_below (g := qA) (lK qB) hb); clear hb hbox hg; have jE := qD.out; have jF := qE.out; have q4 := zc4 qB.out; have q5 := fun i_ : Nat => blk_frozen qB.out i_; have q6 := zc4 qN.out; have q7 := fun i_ : Nat => blk_frozen qN.out i_))
  go_ret
  exact ⟨zE, zB HB⟩

end Go.Proofs.Ytccbdcbeinkjgaa.XA
end

section
namespace Go.Proofs.Ytccbdcbeinkjgaa.XA
open Go.Proofs.Ytccbdcbeinkjgaa.Lift Go.RowKit Go.Proofs.YtccbdcbeinkjgaaW.PrintWords Go.Proofs.YtccbdcbeinkjgaaW.PrintLast Go.Proofs.YtccbdcbeinkjgaaW.PrintMore
attribute [local go_sem] max2_int min2_int max_two min_two max_three min_three max_four min_four
set_option linter.unusedVariables false
set_option linter.unusedSimpArgs false

/-! ### code_Same: function 14 -/
def code_Same.f (k : Nat) (qd : Int) (qe : Int) (qW : List (S48)) (qf : Int) (qg : Int) (qS : List (S63)) (qT : List Int) (qZ : Int) (qa : Int) (qQ : List (S63)) (qK : List Int) (qM : Int) (qN : Int) (qE : List (S63)) (qF : List Int) (qh : Int) (qi : Int) (qX : List (S48)) (qj : Int) (qk : Int) (qU : List (S63)) (qV : List Int) (qb : Int) (qc : Int) (qR : List (S63)) (qL : List Int) (qO : Int) (qP : Int) (qG : List (S63)) (qH : List Int) : Option (Bool) := if qd = qh then (if qe = qi then ((api_Point_30.f k qW qX).bind fun jK => (if jK = true then ((prog_Same.f k qf qg qS qT qj qk qU qV).bind fun qy => (if qy = true then ((prog_Same.f k qZ qa qQ qK qb qc qR qL).bind fun ql => (if ql = true then ((prog_Same.f k qM qN qE qF qO qP qG qH).bind fun qY => (some qY)) else (some false))) else (some false))) else (some false))) else (some false)) else (some false)
theorem code_Same.mono : ∀ a0 a1 a2 a3 a4 a5 a6 a7 a8 a9 a10 a11 a12 a13 a14 a15 a16 a17 a18 a19 a20 a21 a22 a23 a24 a25 a26 a27 a28 a29 k, LeO (code_Same.f k a0 a1 a2 a3 a4 a5 a6 a7 a8 a9 a10 a11 a12 a13 a14 a15 a16 a17 a18 a19 a20 a21 a22 a23 a24 a25 a26 a27 a28 a29) (code_Same.f (k + 1) a0 a1 a2 a3 a4 a5 a6 a7 a8 a9 a10 a11 a12 a13 a14 a15 a16 a17 a18 a19 a20 a21 a22 a23 a24 a25 a26 a27 a28 a29) := by
 intro a0 a1 a2 a3 a4 a5 a6 a7 a8 a9 a10 a11 a12 a13 a14 a15 a16 a17 a18 a19 a20 a21 a22 a23 a24 a25 a26 a27 a28 a29 k
 unfold code_Same.f
 have im0 := @api_Point_30.mono; have im1 := @prog_Same.mono; exact zM
set_option maxHeartbeats 8000000 in
set_option maxRecDepth 100000 in
theorem code_Same.calls (k : Nat) (qd : Int) (qe : Int) (qz : Option Addr) (q0 : Nat) (qW : List (S48)) (qf : Int) (qg : Int) (q1 : Option Addr) (q2 : Nat) (qS : List (S63)) (q3 : Option Addr) (q4 : Nat) (qT : List Int) (qZ : Int) (qa : Int) (q5 : Option Addr) (q6 : Nat) (qQ : List (S63)) (qm : Option Addr) (qn : Nat) (qK : List Int) (qM : Int) (qN : Int) (qo : Option Addr) (qp : Nat) (qE : List (S63)) (qq : Option Addr) (qr : Nat) (qF : List Int) (qh : Int) (qi : Int) (q7 : Option Addr) (q8 : Nat) (qX : List (S48)) (qj : Int) (qk : Int) (q9 : Option Addr) (jA : Nat) (qU : List (S63)) (jB : Option Addr) (jC : Nat) (qV : List Int) (qb : Int) (qc : Int) (jD : Option Addr) (jE : Nat) (qR : List (S63)) (qs : Option Addr) (qt : Nat) (qL : List Int) (qO : Int) (qP : Int) (qu : Option Addr) (qv : Nat) (qG : List (S63)) (qw : Option Addr) (qx : Nat) (qH : List Int) (r : Bool) (w : World) (jo : Kd.C k48 w qz qW.length qW) (jp : qW.length ≤ q0) (jq : Kd.C k63 w q1 qS.length qS) (jr : qS.length ≤ q2) (js : Kd.C (Kd.int .i64) w q3 qT.length qT) (jt : qT.length ≤ q4) (ju : Kd.C k63 w q5 qQ.length qQ) (jv : qQ.length ≤ q6) (jY : Kd.C (Kd.int .i64) w qm qK.length qK) (jZ : qK.length ≤ qn) (ja : Kd.C k63 w qo qE.length qE) (jb : qE.length ≤ qp) (jc : Kd.C (Kd.int .i64) w qq qF.length qF) (jd : qF.length ≤ qr) (jw : Kd.C k48 w q7 qX.length qX) (jx : qX.length ≤ q8) (jy : Kd.C k63 w q9 qU.length qU) (jz : qU.length ≤ jA) (j0 : Kd.C (Kd.int .i64) w jB qV.length qV) (j1 : qV.length ≤ jC) (j2 : Kd.C k63 w jD qR.length qR) (j3 : qR.length ≤ jE) (je : Kd.C (Kd.int .i64) w qs qL.length qL) (jf : qL.length ≤ qt) (jg : Kd.C k63 w qu qG.length qG) (jh : qG.length ≤ qv) (ji : Kd.C (Kd.int .i64) w qw qH.length qH) (jj : qH.length ≤ qx) (h : code_Same.f k qd qe qW qf qg qS qT qZ qa qQ qK qM qN qE qF qh qi qX qj qk qU qV qb qc qR qL qO qP qG qH = some r) :
  Calls Try.prog 14 #[.agg #[.int .i64 qd, .int .i64 qe, .slice qz qW.length q0, .int .i64 qf, .int .i64 qg, .slice q1 qS.length q2, .slice q3 qT.length q4, .int .i64 qZ, .int .i64 qa, .slice q5 qQ.length q6, .slice qm qK.length qn, .int .i64 qM, .int .i64 qN, .slice qo qE.length qp, .slice qq qF.length qr], .agg #[.int .i64 qh, .int .i64 qi, .slice q7 qX.length q8, .int .i64 qj, .int .i64 qk, .slice q9 qU.length jA, .slice jB qV.length jC, .int .i64 qb, .int .i64 qc, .slice jD qR.length jE, .slice qs qL.length qt, .int .i64 qO, .int .i64 qP, .slice qu qG.length qv, .slice qw qH.length qx]] w fun e w' => e = .returned (.bool r) ∧ Below w.heap.size w w' := by
 have hu28 := Try.underlying28
 have hu26 := Try.underlying26
 have jL := aM jo
 have jM := aM jp
 clear jo jp
 have jQ := aM jq
 have jR := aM jr
 clear jq jr
 have jS := aM js
 have jT := aM jt
 clear js jt
 have j4 := aM ju
 have j5 := aM jv
 clear ju jv
 have jk := aM jY
 have jl := aM jZ
 clear jY jZ
 have j9 := aM ja
 have yA := aM jb
 clear ja jb
 have yB := aM jc
 have yC := aM jd
 clear jc jd
 have jN := aM jw
 have jO := aM jx
 clear jw jx
 have jU := aM jy
 have jV := aM jz
 clear jy jz
 have jW := aM j0
 have jX := aM j1
 clear j0 j1
 have j6 := aM j2
 have j7 := aM j3
 clear j2 j3
 have jm := aM je
 have jn := aM jf
 clear je jf
 have yD := aM jg
 have yE := aM jh
 clear jg jh
 have yF := aM ji
 have yG := aM jj
 clear ji jj
 have HB := aM (Below.refl w.heap.size w)
 have H : (if qd = qh then (if qe = qi then ((api_Point_30.f k qW qX).bind fun jK => (if jK = true then ((prog_Same.f k qf qg qS qT qj qk qU qV).bind fun qy => (if qy = true then ((prog_Same.f k qZ qa qQ qK qb qc qR qL).bind fun ql => (if ql = true then ((prog_Same.f k qM qN qE qF qO qP qG qH).bind fun qY => (some qY)) else (some false))) else (some false))) else (some false))) else (some false)) else (some false)) = some r := h
 clear h
 by_cases c3 : qd = qh
 ·rw [if_pos c3] at H
  have c3b0 : (qd == qh) = true := beq_iff_eq.mpr c3
  have c3b1 : (qd != qh) = false := bne_eq_false_iff_eq.mpr c3
  clear c3
  by_cases c4 : qe = qi
  ·rw [if_pos c4] at H
   have c4b0 : (qe == qi) = true := beq_iff_eq.mpr c4
   have c4b1 : (qe != qi) = false := bne_eq_false_iff_eq.mpr c4
   clear c4
   replace H := Option.bind_eq_some_iff.mp H
   obtain ⟨jK, A50, H⟩ := H
   replace H : (if jK = true then ((prog_Same.f k qf qg qS qT qj qk qU qV).bind fun qy => (if qy = true then ((prog_Same.f k qZ qa qQ qK qb qc qR qL).bind fun ql => (if ql = true then ((prog_Same.f k qM qN qE qF qO qP qG qH).bind fun qY => (some qY)) else (some false))) else (some false))) else (some false)) = some r := H
   have A5 := aM A50
   clear A50
   by_cases c6 : jK = true
   ·subst c6
    have H1 : ((prog_Same.f k qf qg qS qT qj qk qU qV).bind fun qy => (if qy = true then ((prog_Same.f k qZ qa qQ qK qb qc qR qL).bind fun ql => (if ql = true then ((prog_Same.f k qM qN qE qF qO qP qG qH).bind fun qY => (some qY)) else (some false))) else (some false))) = some r := by rw [if_pos rfl] at H; exact H
    clear H
    have H := H1
    clear H1
    replace H := Option.bind_eq_some_iff.mp H
    obtain ⟨qy, A70, H⟩ := H
    replace H : (if qy = true then ((prog_Same.f k qZ qa qQ qK qb qc qR qL).bind fun ql => (if ql = true then ((prog_Same.f k qM qN qE qF qO qP qG qH).bind fun qY => (some qY)) else (some false))) else (some false)) = some r := H
    have A7 := aM A70
    clear A70
    by_cases c8 : qy = true
    ·subst c8
     have H1 : ((prog_Same.f k qZ qa qQ qK qb qc qR qL).bind fun ql => (if ql = true then ((prog_Same.f k qM qN qE qF qO qP qG qH).bind fun qY => (some qY)) else (some false))) = some r := by rw [if_pos rfl] at H; exact H
     clear H
     have H := H1
     clear H1
     replace H := Option.bind_eq_some_iff.mp H
     obtain ⟨ql, A90, H⟩ := H
     replace H : (if ql = true then ((prog_Same.f k qM qN qE qF qO qP qG qH).bind fun qY => (some qY)) else (some false)) = some r := H
     have A9 := aM A90
     clear A90
     by_cases c10 : ql = true
     ·subst c10
      have H1 : ((prog_Same.f k qM qN qE qF qO qP qG qH).bind fun qY => (some qY)) = some r := by rw [if_pos rfl] at H; exact H
      clear H
      have H := H1
      clear H1
      replace H := Option.bind_eq_some_iff.mp H
      obtain ⟨qY, A110, H⟩ := H
      replace H : (some qY) = some r := H
      have A11 := aM A110
      clear A110
      obtain rfl := Option.some.inj H
      go_enter Try.func14, Try.ntmps14
      go_wp2_with (first | ((with_reducible refine gate_dst (N := 2) rfl ?_); refine box_event rfl (N := 2) rfl (cs := #[.int .i64 qd, .int .i64 qe, .slice qz qW.length q0, .int .i64 qf, .int .i64 qg, .slice q1 qS.length q2, .slice q3 qT.length q4, .int .i64 qZ, .int .i64 qa, .slice q5 qQ.length q6, .slice qm qK.length qn, .int .i64 qM, .int .i64 qN, .slice qo qE.length qp, .slice qq qF.length qr]) (t := 28) zG ?_; intro qB hg w12 hbox hb; have qA := aM (hbox); have jG := aM ((by rw [hg]; exact (below_size (lB HB)) : w.heap.size ≤ qB)); have jH := aM ((by rw [hg]; exact (below_size (lB HB)) : w.heap.size ≤ qB)); replace HB := aM (below_step (lB HB) hb); clear hb hbox hg) | ((with_reducible refine gate_dst (N := 3) rfl ?_); refine box_event rfl (N := 3) rfl (cs := #[.int .i64 qh, .int .i64 qi, .slice q7 qX.length q8, .int .i64 qj, .int .i64 qk, .slice q9 qU.length jA, .slice jB qV.length jC, .int .i64 qb, .int .i64 qc, .slice jD qR.length jE, .slice qs qL.length qt, .int .i64 qO, .int .i64 qP, .slice qu qG.length qv, .slice qw qH.length qx]) (t := 28) zG ?_; intro qC hg w13 hbox hb; have qD := aM (hbox); have jI := aM ((by rw [hg]; exact (below_size (zB HB)) : w.heap.size ≤ qC)); have jJ := aM ((by rw [hg]; exact (below_size (zB HB)) : w.heap.size ≤ qC)); replace HB := aM (below_step (zB HB) hb); have qI := aM ((by rw [hg]; exact Nat.ne_of_lt (blk_lt (g := qB) (lK qA)) : qB ≠ qC)); have qJ := aM ((by rw [hg]; exact Nat.ne_of_gt (blk_lt (g := qB) (lK qA)) : qC ≠ qB)); replace qA := aM (blk_below (g := qB) (lK qA) hb); clear hb hbox hg; have yt := qI.out; have yu := qJ.out; have yH := zc15 qA.out; have yI := fun i_ : Nat => blk_frozen qA.out i_; have yJ := zc15 qD.out; have yK := fun i_ : Nat => blk_frozen qD.out i_) | (go_at_call 30; (with_reducible refine (api_Point_30.calls k _ _ qW _ _ qX true _ ?side1 ?side2 ?side3 ?side4 A5.out).mono ?_); (case side1 => refine lY ?_; exact (Kd.C_below jL.out HB.out)); (case side2 => exact jM.out); (case side3 => refine lY ?_; exact (Kd.C_below jN.out HB.out)); (case side4 => exact jO.out); rintro e w' ⟨rfl, ⟨nd, rfl⟩⟩) | (go_at_call 31; (with_reducible refine (prog_Same.calls k qf qg _ _ qS _ _ qT qj qk _ _ qU _ _ qV true _ ?side1 ?side2 ?side3 ?side4 ?side5 ?side6 ?side7 ?side8 A7.out).mono ?_); (case side1 => refine lY ?_; exact (Kd.C_below jQ.out (zB HB))); (case side2 => exact jR.out); (case side3 => refine lY ?_; exact (Kd.C_below jS.out (zB HB))); (case side4 => exact jT.out); (case side5 => refine lY ?_; exact (Kd.C_below jU.out (zB HB))); (case side6 => exact jV.out); (case side7 => refine lY ?_; exact (Kd.C_below jW.out (zB HB))); (case side8 => exact jX.out); rintro e w17 ⟨rfl, hb⟩; replace qA := aM (blk_below (g := qB) (lK qA) hb); replace qD := aM (blk_below (g := qC) (lK qD) hb); replace HB := aM (below_step (zB HB) hb); (try clear hb); have yL := zc15 qA.out; have yM := fun i_ : Nat => blk_frozen qA.out i_; have yN := zc15 qD.out; have yO := fun i_ : Nat => blk_frozen qD.out i_) | (go_at_call 31; (with_reducible refine (prog_Same.calls k qZ qa _ _ qQ _ _ qK qb qc _ _ qR _ _ qL true _ ?side1 ?side2 ?side3 ?side4 ?side5 ?side6 ?side7 ?side8 A9.out).mono ?_); (case side1 => refine lY ?_; exact (Kd.C_below j4.out HB.out)); (case side2 => exact j5.out); (case side3 => refine lY ?_; exact (Kd.C_below jk.out HB.out)); (case side4 => exact jl.out); (case side5 => refine lY ?_; exact (Kd.C_below j6.out HB.out)); (case side6 => exact j7.out); (case side7 => refine lY ?_; exact (Kd.C_below jm.out HB.out)); (case side8 => exact jn.out); rintro e w20 ⟨rfl, hb⟩; replace qA := aM (blk_below (g := qB) (lK qA) hb); replace qD := aM (blk_below (g := qC) (lK qD) hb); replace HB := aM (below_step (zB HB) hb); (try clear hb); have yP := zc15 qA.out; have yQ := fun i_ : Nat => blk_frozen qA.out i_; have yR := zc15 qD.out; have yS := fun i_ : Nat => blk_frozen qD.out i_) | (go_at_call 31; (with_reducible refine (prog_Same.calls k qM qN _ _ qE _ _ qF qO qP _ _ qG _ _ qH qY _ ?side1 ?side2 ?side3 ?side4 ?side5 ?side6 ?side7 ?side8 A11.out).mono ?_); (case side1 => refine lY ?_; exact (Kd.C_below j9.out HB.out)); (case side2 => exact yA.out); (case side3 => refine lY ?_; exact (Kd.C_below yB.out HB.out)); (case side4 => exact yC.out); (case side5 => refine lY ?_; exact (Kd.C_below yD.out HB.out)); (case side6 => exact yE.out); (case side7 => refine lY ?_; exact (Kd.C_below yF.out HB.out)); (case side8 => exact yG.out); rintro e w23 ⟨rfl, hb⟩; replace qA := aM (blk_below (g := qB) (lK qA) hb); replace qD := aM (blk_below (g := qC) (lK qD) hb); replace HB := aM (below_step (zB HB) hb); (try clear hb)))
      go_ret
      exact ⟨zE, zB HB⟩
     ·replace c10 := Bool.eq_false_iff.mpr c10
      subst c10
      have H1 : (some false) = some r := by rw [if_neg (show ¬ (false = true) by decide)] at H; exact H
      clear H
      have H := H1
      clear H1
      obtain rfl := Option.some.inj H
      go_enter Try.func14, Try.ntmps14
      go_wp2_with (first | ((with_reducible refine gate_dst (N := 2) rfl ?_); refine box_event rfl (N := 2) rfl (cs := #[.int .i64 qd, .int .i64 qe, .slice qz qW.length q0, .int .i64 qf, .int .i64 qg, .slice q1 qS.length q2, .slice q3 qT.length q4, .int .i64 qZ, .int .i64 qa, .slice q5 qQ.length q6, .slice qm qK.length qn, .int .i64 qM, .int .i64 qN, .slice qo qE.length qp, .slice qq qF.length qr]) (t := 28) zG ?_; intro qB hg w24 hbox hb; have qA := aM (hbox); have jG := aM ((by rw [hg]; exact (below_size (lB HB)) : w.heap.size ≤ qB)); have jH := aM ((by rw [hg]; exact (below_size (lB HB)) : w.heap.size ≤ qB)); replace HB := aM (below_step (lB HB) hb); clear hb hbox hg) | ((with_reducible refine gate_dst (N := 3) rfl ?_); refine box_event rfl (N := 3) rfl (cs := #[.int .i64 qh, .int .i64 qi, .slice q7 qX.length q8, .int .i64 qj, .int .i64 qk, .slice q9 qU.length jA, .slice jB qV.length jC, .int .i64 qb, .int .i64 qc, .slice jD qR.length jE, .slice qs qL.length qt, .int .i64 qO, .int .i64 qP, .slice qu qG.length qv, .slice qw qH.length qx]) (t := 28) zG ?_; intro qC hg w25 hbox hb; have qD := aM (hbox); have jI := aM ((by rw [hg]; exact (below_size (zB HB)) : w.heap.size ≤ qC)); have jJ := aM ((by rw [hg]; exact (below_size (zB HB)) : w.heap.size ≤ qC)); replace HB := aM (below_step (zB HB) hb); have qI := aM ((by rw [hg]; exact Nat.ne_of_lt (blk_lt (g := qB) (lK qA)) : qB ≠ qC)); have qJ := aM ((by rw [hg]; exact Nat.ne_of_gt (blk_lt (g := qB) (lK qA)) : qC ≠ qB)); replace qA := aM (blk_below (g := qB) (lK qA) hb); clear hb hbox hg; have yv := qI.out; have yw := qJ.out; have yT := zc15 qA.out; have yU := fun i_ : Nat => blk_frozen qA.out i_; have yV := zc15 qD.out; have yW := fun i_ : Nat => blk_frozen qD.out i_) | (go_at_call 30; (with_reducible refine (api_Point_30.calls k _ _ qW _ _ qX true _ ?side1 ?side2 ?side3 ?side4 A5.out).mono ?_); (case side1 => refine lY ?_; exact (Kd.C_below jL.out HB.out)); (case side2 => exact jM.out); (case side3 => refine lY ?_; exact (Kd.C_below jN.out HB.out)); (case side4 => exact jO.out); rintro e w' ⟨rfl, ⟨nd, rfl⟩⟩) | (go_at_call 31; (with_reducible refine (prog_Same.calls k qf qg _ _ qS _ _ qT qj qk _ _ qU _ _ qV true _ ?side1 ?side2 ?side3 ?side4 ?side5 ?side6 ?side7 ?side8 A7.out).mono ?_); (case side1 => refine lY ?_; exact (Kd.C_below jQ.out (zB HB))); (case side2 => exact jR.out); (case side3 => refine lY ?_; exact (Kd.C_below jS.out (zB HB))); (case side4 => exact jT.out); (case side5 => refine lY ?_; exact (Kd.C_below jU.out (zB HB))); (case side6 => exact jV.out); (case side7 => refine lY ?_; exact (Kd.C_below jW.out (zB HB))); (case side8 => exact jX.out); rintro e w29 ⟨rfl, hb⟩; replace qA := aM (blk_below (g := qB) (lK qA) hb); replace qD := aM (blk_below (g := qC) (lK qD) hb); replace HB := aM (below_step (zB HB) hb); (try clear hb); have yX := zc15 qA.out; have yY := fun i_ : Nat => blk_frozen qA.out i_; have yZ := zc15 qD.out; have ya := fun i_ : Nat => blk_frozen qD.out i_) | (go_at_call 31; (with_reducible refine (prog_Same.calls k qZ qa _ _ qQ _ _ qK qb qc _ _ qR _ _ qL false _ ?side1 ?side2 ?side3 ?side4 ?side5 ?side6 ?side7 ?side8 A9.out).mono ?_); (case side1 => refine lY ?_; exact (Kd.C_below j4.out HB.out)); (case side2 => exact j5.out); (case side3 => refine lY ?_; exact (Kd.C_below jk.out HB.out)); (case side4 => exact jl.out); (case side5 => refine lY ?_; exact (Kd.C_below j6.out HB.out)); (case side6 => exact j7.out); (case side7 => refine lY ?_; exact (Kd.C_below jm.out HB.out)); (case side8 => exact jn.out); rintro e w32 ⟨rfl, hb⟩; replace qA := aM (blk_below (g := qB) (lK qA) hb); replace qD := aM (blk_below (g := qC) (lK qD) hb); replace HB := aM (below_step (zB HB) hb); (try clear hb)))
      go_ret
      exact ⟨zE, zB HB⟩
    ·replace c8 := Bool.eq_false_iff.mpr c8
     subst c8
     have H1 : (some false) = some r := by rw [if_neg (show ¬ (false = true) by decide)] at H; exact H
     clear H
     have H := H1
     clear H1
     obtain rfl := Option.some.inj H
     go_enter Try.func14, Try.ntmps14
     go_wp2_with (first | ((with_reducible refine gate_dst (N := 2) rfl ?_); refine box_event rfl (N := 2) rfl (cs := #[.int .i64 qd, .int .i64 qe, .slice qz qW.length q0, .int .i64 qf, .int .i64 qg, .slice q1 qS.length q2, .slice q3 qT.length q4, .int .i64 qZ, .int .i64 qa, .slice q5 qQ.length q6, .slice qm qK.length qn, .int .i64 qM, .int .i64 qN, .slice qo qE.length qp, .slice qq qF.length qr]) (t := 28) zG ?_; intro qB hg w33 hbox hb; have qA := aM (hbox); have jG := aM ((by rw [hg]; exact (below_size (lB HB)) : w.heap.size ≤ qB)); have jH := aM ((by rw [hg]; exact (below_size (lB HB)) : w.heap.size ≤ qB)); replace HB := aM (below_step (lB HB) hb); clear hb hbox hg) | ((with_reducible refine gate_dst (N := 3) rfl ?_); refine box_event rfl (N := 3) rfl (cs := #[.int .i64 qh, .int .i64 qi, .slice q7 qX.length q8, .int .i64 qj, .int .i64 qk, .slice q9 qU.length jA, .slice jB qV.length jC, .int .i64 qb, .int .i64 qc, .slice jD qR.length jE, .slice qs qL.length qt, .int .i64 qO, .int .i64 qP, .slice qu qG.length qv, .slice qw qH.length qx]) (t := 28) zG ?_; intro qC hg w34 hbox hb; have qD := aM (hbox); have jI := aM ((by rw [hg]; exact (below_size (zB HB)) : w.heap.size ≤ qC)); have jJ := aM ((by rw [hg]; exact (below_size (zB HB)) : w.heap.size ≤ qC)); replace HB := aM (below_step (zB HB) hb); have qI := aM ((by rw [hg]; exact Nat.ne_of_lt (blk_lt (g := qB) (lK qA)) : qB ≠ qC)); have qJ := aM ((by rw [hg]; exact Nat.ne_of_gt (blk_lt (g := qB) (lK qA)) : qC ≠ qB)); replace qA := aM (blk_below (g := qB) (lK qA) hb); clear hb hbox hg; have yx := qI.out; have yy := qJ.out; have yb := zc15 qA.out; have yc := fun i_ : Nat => blk_frozen qA.out i_; have yd := zc15 qD.out; have ye := fun i_ : Nat => blk_frozen qD.out i_) | (go_at_call 30; (with_reducible refine (api_Point_30.calls k _ _ qW _ _ qX true _ ?side1 ?side2 ?side3 ?side4 A5.out).mono ?_); (case side1 => refine lY ?_; exact (Kd.C_below jL.out HB.out)); (case side2 => exact jM.out); (case side3 => refine lY ?_; exact (Kd.C_below jN.out HB.out)); (case side4 => exact jO.out); rintro e w' ⟨rfl, ⟨nd, rfl⟩⟩) | (go_at_call 31; (with_reducible refine (prog_Same.calls k qf qg _ _ qS _ _ qT qj qk _ _ qU _ _ qV false _ ?side1 ?side2 ?side3 ?side4 ?side5 ?side6 ?side7 ?side8 A7.out).mono ?_); (case side1 => refine lY ?_; exact (Kd.C_below jQ.out (zB HB))); (case side2 => exact jR.out); (case side3 => refine lY ?_; exact (Kd.C_below jS.out (zB HB))); (case side4 => exact jT.out); (case side5 => refine lY ?_; exact (Kd.C_below jU.out (zB HB))); (case side6 => exact jV.out); (case side7 => refine lY ?_; exact (Kd.C_below jW.out (zB HB))); (case side8 => exact jX.out); rintro e w38 ⟨rfl, hb⟩; replace qA := aM (blk_below (g := qB) (lK qA) hb); replace qD := aM (blk_below (g := qC) (lK qD) hb); replace HB := aM (below_step (zB HB) hb); (try clear hb)))
     go_ret
     exact ⟨zE, zB HB⟩
   ·replace c6 := Bool.eq_false_iff.mpr c6
    subst c6
    have H1 : (some false) = some r := by rw [if_neg (show ¬ (false = true) by decide)] at H; exact H
    clear H
    have H := H1
    clear H1
    obtain rfl := Option.some.inj H
    go_enter Try.func14, Try.ntmps14
    go_wp2_with (first | ((with_reducible refine gate_dst (N := 2) rfl ?_); refine box_event rfl (N := 2) rfl (cs := #[.int .i64 qd, .int .i64 qe, .slice qz qW.length q0, .int .i64 qf, .int .i64 qg, .slice q1 qS.length q2, .slice q3 qT.length q4, .int .i64 qZ, .int .i64 qa, .slice q5 qQ.length q6, .slice qm qK.length qn, .int .i64 qM, .int .i64 qN, .slice qo qE.length qp, .slice qq qF.length qr]) (t := 28) zG ?_; intro qB hg w39 hbox hb; have qA := aM (hbox); have jG := aM ((by rw [hg]; exact (below_size (lB HB)) : w.heap.size ≤ qB)); have jH := aM ((by rw [hg]; exact (below_size (lB HB)) : w.heap.size ≤ qB)); replace HB := aM (below_step (lB HB) hb); clear hb hbox hg) | ((with_reducible refine gate_dst (N := 3) rfl ?_); refine box_event rfl (N := 3) rfl (cs := #[.int .i64 qh, .int .i64 qi, .slice q7 qX.length q8, .int .i64 qj, .int .i64 qk, .slice q9 qU.length jA, .slice jB qV.length jC, .int .i64 qb, .int .i64 qc, .slice jD qR.length jE, .slice qs qL.length qt, .int .i64 qO, .int .i64 qP, .slice qu qG.length qv, .slice qw qH.length qx]) (t := 28) zG ?_; intro qC hg w40 hbox hb; have qD := aM (hbox); have jI := aM ((by rw [hg]; exact (below_size (zB HB)) : w.heap.size ≤ qC)); have jJ := aM ((by rw [hg]; exact (below_size (zB HB)) : w.heap.size ≤ qC)); replace HB := aM (below_step (zB HB) hb); have qI := aM ((by rw [hg]; exact Nat.ne_of_lt (blk_lt (g := qB) (lK qA)) : qB ≠ qC)); have qJ := aM ((by rw [hg]; exact Nat.ne_of_gt (blk_lt (g := qB) (lK qA)) : qC ≠ qB)); replace qA := aM (blk_below (g := qB) (lK qA) hb); clear hb hbox hg; have yz := qI.out; have y0 := qJ.out; have yf := zc15 qA.out; have yg := fun i_ : Nat => blk_frozen qA.out i_; have yh := zc15 qD.out; have yi := fun i_ : Nat => blk_frozen qD.out i_) | (go_at_call 30; (with_reducible refine (api_Point_30.calls k _ _ qW _ _ qX false _ ?side1 ?side2 ?side3 ?side4 A5.out).mono ?_); (case side1 => refine lY ?_; exact (Kd.C_below jL.out HB.out)); (case side2 => exact jM.out); (case side3 => refine lY ?_; exact (Kd.C_below jN.out HB.out)); (case side4 => exact jO.out); rintro e w' ⟨rfl, ⟨nd, rfl⟩⟩))
    go_ret
    exact ⟨zE, zB HB⟩
  ·rw [if_neg c4] at H
   have c4b0 : (qe == qi) = false := beq_eq_false_iff_ne.mpr c4
   have c4b1 : (qe != qi) = true := bne_iff_ne.mpr c4
   obtain rfl := Option.some.inj H
   go_enter Try.func14, Try.ntmps14
   go_wp2_with (first | ((with_reducible refine gate_dst (N := 2) rfl ?_); refine box_event rfl (N := 2) rfl (cs := #[.int .i64 qd, .int .i64 qe, .slice qz qW.length q0, .int .i64 qf, .int .i64 qg, .slice q1 qS.length q2, .slice q3 qT.length q4, .int .i64 qZ, .int .i64 qa, .slice q5 qQ.length q6, .slice qm qK.length qn, .int .i64 qM, .int .i64 qN, .slice qo qE.length qp, .slice qq qF.length qr]) (t := 28) zG ?_; intro qB hg w44 hbox hb; have qA := aM (hbox); have jG := aM ((by rw [hg]; exact (below_size (lB HB)) : w.heap.size ≤ qB)); have jH := aM ((by rw [hg]; exact (below_size (lB HB)) : w.heap.size ≤ qB)); replace HB := aM (below_step (lB HB) hb); clear hb hbox hg) | ((with_reducible refine gate_dst (N := 3) rfl ?_); refine box_event rfl (N := 3) rfl (cs := #[.int .i64 qh, .int .i64 qi, .slice q7 qX.length q8, .int .i64 qj, .int .i64 qk, .slice q9 qU.length jA, .slice jB qV.length jC, .int .i64 qb, .int .i64 qc, .slice jD qR.length jE, .slice qs qL.length qt, .int .i64 qO, .int .i64 qP, .slice qu qG.length qv, .slice qw qH.length qx]) (t := 28) zG ?_; intro qC hg w45 hbox hb; have qD := aM (hbox); have jI := aM ((by rw [hg]; exact (below_size (zB HB)) : w.heap.size ≤ qC)); have jJ := aM ((by rw [hg]; exact (below_size (zB HB)) : w.heap.size ≤ qC)); replace HB := aM (below_step (zB HB) hb); have qI := aM ((by rw [hg]; exact Nat.ne_of_lt (blk_lt (g := qB) (lK qA)) : qB ≠ qC)); have qJ := aM ((by rw [hg]; exact Nat.ne_of_gt (blk_lt (g := qB) (lK qA)) : qC ≠ qB)); replace qA := aM (blk_below (g := qB) (lK qA) hb); clear hb hbox hg; have y1 := qI.out; have y2 := qJ.out; have yj := zc15 qA.out; have yk := fun i_ : Nat => blk_frozen qA.out i_; have yl := zc15 qD.out; have ym := fun i_ : Nat => blk_frozen qD.out i_))
   go_ret
   exact ⟨zE, zB HB⟩
 ·rw [if_neg c3] at H
  have c3b0 : (qd == qh) = false := beq_eq_false_iff_ne.mpr c3
  have c3b1 : (qd != qh) = true := bne_iff_ne.mpr c3
  obtain rfl := Option.some.inj H
  go_enter Try.func14, Try.ntmps14
  go_wp2_with (first | ((with_reducible refine gate_dst (N := 2) rfl ?_); refine box_event rfl (N := 2) rfl (cs := #[.int .i64 qd, .int .i64 qe, .slice qz qW.length q0, .int .i64 qf, .int .i64 qg, .slice q1 qS.length q2, .slice q3 qT.length q4, .int .i64 qZ, .int .i64 qa, .slice q5 qQ.length q6, .slice qm qK.length qn, .int .i64 qM, .int .i64 qN, .slice qo qE.length qp, .slice qq qF.length qr]) (t := 28) zG ?_; intro qB hg w49 hbox hb; have qA := aM (hbox); have jG := aM ((by rw [hg]; exact (below_size (lB HB)) : w.heap.size ≤ qB)); have jH := aM ((by rw [hg]; exact (below_size (lB HB)) : w.heap.size ≤ qB)); replace HB := aM (below_step (lB HB) hb); clear hb hbox hg) | ((with_reducible refine gate_dst (N := 3) rfl ?_); refine box_event rfl (N := 3) rfl (cs := #[.int .i64 qh, .int .i64 qi, .slice q7 qX.length q8, .int .i64 qj, .int .i64 qk, .slice q9 qU.length jA, .slice jB qV.length jC, .int .i64 qb, .int .i64 qc, .slice jD qR.length jE, .slice qs qL.length qt, .int .i64 qO, .int .i64 qP, .slice qu qG.length qv, .slice qw qH.length qx]) (t := 28) zG ?_; intro qC hg w50 hbox hb; have qD := aM (hbox); have jI := aM ((by rw [hg]; exact (below_size (zB HB)) : w.heap.size ≤ qC)); have jJ := aM ((by rw [hg]; exact (below_size (zB HB)) : w.heap.size ≤ qC)); replace HB := aM (below_step (zB HB) hb); have qI := aM ((by rw [hg]; exact Nat.ne_of_lt (blk_lt (g := qB) (lK qA)) : qB ≠ qC)); have qJ := aM ((by rw [hg]; exact Nat.ne_of_gt (blk_lt (g := qB) (lK qA)) : qC ≠ qB)); replace qA := aM (blk_below (g := qB) (lK qA) hb); clear hb hbox hg; have y3 := qI.out; have y4 := qJ.out; have yn := zc15 qA.out; have yo := fun i_ : Nat => blk_frozen qA.out i_; have yp := zc15 qD.out; have yq := fun i_ : Nat => blk_frozen qD.out i_))
  go_ret
  exact ⟨zE, zB HB⟩

/-! ### swagelaw17_one: function 32 -/
def swagelaw17_one.f  : Option (Int × Int × (List (S63)) × List Int) := some (1, 1, ([] : List (S63)), (([0] : List Int)))
set_option maxHeartbeats 8000000 in
set_option maxRecDepth 100000 in
theorem swagelaw17_one.calls  (r1 : Int) (r2 : Int) (r3 : List (S63)) (r4 : List Int) (w : World) (h : swagelaw17_one.f  = some (r1, r2, r3, r4)) :
  Calls Try.prog 32 #[] w fun e w' => ∃ v2_ v3_ : Value, e = .returned (.agg #[.int .i64 r1, .int .i64 r2, v2_, v3_]) ∧ Kd.R k63 63 w' w.heap.size (fun _ => True) v2_ r3 ∧ Kd.R (Kd.int .i64) 3 w' w.heap.size (fun _ => True) v3_ r4 ∧ Below w.heap.size w w' := by
 have hu26 := Try.underlying26
 have HB := aM (Below.refl w.heap.size w)
 have H : (some (1, 1, ([] : List (S63)), (([0] : List Int)))) = some (r1, r2, r3, r4) := h
 clear h
 obtain ⟨y274, hy274⟩ : ∃ y_ : List Int, y_ = (([0] : List Int)) := ⟨_, rfl⟩
 replace H : (some (1, 1, ([] : List (S63)), y274)) = some (r1, r2, r3, r4) := zH hy274 H
 have Ny274 := aM hy274
 clear hy274
 simp only [Option.some.injEq, Prod.mk.injEq] at H
 obtain ⟨rfl, rfl, rfl, rfl⟩ := H
 go_enter Try.func32, Try.ntmps32
 go_wp2_with (first | ((with_reducible refine gate_dst (N := 0) rfl ?_); refine box_event rfl (N := 0) rfl (cs := #[.int .i64 0, .int .i64 0, .slice none 0 0, .slice none 0 0]) (t := 26) zG ?_; intro jP hg w1 hbox hb; have jF := aM (hbox); have y5 := aM ((by rw [hg]; exact (below_size (lB HB)) : w.heap.size ≤ jP)); have y6 := aM ((by rw [hg]; exact (below_size (lB HB)) : w.heap.size ≤ jP)); replace HB := aM (below_step (lB HB) hb); clear hb hbox hg) | ((with_reducible refine gate_dst (N := 1) rfl ?_); refine Kd.R_lit (Kd.int .i64) _ 3 ?hg (N := 1) ?hd (xs := ([0] : List Int)) (inner := [.int .i64 0]) (ok := fun _ => True) (okp := fun _ => True) ?hr ?hp (fun _ hk => hk) trivial (Below.refl _ _) (Nat.le_refl _) (by simp) ?_; (case hd => rfl); (case hg => rfl); (case hr => first | (go_simp; done) | (go_simp; rfl)); (case hp => exact (Reps.one (show Kd.M (Kd.int .i64) _ _ _ 0 [.int .i64 0] from rfl) (Reps.none _ _))); intro v275 w2 ho3 hb hg_ hnew_; clear hg_ hnew_; (first | rw [← Ny274.out] at ho3 | (simp only [Int.reduceToNat] at ho3; rw [← Ny274.out] at ho3)); have j8 := aM (Kd.R_lower ho3 (below_size (zB HB))); replace jF := aM (blk_below (g := jP) (lK jF) hb); replace HB := aM (below_step (zB HB) hb); clear hb ho3; obtain ⟨Ao4, co4, eo4⟩ := Kd.R_slice j8.out; subst eo4; have yr := zc4 jF.out; have ys := fun i_ : Nat => blk_frozen jF.out i_))
 refine bodyPost_ret (results_cell_row rfl _ _ jP 26 #[.int .i64 1, .int .i64 1, .slice none 0 0, .slice Ao4 y274.length co4] (0, 0) _ rfl (by refine lZ ?_; refine blk_put (cs := #[.int .i64 1, .int .i64 1, .slice none 0 0, .slice none 0 0]) ?_ 3 _ rfl; refine lZ ?_; refine blk_put (cs := #[.int .i64 1, .int .i64 1, .slice none 0 0, .slice none 0 0]) ?_ 2 _ rfl; refine lZ ?_; refine blk_put (cs := #[.int .i64 1, .int .i64 0, .slice none 0 0, .slice none 0 0]) ?_ 1 _ rfl; refine lZ ?_; refine blk_put (cs := #[.int .i64 0, .int .i64 0, .slice none 0 0, .slice none 0 0]) ?_ 0 _ rfl; refine lZ ?_; exact jF.out) Try.underlying26 rfl zk) rfl ?_
 exact ⟨_, _, zE, by first | exact Kd.R_nil _ _ _ _ _ | exact Kd.N_nil _ _ _ _ _ | exact Kd.V_nil _ _ _ _ _ | exact Kd.Q_nil _ _ _ _ _ | exact Kd.S_nil _ _ _ _ _, by apply rX; exact Kd.R_mono (fA (fA (fA (fA (Kd.R_types j8.out jF.out (by decide)))))) (fun _ hk => trivial), zB HB⟩

end Go.Proofs.Ytccbdcbeinkjgaa.XA
end

section
namespace Go.Proofs.Ytccbdcbeinkjgaa.XA
open Go.Proofs.Ytccbdcbeinkjgaa.Lift Go.RowKit Go.Proofs.YtccbdcbeinkjgaaW.PrintWords Go.Proofs.YtccbdcbeinkjgaaW.PrintLast Go.Proofs.YtccbdcbeinkjgaaW.PrintMore
attribute [local go_sem] max2_int min2_int max_two min_two max_three min_three max_four min_four
set_option linter.unusedVariables false
set_option linter.unusedSimpArgs false

/-! ### code_reader_constant: function 56 -/
--IMPORT Derived.Laws.EntriesVeiled
/-- May an instruction's constant be c? -/
def mayC (op c : Int) : Bool := if op = 5 ∨ op = 6 then (!(c == 0)) && (decide (-512 ≤ c) && decide (c ≤ 512)) else if op = 7 ∨ op = 8 then decide (1 ≤ c) && decide (c ≤ 64) else c == 0
/-- Two bytes as a number with a sign. -/
def both16 (h l : Int) : Int := if h ≤ 127 then h * 256 + l else h * 256 + l - 65536
def anyLow (op x : Int) : Bool := (List.range 256).any fun l => mayC op (both16 x (l : Int))
set_option maxHeartbeats 4000000 in
theorem may_any (op c : Int) (g1 : Nat) (W : World) (h1 : W.cell? ⟨g1, 0, none⟩ = some (.int .i64 op)) :
  Calls Try.prog 61 #[.int .i64 c, .pointer (some ⟨g1, 0, none⟩)] W fun e w' => e = .returned (.bool (mayC op c)) ∧ w' = W := by
 unfold mayC
 by_cases c5 : op = 5
 ·subst c5
  cases h0 : c == 0 <;> cases h2 : decide (-512 ≤ c)
  all_goals
   have h0n : (c != 0) = !(c == 0) := rfl
   rw [h0] at h0n
   go_enter Try.func61, Try.ntmps61
   go_wp2
   repeat (go_quiet (fail); try go_wp2)
   go_ret
   exact ⟨by simp [h0, h2], rfl⟩
 ·have c5b : (op == 5) = false := beq_eq_false_iff_ne.2 c5
  by_cases c6 : op = 6
  ·subst c6
   clear c5
   cases h0 : c == 0 <;> cases h2 : decide (-512 ≤ c)
   all_goals
    have h0n : (c != 0) = !(c == 0) := rfl
    rw [h0] at h0n
    go_enter Try.func61, Try.ntmps61
    go_wp2
    repeat (go_quiet (fail); try go_wp2)
    go_ret
    exact ⟨by simp [h0, h2], rfl⟩
  ·have c6b : (op == 6) = false := beq_eq_false_iff_ne.2 c6
   rw [if_neg (by omega)]
   by_cases c7 : op = 7
   ·subst c7
    clear c5 c6
    cases h2 : decide (1 ≤ c)
    all_goals
     go_enter Try.func61, Try.ntmps61
     go_wp2
     repeat (go_quiet (fail); try go_wp2)
     go_ret
     exact ⟨by simp [h2], rfl⟩
   ·have c7b : (op == 7) = false := beq_eq_false_iff_ne.2 c7
    by_cases c8 : op = 8
    ·subst c8
     clear c5 c6 c7
     cases h2 : decide (1 ≤ c)
     all_goals
      go_enter Try.func61, Try.ntmps61
      go_wp2
      repeat (go_quiet (fail); try go_wp2)
      go_ret
      exact ⟨by simp [h2], rfl⟩
    ·have c8b : (op == 8) = false := beq_eq_false_iff_ne.2 c8
     rw [if_neg (by omega)]
     clear c5 c6 c7 c8
     go_enter Try.func61, Try.ntmps61
     go_wp2
     repeat (go_quiet (fail); try go_wp2)
     go_ret
     exact ⟨rfl, rfl⟩
theorem or256 {h l : Int} (h0 : 0 ≤ h) (h1 : h ≤ 255) (l0 : 0 ≤ l) (l1 : l ≤ 255) : Go.bits .or .i64 (h * 256) l = h * 256 + l := by
 have e32 : (2 : Int) ^ 32 = 4294967296 := by decide
 have e8 : (2 : Int) ^ 8 = 256 := by decide
 refine bits_join .i64 32 (by decide) (fun n a b => ?_) 8 (h * 256) l (by omega) (by rw [e8]; omega) (by rw [e32]; omega) l0 (by rw [e8]; omega) (by rw [e32]; omega)
 rw [e32] at b
 rw [i64_w]; unfold wrap64; omega
theorem both_any (h l : Int) (h0 : 0 ≤ h) (h1 : h ≤ 255) (l0 : 0 ≤ l) (l1 : l ≤ 255) (W : World) :
  Calls Try.prog 62 #[.int .i64 h, .int .i64 l] W fun e w' => e = .returned (.int .i64 (both16 h l)) ∧ w' = W := by
 have ho := or256 h0 h1 l0 l1
 have h16 : IntKind.i16.wrap (h * 256 + l) = both16 h l := by
  unfold both16
  simp [IntKind.wrap, IntKind.bits, IntKind.signed]
  split <;> omega
 have h64 : IntKind.i64.wrap (both16 h l) = both16 h l := by rw [i64_w]; unfold both16 wrap64; split <;> omega
 have h64b : wrap64 (both16 h l) = both16 h l := by rw [← i64_w]; exact h64
 go_enter Try.func62, Try.ntmps62
 go_wp2
 go_ret
 exact ⟨rfl, rfl⟩
theorem drawn_on {W w : World} (h : ∃ q, w = W.drewN q) (n : Nat) : ∃ q, w.drewN n = W.drewN q := by
 obtain ⟨q, rfl⟩ := h
 exact ⟨q + n, World.drewN_drewN ..⟩
theorem any_before (op x : Int) (k : Nat) (h : ∀ j : Nat, j < k → mayC op (both16 x (j : Int)) = false) (hk : k = 256) : anyLow op x = false := by
 subst hk
 unfold anyLow
 rw [List.any_eq_false]
 intro l hl
 rw [h l (List.mem_range.1 hl)]
 decide
theorem any_here (op x : Int) (k : Nat) (hk : k < 256) (h : mayC op (both16 x (k : Int)) = true) : anyLow op x = true := List.any_eq_true.2 ⟨k, List.mem_range.2 hk, h⟩
set_option maxHeartbeats 4000000 in
set_option maxRecDepth 100000 in
theorem high_pred (op : Int) (gm gb g1 : Nat) (w : World) (hm : w.cell? ⟨gm, 0, none⟩ = some (.func (.func 61) #[] #[.pointer (some ⟨g1, 0, none⟩)])) (hb : w.cell? ⟨gb, 0, none⟩ = some (.func (.func 62) #[] #[])) (ho : w.cell? ⟨g1, 0, none⟩ = some (.int .i64 op)) (b1 : gm < w.heap.size) (b2 : gb < w.heap.size) (b3 : g1 < w.heap.size) :
  PredB Try.prog 63 #[.pointer (some ⟨gm, 0, none⟩), .pointer (some ⟨gb, 0, none⟩)] (anyLow op) w := by
 intro W x x0 x1 hB
 have cm := (hB.cell (p := ⟨gm, 0, none⟩) b1).trans hm
 have cb := (hB.cell (p := ⟨gb, 0, none⟩) b2).trans hb
 have co := (hB.cell (p := ⟨g1, 0, none⟩) b3).trans ho
 clear hm hb ho b1 b2 b3 hB
 unfold FnGives
 go_enter Try.func63, Try.ntmps63
 go_wp2
 go_loopw [6] (fun i wr => ∃ k : Nat, k ≤ 256 ∧ i = .int .i64 k ∧ (∀ j : Nat, j < k → mayC op (both16 x (j : Int)) = false) ∧ ∃ q, wr = W.drewN q) (fun i _ => 256 - (intOf i).toNat)
 case atStart => exact ⟨0, by omega, rfl, fun j hj => absurd hj (Nat.not_lt_zero _), 0, rfl⟩
 case round =>
  obtain ⟨k, hk, rfl, hall, hq⟩ := hrel
  have HA := aM hall
  have HQ := aM hq
  have cm' : wr.cell? ⟨gm, 0, none⟩ = some (.func (.func 61) #[] #[.pointer (some ⟨g1, 0, none⟩)]) := by obtain ⟨q, rfl⟩ := hq; exact cm
  have cb' : wr.cell? ⟨gb, 0, none⟩ = some (.func (.func 62) #[] #[]) := by obtain ⟨q, rfl⟩ := hq; exact cb
  have co' : wr.cell? ⟨g1, 0, none⟩ = some (.int .i64 op) := by obtain ⟨q, rfl⟩ := hq; exact co
  clear hall hq cm cb co
  by_cases hlt : k < 256
  ·have k0 : (0 : Int) ≤ (k : Int) := Int.natCast_nonneg k
   have k1 : (k : Int) ≤ 255 := by omega
   cases hmc : mayC op (both16 x (k : Int))
   ·have HM := aM hmc
    clear hmc
    go_wp2
    go_quiet ((first | (go_at_call 62; exact Calls.quiet_of_same (both_any x k x0 x1 k0 k1 _)) | (go_at_call 61; exact Calls.quiet_of_same ((may_any op _ g1 _ (by go_simp)).mono (fun e w' h => by rw [HM.out] at h; exact h)))))
    go_wp2
    go_roundw
    case rel =>
     refine ⟨k + 1, by omega, by go_num, fun j hj => ?_, drawn_on HQ.out _⟩
     by_cases e : j = k
     ·rw [e]; exact HM.out
     ·exact HA.out j (by omega)
    case measure => simp [intOf]; omega
   ·have HM := aM hmc
    have HR := aM (any_here op x k hlt hmc)
    clear hmc
    go_wp2
    go_quiet ((first | (go_at_call 62; exact Calls.quiet_of_same (both_any x k x0 x1 k0 k1 _)) | (go_at_call 61; exact Calls.quiet_of_same ((may_any op _ g1 _ (by go_simp)).mono (fun e w' h => by rw [HM.out] at h; exact h)))))
    go_wp2
    go_ret
    exact ⟨by rw [HR.out]; rfl, drawn_on HQ.out _⟩
  ·have HR := aM (any_before op x k HA.out (by omega))
   go_wp2
   go_ret
   exact ⟨by rw [HR.out]; rfl, HQ.out⟩
set_option maxHeartbeats 4000000 in
set_option maxRecDepth 100000 in
theorem low_pred (op h : Int) (h0 : 0 ≤ h) (h1 : h ≤ 255) (gm gb g1 gh : Nat) (w : World) (hm : w.cell? ⟨gm, 0, none⟩ = some (.func (.func 61) #[] #[.pointer (some ⟨g1, 0, none⟩)])) (hb : w.cell? ⟨gb, 0, none⟩ = some (.func (.func 62) #[] #[])) (ho : w.cell? ⟨g1, 0, none⟩ = some (.int .i64 op)) (hh : w.cell? ⟨gh, 0, none⟩ = some (.int .i64 h)) (b1 : gm < w.heap.size) (b2 : gb < w.heap.size) (b3 : g1 < w.heap.size) (b4 : gh < w.heap.size) :
  PredB Try.prog 64 #[.pointer (some ⟨gm, 0, none⟩), .pointer (some ⟨gb, 0, none⟩), .pointer (some ⟨gh, 0, none⟩)] (fun x => mayC op (both16 h x)) w := by
 intro W x x0 x1 hB
 have cm := (hB.cell (p := ⟨gm, 0, none⟩) b1).trans hm
 have cb := (hB.cell (p := ⟨gb, 0, none⟩) b2).trans hb
 have co := (hB.cell (p := ⟨g1, 0, none⟩) b3).trans ho
 have ch := (hB.cell (p := ⟨gh, 0, none⟩) b4).trans hh
 clear hm hb ho hh b1 b2 b3 b4 hB
 unfold FnGives
 cases hmc : mayC op (both16 h x)
 all_goals
  have HM := aM hmc
  clear hmc
  go_enter Try.func64, Try.ntmps64
  go_wp2
  go_quiet ((first | (go_at_call 62; exact Calls.quiet_of_same (both_any h x h0 h1 x0 x1 _)) | (go_at_call 61; exact Calls.quiet_of_same ((may_any op _ g1 _ (by go_simp)).mono (fun e w' h => by rw [HM.out] at h; exact h)))))
  go_wp2
  go_ret
  exact ⟨by rw [HM.out]; rfl, _, rfl⟩
def code_reader_constant.f (s0_0 : List Int) (s0_1 : Int) (s0_2 : Bool) (a1 : Int) : Option (Int × Int × Bool) := (byteF (anyLow a1) s0_0 s0_1 s0_2).bind fun b => (byteF (fun x => mayC a1 (both16 b.1 x)) s0_0 b.2.1 b.2.2).bind fun c => some (both16 b.1 c.1, c.2.1, c.2.2)
theorem keep_cell {w w1 : World} {g b : Nat} {row : Option Nat} {v : Value} (hk : KeepBut w w1 g row) (hr : row = none) (hc : w.cell? ⟨b, 0, none⟩ = some v) (hb : b < w.heap.size) (hne : b ≠ g) : w1.cell? ⟨b, 0, none⟩ = some v := by
 subst hr
 obtain ⟨o, ho⟩ : ∃ o, w.heap[b]? = some o := ⟨_, Array.getElem?_eq_getElem hb⟩
 have h1 := hk.blk ho hne (by simp)
 rw [← hc]
 unfold World.cell?
 simp only [h1, ho]
theorem cell_on {w : World} {b : Nat} {v : Value} (o : Obj) (h : w.cell? ⟨b, 0, none⟩ = some v) (hb : b < w.heap.size) : (w.alloc o).cell? ⟨b, 0, none⟩ = some v :=
 ((below_alloc (Below.refl w.heap.size w) o).cell (p := ⟨b, 0, none⟩) hb).trans h
set_option maxHeartbeats 4000000 in
set_option maxRecDepth 100000 in
theorem code_reader_constant.calls (g : Nat) (s0_0 : List Int) (s0_1 : Int) (s0_2 : Bool) (a1 : Int) (r1 : Int) (r2 : Int) (r3 : Bool) (w0 w : World) (hI : IsS70 w0 w g s0_0 s0_1 s0_2) (hB : Below w0.heap.size w0 w) (h : code_reader_constant.f s0_0 s0_1 s0_2 a1 = some (r1, r2, r3)) :
  Calls Try.prog 56 #[.pointer (some ⟨g, 0, none⟩), .int .i64 a1] w fun e w' => e = .returned (.int .i64 r1) ∧ IsS70 w0 w' g s0_0 r2 r3 ∧ Below w0.heap.size w0 w' ∧ KeepBut w w' g none := by
 unfold code_reader_constant.f at h
 obtain ⟨⟨x, y, z⟩, hb, h⟩ := Option.bind_eq_some_iff.mp h
 obtain ⟨⟨x2, y2, z2⟩, hb2, h⟩ := Option.bind_eq_some_iff.mp h
 simp only [Option.some.injEq, Prod.mk.injEq] at h
 obtain ⟨rfl, rfl, rfl⟩ := h
 obtain ⟨x0, x1⟩ := byteF_rng hb
 obtain ⟨u0, u1⟩ := byteF_rng hb2
 have HB2 := aM hb2
 have HB1 := aM hb
 have egH := enters_of Try.func63 zk rfl
 have egL := enters_of Try.func64 zk rfl
 have hlt := IsS70.lt hI
 have hI1 := IsS70.alloc (IsS70.alloc (IsS70.alloc hI (.cells #[.int .i64 a1] 3)) (.cells #[.func (.func 61) #[] #[.pointer (some ⟨w.heap.size, 0, none⟩)]] 89)) (.cells #[.func (.func 62) #[] #[]] 71)
 have hB1 := below_alloc (below_alloc (below_alloc hB (.cells #[.int .i64 a1] 3)) (.cells #[.func (.func 61) #[] #[.pointer (some ⟨w.heap.size, 0, none⟩)]] 89)) (.cells #[.func (.func 62) #[] #[]] 71)
 obtain ⟨W1, hW1⟩ : ∃ W1, W1 = ((w.alloc (.cells #[.int .i64 a1] 3)).alloc (.cells #[.func (.func 61) #[] #[.pointer (some ⟨w.heap.size, 0, none⟩)]] 89)).alloc (.cells #[.func (.func 62) #[] #[]] 71) := ⟨_, rfl⟩
 have hK1 : KeepBut w W1 g none := by rw [hW1]; repeat (first | (with_reducible first | exact KeepBut.refl w g none | apply keep_alloc) | exact KeepBut.refl w g none)
 have hz1 : W1.heap.size = w.heap.size + 3 := by rw [hW1]; simp
 have c1 : W1.cell? ⟨w.heap.size + 1, 0, none⟩ = some (.func (.func 61) #[] #[.pointer (some ⟨w.heap.size, 0, none⟩)]) := by rw [hW1]; go_simp
 have c2 : W1.cell? ⟨w.heap.size + 1 + 1, 0, none⟩ = some (.func (.func 62) #[] #[]) := by rw [hW1]; go_simp
 have c3 : W1.cell? ⟨w.heap.size, 0, none⟩ = some (.int .i64 a1) := by rw [hW1]; go_simp
 rw [← hW1] at hI1 hB1
 have C1 := code_reader_byte egH g s0_0 s0_1 s0_2 x y z w0 W1 (high_pred a1 (w.heap.size + 1) (w.heap.size + 1 + 1) w.heap.size W1 c1 c2 c3 (by omega) (by omega) (by omega)) hI1 hB1 hb
 have C2 : ∀ w1, IsS70 w0 w1 g s0_0 y z → Below w0.heap.size w0 w1 → KeepBut W1 w1 g none → ∀ gh, w1.heap.size = gh → (Calls Try.prog 51 #[.pointer (some ⟨g, 0, none⟩), .func (.func 64) #[] #[.pointer (some ⟨w.heap.size + 1, 0, none⟩), .pointer (some ⟨w.heap.size + 1 + 1, 0, none⟩), .pointer (some ⟨gh, 0, none⟩)]] (w1.alloc (.cells #[.int .i64 x] 3)) fun e w' => e = .returned (.int .i64 x2) ∧ IsS70 w0 w' g s0_0 y2 z2 ∧ Below w0.heap.size w0 w' ∧ KeepBut W1 w' g none ∧ w'.cell? ⟨w.heap.size + 1 + 1, 0, none⟩ = some (.func (.func 62) #[] #[]) ∧ w'.cell? ⟨gh, 0, none⟩ = some (.int .i64 x)) := by
  intro w1 hI2 hB2 hK2 gh hgh
  subst hgh
  have hz2 := hK2.1
  have d1 := cell_on (.cells #[.int .i64 x] 3) (keep_cell hK2 rfl c1 (by omega) (by omega)) (by omega)
  have d2 := cell_on (.cells #[.int .i64 x] 3) (keep_cell hK2 rfl c2 (by omega) (by omega)) (by omega)
  have d3 := cell_on (.cells #[.int .i64 x] 3) (keep_cell hK2 rfl c3 (by omega) (by omega)) (by omega)
  have d4 : (w1.alloc (.cells #[.int .i64 x] 3)).cell? ⟨w1.heap.size, 0, none⟩ = some (.int .i64 x) := by go_simp
  have hK3 := keep_alloc hK2 (.cells #[.int .i64 x] 3)
  refine (code_reader_byte egL g s0_0 y z x2 y2 z2 w0 _ (low_pred a1 x x0 x1 (w.heap.size + 1) (w.heap.size + 1 + 1) w.heap.size w1.heap.size _ d1 d2 d3 d4 (by simp; omega) (by simp; omega) (by simp; omega) (by simp)) (IsS70.alloc hI2 _) (below_alloc hB2 _) hb2).mono ?_
  rintro e w' ⟨he, q1, q2, q3⟩
  exact ⟨he, q1, q2, hK3.trans q3 (Or.inl rfl), keep_cell q3 rfl d2 (by simp; omega) (by omega), keep_cell q3 rfl d4 (by simp) (by omega)⟩
 have HC2 := aM C2
 have HK1 := aM hK1
 subst hW1
 clear hb hb2 hI hB hI1 hB1 C2 hK1 c1 c2 c3 hz1 hlt
 go_enter Try.func56, Try.ntmps56
 go_wp2_with (first | (go_at_call 51; refine C1.mono ?_; rintro e w1 ⟨rfl, hI2, hB2, hK2⟩; have HN := aM (HC2.out w1 hI2 hB2 hK2 _ rfl); clear C1 hI2 hB2 hK2) | (go_at_call 51; refine HN.out.mono ?_; rintro e w2 ⟨rfl, hI3, hB3, hK3, e1, e2⟩) | (go_at_call 62; refine (both_any x x2 x0 x1 u0 u1 _).mono ?_; rintro e w' ⟨rfl, rfl⟩))
 go_ret
 exact ⟨rfl, hI3, hB3, HK1.out.trans hK3 (Or.inl rfl)⟩

/-! ### code_reader_program_1: function 54 -/
theorem program1_pred (w : World) : PredB Try.prog 54 #[] (fun x => decide (x * 256 ≤ 16384)) w := by
 intro W x x0 x1 hb
 unfold FnGives
 go_enter Try.func54, Try.ntmps54
 go_wp2
 go_ret
 exact ⟨rfl, 0, rfl⟩
def code_reader_program_1.f (s0_0 : List Int) (s0_1 : Int) (s0_2 : Bool) : Option (Int × Int × Bool) := byteF (fun x => decide (x * 256 ≤ 16384)) s0_0 s0_1 s0_2
theorem code_reader_program_1.calls (g : Nat) (s0_0 : List Int) (s0_1 : Int) (s0_2 : Bool) (r1 : Int) (r2 : Int) (r3 : Bool) (w0 w : World) (hI : IsS70 w0 w g s0_0 s0_1 s0_2) (hB : Below w0.heap.size w0 w) (h : code_reader_program_1.f s0_0 s0_1 s0_2 = some (r1, r2, r3)) :
  Calls Try.prog 51 #[.pointer (some ⟨g, 0, none⟩), .func (.func 54) #[] #[]] w fun e w' => e = .returned (.int .i64 r1) ∧ IsS70 w0 w' g s0_0 r2 r3 ∧ Below w0.heap.size w0 w' ∧ KeepBut w w' g none :=
 code_reader_byte (enters_of Try.func54 zk rfl) g s0_0 s0_1 s0_2 r1 r2 r3 w0 w (program1_pred w) hI hB h

end Go.Proofs.Ytccbdcbeinkjgaa.XA
end

section
namespace Go.Proofs.Ytccbdcbeinkjgaa.XA
open Go.Proofs.Ytccbdcbeinkjgaa.Lift Go.RowKit Go.Proofs.YtccbdcbeinkjgaaW.PrintWords Go.Proofs.YtccbdcbeinkjgaaW.PrintLast Go.Proofs.YtccbdcbeinkjgaaW.PrintMore
attribute [local go_sem] max2_int min2_int max_two min_two max_three min_three max_four min_four
set_option linter.unusedVariables false
set_option linter.unusedSimpArgs false

/-! ### code_reader_program_2: function 55 -/
theorem program2_pred (h : Int) (h0 : 0 ≤ h) (h1 : h ≤ 255) (g1 : Nat) (w : World) (hc : w.cell? ⟨g1, 0, none⟩ = some (.int .i64 h)) (b1 : g1 < w.heap.size) : PredB Try.prog 55 #[.pointer (some ⟨g1, 0, none⟩)] (fun x => decide (h * 256 + x ≤ 16384)) w := by
 intro W x x0 x1 hb
 have cc := (hb.cell (p := ⟨g1, 0, none⟩) b1).trans hc
 have ho := or256 h0 h1 x0 x1
 clear hc b1 hb
 unfold FnGives
 go_enter Try.func55, Try.ntmps55
 go_wp2
 go_ret
 exact ⟨rfl, 0, rfl⟩
def code_reader_program_2.f (s0_0 : List Int) (s0_1 : Int) (s0_2 : Bool) (a1 : Int) : Option (Int × Int × Bool) := if 0 ≤ a1 ∧ a1 ≤ 255 then byteF (fun x => decide (a1 * 256 + x ≤ 16384)) s0_0 s0_1 s0_2 else none
theorem code_reader_program_2.calls (g : Nat) (s0_0 : List Int) (s0_1 : Int) (s0_2 : Bool) (a1 : Int) (r1 : Int) (r2 : Int) (r3 : Bool) (w0 w : World) (hI : IsS70 w0 w g s0_0 s0_1 s0_2) (hB : Below w0.heap.size w0 w) (h : code_reader_program_2.f s0_0 s0_1 s0_2 a1 = some (r1, r2, r3)) (g1 : Nat) (hc : w.cell? ⟨g1, 0, none⟩ = some (.int .i64 a1)) (b1 : g1 < w.heap.size) :
  Calls Try.prog 51 #[.pointer (some ⟨g, 0, none⟩), .func (.func 55) #[] #[.pointer (some ⟨g1, 0, none⟩)]] w fun e w' => e = .returned (.int .i64 r1) ∧ IsS70 w0 w' g s0_0 r2 r3 ∧ Below w0.heap.size w0 w' ∧ KeepBut w w' g none := by
 unfold code_reader_program_2.f at h
 by_cases c : 0 ≤ a1 ∧ a1 ≤ 255
 ·rw [if_pos c] at h
  exact code_reader_byte (enters_of Try.func55 zk rfl) g s0_0 s0_1 s0_2 r1 r2 r3 w0 w (program2_pred a1 c.1 c.2 g1 w hc b1) hI hB h
 ·rw [if_neg c] at h; cases h

end Go.Proofs.Ytccbdcbeinkjgaa.XA
end
