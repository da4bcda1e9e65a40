/- Part 14 of the proof of the law CodeDecodes for every input: words, walks and plain laws. No condition. -/
import Derived.Test.YtccbdcbeinkjgaaKCodeDecodes13
set_option linter.unusedVariables false
set_option linter.unusedSimpArgs false
set_option maxHeartbeats 8000000
set_option maxRecDepth 100000
section
namespace Go.Proofs.Ytccbdcbeinkjgaa.XA
open Go.Proofs.Ytccbdcbeinkjgaa.Lift Go.RowKit Go.Proofs.YtccbdcbeinkjgaaW.PrintWords Go.Proofs.YtccbdcbeinkjgaaW.PrintLast Go.Proofs.YtccbdcbeinkjgaaW.PrintMore
attribute [local go_sem] max2_int min2_int max_two min_two max_three min_three max_four min_four
attribute [local go_sem high] eqA48
def api_Point_30.l0 : Nat → List (S48) → List (S48) → Int → Int → Option (Bool)
 | 0, _, _, _, _ => none
 | k + 1, x0, x1, x12, x13 => if x13 < x12 then (if 0 ≤ x13 then (if x13 < (x0.length : Int) then (if x13 < (x1.length : Int) then (if (!(((rd_T48 x0 x13).f0) == ((rd_T48 x1 x13).f0)) || (!(((rd_T48 x0 x13).f1) == ((rd_T48 x1 x13).f1)))) = true then (some false) else (api_Point_30.l0 k x0 x1 x12 (wrap64 (x13 + 1)))) else (none)) else (none)) else (none)) else (some true)
def api_Point_30.f (k : Nat) (l0 : List (S48)) (l1 : List (S48)) : Option (Bool) := if (l0.length : Int) = (l1.length : Int) then (api_Point_30.l0 k l0 l1 (l0.length : Int) 0) else (some false)
theorem api_Point_30.mono_l : ∀ k, (∀ y0 y1 y2 y3, LeO (api_Point_30.l0 k y0 y1 y2 y3) (api_Point_30.l0 (k + 1) y0 y1 y2 y3))
 | 0 => fun _ _ _ _ r h => by simp [api_Point_30.l0] at h
 | k + 1 => by
  have ih0 := api_Point_30.mono_l k
  ·intro y0 y1 y2 y3
   unfold api_Point_30.l0
   exact zM
theorem api_Point_30.mono : ∀ a0 a1 k, LeO (api_Point_30.f k a0 a1) (api_Point_30.f (k + 1) a0 a1) := by
 intro a0 a1 k
 have ih0 := api_Point_30.mono_l k
 unfold api_Point_30.f
 exact zM
theorem api_Point_30.calls (k : Nat) (A0 : Option Addr) (c0 : Nat) (l0 : List (S48)) (A1 : Option Addr) (c1 : Nat) (l1 : List (S48)) (r : Bool) (w : World) (hr0 : Kd.C k48 w A0 l0.length l0) (hc0 : l0.length ≤ c0) (hr1 : Kd.C k48 w A1 l1.length l1) (hc1 : l1.length ≤ c1) (h : api_Point_30.f k l0 l1 = some r) :
  Calls Try.prog 30 #[.slice A0 l0.length c0, .slice A1 l1.length c1] w fun e w' => e = .returned (.bool r) ∧ Drawn0 w w' := by
 have hu48 := Try.underlying48
 have HR0 := aM hr0
 have HC0 := aM hc0
 clear hr0 hc0
 have HR1 := aM hr1
 have HC1 := aM hc1
 clear hr1 hc1
 have H : (if (l0.length : Int) = (l1.length : Int) then (api_Point_30.l0 k l0 l1 (l0.length : Int) 0) else (some false)) = some r := h
 clear h
 by_cases c3 : (l0.length : Int) = (l1.length : Int)
 ·rw [if_pos c3] at H
  have c3b0 : ((l0.length : Int) == (l1.length : Int)) = true := beq_iff_eq.mpr c3
  have c3b1 : ((l0.length : Int) != (l1.length : Int)) = false := bne_eq_false_iff_eq.mpr c3
  have c3b2 : (l0.length == l1.length) = true := by first | simpa using c3 | (simp at c3 ⊢; omega)
  clear c3
  have H' := aM H
  clear H
  go_enter Try.func30, Try.ntmps30
  go_wp2
  repeat (go_quiet (fail); try go_wp2)
  go_loopg [13] k (fun kq v13 w' => ∃ (qA : Int), v13 = .int .i64 qA ∧ Aside0 (api_Point_30.l0 kq l0 l1 (l0.length : Int) qA = some r) ∧ Aside0 (kq ≤ k) ∧ Drawn0 w w')
  case atStart => exact ⟨(0), zT, H', ⟨Nat.le_refl _⟩, by repeat (first | exact Drawn0.refl _ | apply Drawn0.step)⟩
  case round =>
   clear H'
   try clear c1
   try clear c3
   obtain ⟨qA, rfl, HA, HK1, ⟨m1, rfl⟩⟩ := hrel
   cases gk with
   | zero => exact absurd HA.out (by simp [api_Point_30.l0])
   | succ k1 =>
    have H := HA.out
    clear HA
    simp only [api_Point_30.l0] at H
    by_cases c4 : qA < (l0.length : Int)
    ·rw [if_pos c4] at H
     have c4b0 := decide_eq_true c4
     clear c4
     by_cases c5 : 0 ≤ qA
     ·rw [if_pos c5] at H
      have c5b0 := decide_eq_true c5
      clear c5
      by_cases c6 : qA < (l0.length : Int)
      ·rw [if_pos c6] at H
       have c6b0 := decide_eq_true c6
       clear c6
       by_cases c7 : qA < (l1.length : Int)
       ·rw [if_pos c7] at H
        have c7b0 := decide_eq_true c7
        clear c7
        by_cases c8 : (!(((rd_T48 l0 qA).f0) == ((rd_T48 l1 qA).f0)) || (!(((rd_T48 l0 qA).f1) == ((rd_T48 l1 qA).f1)))) = true
        ·rw [if_pos c8] at H
         have c8b0 : (!(((rd_T48 l0 qA).f0) == ((rd_T48 l1 qA).f0)) || (!(((rd_T48 l0 qA).f1) == ((rd_T48 l1 qA).f1)))) = true := c8
         clear c8
         obtain rfl := Option.some.inj H
         have p257 : 0 ≤ (qA : Int) := of_decide_eq_true za
         have q257 : qA < (l0.length : Int) := of_decide_eq_true za
         obtain ⟨ad257, e257, hx257_0, hx257_1⟩ := at_T48 HR0.out qA p257 q257
         cases e257
         replace p257 := eq_true p257
         replace q257 := eq_true q257
         have p258 : 0 ≤ (qA : Int) := of_decide_eq_true za
         have q258 : qA < (l1.length : Int) := of_decide_eq_true za
         obtain ⟨ad258, e258, hx258_0, hx258_1⟩ := at_T48 HR1.out qA p258 q258
         cases e258
         replace p258 := eq_true p258
         replace q258 := eq_true q258
         go_wp2
         repeat (go_quiet (fail); try go_wp2)
         go_ret
         exact ⟨zT, by repeat (first | exact Drawn0.refl _ | apply Drawn0.step)⟩
        ·rw [if_neg c8] at H
         have c8b0 : (!(((rd_T48 l0 qA).f0) == ((rd_T48 l1 qA).f0)) || (!(((rd_T48 l0 qA).f1) == ((rd_T48 l1 qA).f1)))) = false := by simpa using c8
         clear c8
         have H' := aM H
         clear H
         have p257 : 0 ≤ (qA : Int) := of_decide_eq_true za
         have q257 : qA < (l0.length : Int) := of_decide_eq_true za
         obtain ⟨ad257, e257, hx257_0, hx257_1⟩ := at_T48 HR0.out qA p257 q257
         cases e257
         replace p257 := eq_true p257
         replace q257 := eq_true q257
         have p258 : 0 ≤ (qA : Int) := of_decide_eq_true za
         have q258 : qA < (l1.length : Int) := of_decide_eq_true za
         obtain ⟨ad258, e258, hx258_0, hx258_1⟩ := at_T48 HR1.out qA p258 q258
         cases e258
         replace p258 := eq_true p258
         replace q258 := eq_true q258
         go_wp2
         repeat (go_quiet (fail); try go_wp2)
         go_roundg k1
         case measure => have := HK1.out; omega
         case rel => exact ⟨(wrap64 (qA + 1)), zT, H', ⟨by have := HK1.out; omega⟩, by repeat (first | exact Drawn0.refl _ | apply Drawn0.step)⟩
       ·rw [if_neg c7] at H
        exact absurd H (by simp)
      ·rw [if_neg c6] at H
       exact absurd H (by simp)
     ·rw [if_neg c5] at H
      exact absurd H (by simp)
    ·rw [if_neg c4] at H
     have c4b0 := decide_eq_false c4
     clear c4
     obtain rfl := Option.some.inj H
     go_wp2
     repeat (go_quiet (fail); try go_wp2)
     go_ret
     exact ⟨zT, by repeat (first | exact Drawn0.refl _ | apply Drawn0.step)⟩
 ·rw [if_neg c3] at H
  have c3b0 : ((l0.length : Int) == (l1.length : Int)) = false := beq_eq_false_iff_ne.mpr c3
  have c3b1 : ((l0.length : Int) != (l1.length : Int)) = true := bne_iff_ne.mpr c3
  have c3b2 : (l0.length == l1.length) = false := by first | simpa using c3 | (simp at c3 ⊢; omega)
  obtain rfl := Option.some.inj H
  go_enter Try.func30, Try.ntmps30
  go_wp2
  repeat (go_quiet (fail); try go_wp2)
  go_ret
  exact ⟨zT, by repeat (first | exact Drawn0.refl _ | apply Drawn0.step)⟩
end Go.Proofs.Ytccbdcbeinkjgaa.XA
end
section
namespace Go.Proofs.Ytccbdcbeinkjgaa.XA
open Go.Proofs.Ytccbdcbeinkjgaa.Lift Go.RowKit Go.Proofs.YtccbdcbeinkjgaaW.PrintWords Go.Proofs.YtccbdcbeinkjgaaW.PrintLast Go.Proofs.YtccbdcbeinkjgaaW.PrintMore
attribute [local go_sem] max2_int min2_int max_two min_two max_three min_three max_four min_four
attribute [local go_sem high] eqA63
def api_Instr.l0 : Nat → List (S63) → List (S63) → Int → Int → Option (Bool)
 | 0, _, _, _, _ => none
 | k + 1, x0, x1, x12, x13 => if x13 < x12 then (if 0 ≤ x13 then (if x13 < (x0.length : Int) then (if x13 < (x1.length : Int) then (if (!(((rd_T63 x0 x13).f0) == ((rd_T63 x1 x13).f0)) || (!(((rd_T63 x0 x13).f1) == ((rd_T63 x1 x13).f1)) || (!(((rd_T63 x0 x13).f2) == ((rd_T63 x1 x13).f2)) || (!(((rd_T63 x0 x13).f3) == ((rd_T63 x1 x13).f3)) || (!(((rd_T63 x0 x13).f4) == ((rd_T63 x1 x13).f4))))))) = true then (some false) else (api_Instr.l0 k x0 x1 x12 (wrap64 (x13 + 1)))) else (none)) else (none)) else (none)) else (some true)
def api_Instr.f (k : Nat) (l0 : List (S63)) (l1 : List (S63)) : Option (Bool) := if (l0.length : Int) = (l1.length : Int) then (api_Instr.l0 k l0 l1 (l0.length : Int) 0) else (some false)
theorem api_Instr.mono_l : ∀ k, (∀ y0 y1 y2 y3, LeO (api_Instr.l0 k y0 y1 y2 y3) (api_Instr.l0 (k + 1) y0 y1 y2 y3))
 | 0 => fun _ _ _ _ r h => by simp [api_Instr.l0] at h
 | k + 1 => by
  have ih0 := api_Instr.mono_l k
  ·intro y0 y1 y2 y3
   unfold api_Instr.l0
   exact zM
theorem api_Instr.mono : ∀ a0 a1 k, LeO (api_Instr.f k a0 a1) (api_Instr.f (k + 1) a0 a1) := by
 intro a0 a1 k
 have ih0 := api_Instr.mono_l k
 unfold api_Instr.f
 exact zM
theorem api_Instr.calls (k : Nat) (A0 : Option Addr) (c0 : Nat) (l0 : List (S63)) (A1 : Option Addr) (c1 : Nat) (l1 : List (S63)) (r : Bool) (w : World) (hr0 : Kd.C k63 w A0 l0.length l0) (hc0 : l0.length ≤ c0) (hr1 : Kd.C k63 w A1 l1.length l1) (hc1 : l1.length ≤ c1) (h : api_Instr.f k l0 l1 = some r) :
  Calls Try.prog 49 #[.slice A0 l0.length c0, .slice A1 l1.length c1] w fun e w' => e = .returned (.bool r) ∧ Drawn0 w w' := by
 have hu63 := Try.underlying63
 have HR0 := aM hr0
 have HC0 := aM hc0
 clear hr0 hc0
 have HR1 := aM hr1
 have HC1 := aM hc1
 clear hr1 hc1
 have H : (if (l0.length : Int) = (l1.length : Int) then (api_Instr.l0 k l0 l1 (l0.length : Int) 0) else (some false)) = some r := h
 clear h
 by_cases c3 : (l0.length : Int) = (l1.length : Int)
 ·rw [if_pos c3] at H
  have c3b0 : ((l0.length : Int) == (l1.length : Int)) = true := beq_iff_eq.mpr c3
  have c3b1 : ((l0.length : Int) != (l1.length : Int)) = false := bne_eq_false_iff_eq.mpr c3
  have c3b2 : (l0.length == l1.length) = true := by first | simpa using c3 | (simp at c3 ⊢; omega)
  clear c3
  have H' := aM H
  clear H
  go_enter Try.func49, Try.ntmps49
  go_wp2
  repeat (go_quiet (fail); try go_wp2)
  go_loopg [13] k (fun kq v13 w' => ∃ (qA : Int), v13 = .int .i64 qA ∧ Aside0 (api_Instr.l0 kq l0 l1 (l0.length : Int) qA = some r) ∧ Aside0 (kq ≤ k) ∧ Drawn0 w w')
  case atStart => exact ⟨(0), zT, H', ⟨Nat.le_refl _⟩, by repeat (first | exact Drawn0.refl _ | apply Drawn0.step)⟩
  case round =>
   clear H'
   try clear c1
   try clear c3
   obtain ⟨qA, rfl, HA, HK1, ⟨m1, rfl⟩⟩ := hrel
   cases gk with
   | zero => exact absurd HA.out (by simp [api_Instr.l0])
   | succ k1 =>
    have H := HA.out
    clear HA
    simp only [api_Instr.l0] at H
    by_cases c4 : qA < (l0.length : Int)
    ·rw [if_pos c4] at H
     have c4b0 := decide_eq_true c4
     clear c4
     by_cases c5 : 0 ≤ qA
     ·rw [if_pos c5] at H
      have c5b0 := decide_eq_true c5
      clear c5
      by_cases c6 : qA < (l0.length : Int)
      ·rw [if_pos c6] at H
       have c6b0 := decide_eq_true c6
       clear c6
       by_cases c7 : qA < (l1.length : Int)
       ·rw [if_pos c7] at H
        have c7b0 := decide_eq_true c7
        clear c7
        by_cases c8 : (!(((rd_T63 l0 qA).f0) == ((rd_T63 l1 qA).f0)) || (!(((rd_T63 l0 qA).f1) == ((rd_T63 l1 qA).f1)) || (!(((rd_T63 l0 qA).f2) == ((rd_T63 l1 qA).f2)) || (!(((rd_T63 l0 qA).f3) == ((rd_T63 l1 qA).f3)) || (!(((rd_T63 l0 qA).f4) == ((rd_T63 l1 qA).f4))))))) = true
        ·rw [if_pos c8] at H
         have c8b0 : (!(((rd_T63 l0 qA).f0) == ((rd_T63 l1 qA).f0)) || (!(((rd_T63 l0 qA).f1) == ((rd_T63 l1 qA).f1)) || (!(((rd_T63 l0 qA).f2) == ((rd_T63 l1 qA).f2)) || (!(((rd_T63 l0 qA).f3) == ((rd_T63 l1 qA).f3)) || (!(((rd_T63 l0 qA).f4) == ((rd_T63 l1 qA).f4))))))) = true := c8
         clear c8
         obtain rfl := Option.some.inj H
         have p259 : 0 ≤ (qA : Int) := of_decide_eq_true za
         have q259 : qA < (l0.length : Int) := of_decide_eq_true za
         obtain ⟨ad259, e259, hx259_0, hx259_1, hx259_2, hx259_3, hx259_4⟩ := at_T63 HR0.out qA p259 q259
         cases e259
         replace p259 := eq_true p259
         replace q259 := eq_true q259
         have p260 : 0 ≤ (qA : Int) := of_decide_eq_true za
         have q260 : qA < (l1.length : Int) := of_decide_eq_true za
         obtain ⟨ad260, e260, hx260_0, hx260_1, hx260_2, hx260_3, hx260_4⟩ := at_T63 HR1.out qA p260 q260
         cases e260
         replace p260 := eq_true p260
         replace q260 := eq_true q260
         go_wp2
         repeat (go_quiet (fail); try go_wp2)
         go_ret
         exact ⟨zT, by repeat (first | exact Drawn0.refl _ | apply Drawn0.step)⟩
        ·rw [if_neg c8] at H
         have c8b0 : (!(((rd_T63 l0 qA).f0) == ((rd_T63 l1 qA).f0)) || (!(((rd_T63 l0 qA).f1) == ((rd_T63 l1 qA).f1)) || (!(((rd_T63 l0 qA).f2) == ((rd_T63 l1 qA).f2)) || (!(((rd_T63 l0 qA).f3) == ((rd_T63 l1 qA).f3)) || (!(((rd_T63 l0 qA).f4) == ((rd_T63 l1 qA).f4))))))) = false := by simpa using c8
         clear c8
         have H' := aM H
         clear H
         have p259 : 0 ≤ (qA : Int) := of_decide_eq_true za
         have q259 : qA < (l0.length : Int) := of_decide_eq_true za
         obtain ⟨ad259, e259, hx259_0, hx259_1, hx259_2, hx259_3, hx259_4⟩ := at_T63 HR0.out qA p259 q259
         cases e259
         replace p259 := eq_true p259
         replace q259 := eq_true q259
         have p260 : 0 ≤ (qA : Int) := of_decide_eq_true za
         have q260 : qA < (l1.length : Int) := of_decide_eq_true za
         obtain ⟨ad260, e260, hx260_0, hx260_1, hx260_2, hx260_3, hx260_4⟩ := at_T63 HR1.out qA p260 q260
         cases e260
         replace p260 := eq_true p260
         replace q260 := eq_true q260
         go_wp2
         repeat (go_quiet (fail); try go_wp2)
         go_roundg k1
         case measure => have := HK1.out; omega
         case rel => exact ⟨(wrap64 (qA + 1)), zT, H', ⟨by have := HK1.out; omega⟩, by repeat (first | exact Drawn0.refl _ | apply Drawn0.step)⟩
       ·rw [if_neg c7] at H
        exact absurd H (by simp)
      ·rw [if_neg c6] at H
       exact absurd H (by simp)
     ·rw [if_neg c5] at H
      exact absurd H (by simp)
    ·rw [if_neg c4] at H
     have c4b0 := decide_eq_false c4
     clear c4
     obtain rfl := Option.some.inj H
     go_wp2
     repeat (go_quiet (fail); try go_wp2)
     go_ret
     exact ⟨zT, by repeat (first | exact Drawn0.refl _ | apply Drawn0.step)⟩
 ·rw [if_neg c3] at H
  have c3b0 : ((l0.length : Int) == (l1.length : Int)) = false := beq_eq_false_iff_ne.mpr c3
  have c3b1 : ((l0.length : Int) != (l1.length : Int)) = true := bne_iff_ne.mpr c3
  have c3b2 : (l0.length == l1.length) = false := by first | simpa using c3 | (simp at c3 ⊢; omega)
  obtain rfl := Option.some.inj H
  go_enter Try.func49, Try.ntmps49
  go_wp2
  repeat (go_quiet (fail); try go_wp2)
  go_ret
  exact ⟨zT, by repeat (first | exact Drawn0.refl _ | apply Drawn0.step)⟩
end Go.Proofs.Ytccbdcbeinkjgaa.XA
end
section
namespace Go.Proofs.Ytccbdcbeinkjgaa.XA
open Go.Proofs.Ytccbdcbeinkjgaa.Lift Go.RowKit Go.Proofs.YtccbdcbeinkjgaaW.PrintWords Go.Proofs.YtccbdcbeinkjgaaW.PrintLast Go.Proofs.YtccbdcbeinkjgaaW.PrintMore
attribute [local go_sem] max2_int min2_int max_two min_two max_three min_three max_four min_four
def slices_Equal_int_int.l0 : Nat → List Int → List Int → Int → Int → Option (Bool)
 | 0, _, _, _, _ => none
 | k + 1, x0, x1, x12, x13 => if x13 < x12 then (if 0 ≤ x13 then (if x13 < (x0.length : Int) then (if x13 < (x1.length : Int) then (if (rd x0 x13) = (rd x1 x13) then (slices_Equal_int_int.l0 k x0 x1 x12 (wrap64 (x13 + 1))) else (some false)) else (none)) else (none)) else (none)) else (some true)
def slices_Equal_int_int.f (k : Nat) (l0 : List Int) (l1 : List Int) : Option (Bool) := if (l0.length : Int) = (l1.length : Int) then (slices_Equal_int_int.l0 k l0 l1 (l0.length : Int) 0) else (some false)
theorem slices_Equal_int_int.mono_l : ∀ k, (∀ y0 y1 y2 y3, LeO (slices_Equal_int_int.l0 k y0 y1 y2 y3) (slices_Equal_int_int.l0 (k + 1) y0 y1 y2 y3))
 | 0 => fun _ _ _ _ r h => by simp [slices_Equal_int_int.l0] at h
 | k + 1 => by
  have ih0 := slices_Equal_int_int.mono_l k
  ·intro y0 y1 y2 y3
   unfold slices_Equal_int_int.l0
   exact zM
theorem slices_Equal_int_int.mono : ∀ a0 a1 k, LeO (slices_Equal_int_int.f k a0 a1) (slices_Equal_int_int.f (k + 1) a0 a1) := by
 intro a0 a1 k
 have ih0 := slices_Equal_int_int.mono_l k
 unfold slices_Equal_int_int.f
 exact zM
theorem slices_Equal_int_int.calls (k : Nat) (A0 : Option Addr) (c0 : Nat) (l0 : List Int) (A1 : Option Addr) (c1 : Nat) (l1 : List Int) (r : Bool) (w : World) (hr0 : Kd.C (Kd.int .i64) w A0 l0.length l0) (hc0 : l0.length ≤ c0) (hr1 : Kd.C (Kd.int .i64) w A1 l1.length l1) (hc1 : l1.length ≤ c1) (h : slices_Equal_int_int.f k l0 l1 = some r) :
  Calls Try.prog 50 #[.slice A0 l0.length c0, .slice A1 l1.length c1] w fun e w' => e = .returned (.bool r) ∧ Drawn0 w w' := by
 have HR0 := aM hr0
 have HC0 := aM hc0
 clear hr0 hc0
 have HR1 := aM hr1
 have HC1 := aM hc1
 clear hr1 hc1
 have H : (if (l0.length : Int) = (l1.length : Int) then (slices_Equal_int_int.l0 k l0 l1 (l0.length : Int) 0) else (some false)) = some r := h
 clear h
 by_cases c3 : (l0.length : Int) = (l1.length : Int)
 ·rw [if_pos c3] at H
  have c3b0 : ((l0.length : Int) == (l1.length : Int)) = true := beq_iff_eq.mpr c3
  have c3b1 : ((l0.length : Int) != (l1.length : Int)) = false := bne_eq_false_iff_eq.mpr c3
  have c3b2 : (l0.length == l1.length) = true := by first | simpa using c3 | (simp at c3 ⊢; omega)
  clear c3
  have H' := aM H
  clear H
  go_enter Try.func50, Try.ntmps50
  go_wp2
  repeat (go_quiet (fail); try go_wp2)
  go_loopg [13] k (fun kq v13 w' => ∃ (qA : Int), v13 = .int .i64 qA ∧ Aside0 (slices_Equal_int_int.l0 kq l0 l1 (l0.length : Int) qA = some r) ∧ Aside0 (kq ≤ k) ∧ Drawn0 w w')
  case atStart => exact ⟨(0), zT, H', ⟨Nat.le_refl _⟩, by repeat (first | exact Drawn0.refl _ | apply Drawn0.step)⟩
  case round =>
   clear H'
   try clear c1
   try clear c3
   obtain ⟨qA, rfl, HA, HK1, ⟨m1, rfl⟩⟩ := hrel
   cases gk with
   | zero => exact absurd HA.out (by simp [slices_Equal_int_int.l0])
   | succ k1 =>
    have H := HA.out
    clear HA
    simp only [slices_Equal_int_int.l0] at H
    by_cases c4 : qA < (l0.length : Int)
    ·rw [if_pos c4] at H
     have c4b0 := decide_eq_true c4
     clear c4
     by_cases c5 : 0 ≤ qA
     ·rw [if_pos c5] at H
      have c5b0 := decide_eq_true c5
      clear c5
      by_cases c6 : qA < (l0.length : Int)
      ·rw [if_pos c6] at H
       have c6b0 := decide_eq_true c6
       clear c6
       by_cases c7 : qA < (l1.length : Int)
       ·rw [if_pos c7] at H
        have c7b0 := decide_eq_true c7
        clear c7
        by_cases c8 : (rd l0 qA) = (rd l1 qA)
        ·rw [if_pos c8] at H
         have c8b0 : ((rd l0 qA) == (rd l1 qA)) = true := beq_iff_eq.mpr c8
         have c8b1 : ((rd l0 qA) != (rd l1 qA)) = false := bne_eq_false_iff_eq.mpr c8
         clear c8
         have H' := aM H
         clear H
         have p261 : 0 ≤ (qA : Int) := of_decide_eq_true za
         have q261 : qA < (l0.length : Int) := of_decide_eq_true za
         obtain ⟨ad261, e261, hx261_0⟩ := Kd.at_int HR0.out qA p261 q261
         cases e261
         replace p261 := eq_true p261
         replace q261 := eq_true q261
         have p262 : 0 ≤ (qA : Int) := of_decide_eq_true za
         have q262 : qA < (l1.length : Int) := of_decide_eq_true za
         obtain ⟨ad262, e262, hx262_0⟩ := Kd.at_int HR1.out qA p262 q262
         cases e262
         replace p262 := eq_true p262
         replace q262 := eq_true q262
         go_wp2
         repeat (go_quiet (fail); try go_wp2)
         go_roundg k1
         case measure => have := HK1.out; omega
         case rel => exact ⟨(wrap64 (qA + 1)), zT, H', ⟨by have := HK1.out; omega⟩, by repeat (first | exact Drawn0.refl _ | apply Drawn0.step)⟩
        ·rw [if_neg c8] at H
         have c8b0 : ((rd l0 qA) == (rd l1 qA)) = false := beq_eq_false_iff_ne.mpr c8
         have c8b1 : ((rd l0 qA) != (rd l1 qA)) = true := bne_iff_ne.mpr c8
         obtain rfl := Option.some.inj H
         have p261 : 0 ≤ (qA : Int) := of_decide_eq_true za
         have q261 : qA < (l0.length : Int) := of_decide_eq_true za
         obtain ⟨ad261, e261, hx261_0⟩ := Kd.at_int HR0.out qA p261 q261
         cases e261
         replace p261 := eq_true p261
         replace q261 := eq_true q261
         have p262 : 0 ≤ (qA : Int) := of_decide_eq_true za
         have q262 : qA < (l1.length : Int) := of_decide_eq_true za
         obtain ⟨ad262, e262, hx262_0⟩ := Kd.at_int HR1.out qA p262 q262
         cases e262
         replace p262 := eq_true p262
         replace q262 := eq_true q262
         go_wp2
         repeat (go_quiet (fail); try go_wp2)
         go_ret
         exact ⟨zT, by repeat (first | exact Drawn0.refl _ | apply Drawn0.step)⟩
       ·rw [if_neg c7] at H
        exact absurd H (by simp)
      ·rw [if_neg c6] at H
       exact absurd H (by simp)
     ·rw [if_neg c5] at H
      exact absurd H (by simp)
    ·rw [if_neg c4] at H
     have c4b0 := decide_eq_false c4
     clear c4
     obtain rfl := Option.some.inj H
     go_wp2
     repeat (go_quiet (fail); try go_wp2)
     go_ret
     exact ⟨zT, by repeat (first | exact Drawn0.refl _ | apply Drawn0.step)⟩
 ·rw [if_neg c3] at H
  have c3b0 : ((l0.length : Int) == (l1.length : Int)) = false := beq_eq_false_iff_ne.mpr c3
  have c3b1 : ((l0.length : Int) != (l1.length : Int)) = true := bne_iff_ne.mpr c3
  have c3b2 : (l0.length == l1.length) = false := by first | simpa using c3 | (simp at c3 ⊢; omega)
  obtain rfl := Option.some.inj H
  go_enter Try.func50, Try.ntmps50
  go_wp2
  repeat (go_quiet (fail); try go_wp2)
  go_ret
  exact ⟨zT, by repeat (first | exact Drawn0.refl _ | apply Drawn0.step)⟩
def prog_Same.f (k : Nat) (qH : Int) (qI : Int) (qJ : List (S63)) (qF : List Int) (qK : Int) (qL : Int) (qM : List (S63)) (qG : List Int) : Option (Bool) := if qH = qK then (if qI = qL then ((api_Instr.f k qJ qM).bind fun qP => (if qP = true then ((slices_Equal_int_int.f k qF qG).bind fun qO => (some qO)) else (some false))) else (some false)) else (some false)
theorem prog_Same.mono : ∀ a0 a1 a2 a3 a4 a5 a6 a7 k, LeO (prog_Same.f k a0 a1 a2 a3 a4 a5 a6 a7) (prog_Same.f (k + 1) a0 a1 a2 a3 a4 a5 a6 a7) := by
 intro a0 a1 a2 a3 a4 a5 a6 a7 k
 unfold prog_Same.f
 have im0 := @api_Instr.mono; have im1 := @slices_Equal_int_int.mono; exact zM
theorem prog_Same.calls (k : Nat) (qH : Int) (qI : Int) (qQ : Option Addr) (qR : Nat) (qJ : List (S63)) (qS : Option Addr) (qT : Nat) (qF : List Int) (qK : Int) (qL : Int) (qU : Option Addr) (qV : Nat) (qM : List (S63)) (qW : Option Addr) (qX : Nat) (qG : List Int) (r : Bool) (w : World) (qc : Kd.C k63 w qQ qJ.length qJ) (qd : qJ.length ≤ qR) (qe : Kd.C (Kd.int .i64) w qS qF.length qF) (qf : qF.length ≤ qT) (qg : Kd.C k63 w qU qM.length qM) (qh : qM.length ≤ qV) (qi : Kd.C (Kd.int .i64) w qW qG.length qG) (qj : qG.length ≤ qX) (h : prog_Same.f k qH qI qJ qF qK qL qM qG = some r) :
  Calls Try.prog 31 #[.agg #[.int .i64 qH, .int .i64 qI, .slice qQ qJ.length qR, .slice qS qF.length qT], .agg #[.int .i64 qK, .int .i64 qL, .slice qU qM.length qV, .slice qW qG.length qX]] w fun e w' => e = .returned (.bool r) ∧ Below w.heap.size w w' := by
 have hu26 := Try.underlying26
 have qk := aM qc
 have ql := aM qd
 clear qc qd
 have qo := aM qe
 have qp := aM qf
 clear qe qf
 have qm := aM qg
 have qn := aM qh
 clear qg qh
 have qq := aM qi
 have qr := aM qj
 clear qi qj
 have HB := aM (Below.refl w.heap.size w)
 have H : (if qH = qK then (if qI = qL then ((api_Instr.f k qJ qM).bind fun qP => (if qP = true then ((slices_Equal_int_int.f k qF qG).bind fun qO => (some qO)) else (some false))) else (some false)) else (some false)) = some r := h
 clear h
 by_cases c3 : qH = qK
 ·rw [if_pos c3] at H
  have c3b0 : (qH == qK) = true := beq_iff_eq.mpr c3
  have c3b1 : (qH != qK) = false := bne_eq_false_iff_eq.mpr c3
  clear c3
  by_cases c4 : qI = qL
  ·rw [if_pos c4] at H
   have c4b0 : (qI == qL) = true := beq_iff_eq.mpr c4
   have c4b1 : (qI != qL) = false := bne_eq_false_iff_eq.mpr c4
   clear c4
   replace H := zbs H
   obtain ⟨qP, A50, H⟩ := H
   replace H : (if qP = true then ((slices_Equal_int_int.f k qF qG).bind fun qO => (some qO)) else (some false)) = some r := H
   have A5 := aM A50
   clear A50
   by_cases c6 : qP = true
   ·subst c6
    have H1 : ((slices_Equal_int_int.f k qF qG).bind fun qO => (some qO)) = some r := by rw [if_pos rfl] at H; exact H
    clear H
    have H := H1
    clear H1
    replace H := zbs H
    obtain ⟨qO, A70, H⟩ := H
    replace H : (some qO) = some r := H
    have A7 := aM A70
    clear A70
    obtain rfl := Option.some.inj H
    go_enter Try.func31, Try.ntmps31
    go_wp2_with (first | ((with_reducible refine gate_dst (N := 2) rfl ?_); refine z16_ rfl (N := 2) rfl (cs := #[.int .i64 qH, .int .i64 qI, .slice qQ qJ.length qR, .slice qS qF.length qT]) (t := 26) zG ?_; intro qA hg w8 hbox hb; have qB := aM (hbox); have qY := aM ((by rw [hg]; exact (z4_ (lB HB)) : w.heap.size ≤ qA)); have qZ := aM ((by rw [hg]; exact (z4_ (lB HB)) : w.heap.size ≤ qA)); replace HB := aM (z6_ (lB HB) hb); clear hb hbox hg) | ((with_reducible refine gate_dst (N := 3) rfl ?_); refine z16_ rfl (N := 3) rfl (cs := #[.int .i64 qK, .int .i64 qL, .slice qU qM.length qV, .slice qW qG.length qX]) (t := 26) zG ?_; intro qC hg w9 hbox hb; have qN := aM (hbox); have qa := aM ((by rw [hg]; exact (z4_ (zB HB)) : w.heap.size ≤ qC)); have qb := aM ((by rw [hg]; exact (z4_ (zB HB)) : w.heap.size ≤ qC)); replace HB := aM (z6_ (zB HB) hb); have qD := aM ((by rw [hg]; exact Nat.ne_of_lt (z19_ (g := qA) (lK qB)) : qA ≠ qC)); have qE := aM ((by rw [hg]; exact Nat.ne_of_gt (z19_ (g := qA) (lK qB)) : qC ≠ qA)); replace qB := aM (z5_ (g := qA) (lK qB) hb); clear hb hbox hg; have q8 := qD.out; have q9 := qE.out; have qs := zc4 qB.out; have qt := fun i_ : Nat => z1_ qB.out i_; have qu := zc4 qN.out; have qv := fun i_ : Nat => z1_ qN.out i_) | (go_at_call 49; (with_reducible refine (api_Instr.calls k _ _ qJ _ _ qM true _ ?side1 ?side2 ?side3 ?side4 A5.out).mono ?_); (case side1 => refine lY ?_; exact (Kd.z8_ qk.out HB.out)); (case side2 => exact ql.out); (case side3 => refine lY ?_; exact (Kd.z8_ qm.out HB.out)); (case side4 => exact qn.out); rintro e w' ⟨rfl, ⟨nd, rfl⟩⟩) | (go_at_call 50; (with_reducible refine (slices_Equal_int_int.calls k _ _ qF _ _ qG qO _ ?side1 ?side2 ?side3 ?side4 A7.out).mono ?_); (case side1 => refine lY ?_; exact (Kd.z8_ qo.out (zB HB))); (case side2 => exact qp.out); (case side3 => refine lY ?_; exact (Kd.z8_ qq.out (zB HB))); (case side4 => exact qr.out); rintro e w' ⟨rfl, ⟨nd, rfl⟩⟩))
    go_ret
    exact ⟨zE, zB HB⟩
   ·replace c6 := Bool.eq_false_iff.mpr c6
    subst c6
    have H1 : (some false) = some r := by rw [if_neg (show ¬ (false = true) by decide)] at H; exact H
    clear H
    have H := H1
    clear H1
    obtain rfl := Option.some.inj H
    go_enter Try.func31, Try.ntmps31
    go_wp2_with (first | ((with_reducible refine gate_dst (N := 2) rfl ?_); refine z16_ rfl (N := 2) rfl (cs := #[.int .i64 qH, .int .i64 qI, .slice qQ qJ.length qR, .slice qS qF.length qT]) (t := 26) zG ?_; intro qA hg w13 hbox hb; have qB := aM (hbox); have qY := aM ((by rw [hg]; exact (z4_ (lB HB)) : w.heap.size ≤ qA)); have qZ := aM ((by rw [hg]; exact (z4_ (lB HB)) : w.heap.size ≤ qA)); replace HB := aM (z6_ (lB HB) hb); clear hb hbox hg) | ((with_reducible refine gate_dst (N := 3) rfl ?_); refine z16_ rfl (N := 3) rfl (cs := #[.int .i64 qK, .int .i64 qL, .slice qU qM.length qV, .slice qW qG.length qX]) (t := 26) zG ?_; intro qC hg w14 hbox hb; have qN := aM (hbox); have qa := aM ((by rw [hg]; exact (z4_ (zB HB)) : w.heap.size ≤ qC)); have qb := aM ((by rw [hg]; exact (z4_ (zB HB)) : w.heap.size ≤ qC)); replace HB := aM (z6_ (zB HB) hb); have qD := aM ((by rw [hg]; exact Nat.ne_of_lt (z19_ (g := qA) (lK qB)) : qA ≠ qC)); have qE := aM ((by rw [hg]; exact Nat.ne_of_gt (z19_ (g := qA) (lK qB)) : qC ≠ qA)); replace qB := aM (z5_ (g := qA) (lK qB) hb); clear hb hbox hg; have jA := qD.out; have jB := qE.out; have qw := zc4 qB.out; have qx := fun i_ : Nat => z1_ qB.out i_; have qy := zc4 qN.out; have qz := fun i_ : Nat => z1_ qN.out i_) | (go_at_call 49; (with_reducible refine (api_Instr.calls k _ _ qJ _ _ qM false _ ?side1 ?side2 ?side3 ?side4 A5.out).mono ?_); (case side1 => refine lY ?_; exact (Kd.z8_ qk.out HB.out)); (case side2 => exact ql.out); (case side3 => refine lY ?_; exact (Kd.z8_ qm.out HB.out)); (case side4 => exact qn.out); rintro e w' ⟨rfl, ⟨nd, rfl⟩⟩))
    go_ret
    exact ⟨zE, zB HB⟩
  ·rw [if_neg c4] at H
   have c4b0 : (qI == qL) = false := beq_eq_false_iff_ne.mpr c4
   have c4b1 : (qI != qL) = true := bne_iff_ne.mpr c4
   obtain rfl := Option.some.inj H
   go_enter Try.func31, Try.ntmps31
   go_wp2_with (first | ((with_reducible refine gate_dst (N := 2) rfl ?_); refine z16_ rfl (N := 2) rfl (cs := #[.int .i64 qH, .int .i64 qI, .slice qQ qJ.length qR, .slice qS qF.length qT]) (t := 26) zG ?_; intro qA hg w18 hbox hb; have qB := aM (hbox); have qY := aM ((by rw [hg]; exact (z4_ (lB HB)) : w.heap.size ≤ qA)); have qZ := aM ((by rw [hg]; exact (z4_ (lB HB)) : w.heap.size ≤ qA)); replace HB := aM (z6_ (lB HB) hb); clear hb hbox hg) | ((with_reducible refine gate_dst (N := 3) rfl ?_); refine z16_ rfl (N := 3) rfl (cs := #[.int .i64 qK, .int .i64 qL, .slice qU qM.length qV, .slice qW qG.length qX]) (t := 26) zG ?_; intro qC hg w19 hbox hb; have qN := aM (hbox); have qa := aM ((by rw [hg]; exact (z4_ (zB HB)) : w.heap.size ≤ qC)); have qb := aM ((by rw [hg]; exact (z4_ (zB HB)) : w.heap.size ≤ qC)); replace HB := aM (z6_ (zB HB) hb); have qD := aM ((by rw [hg]; exact Nat.ne_of_lt (z19_ (g := qA) (lK qB)) : qA ≠ qC)); have qE := aM ((by rw [hg]; exact Nat.ne_of_gt (z19_ (g := qA) (lK qB)) : qC ≠ qA)); replace qB := aM (z5_ (g := qA) (lK qB) hb); clear hb hbox hg; have jC := qD.out; have jD := qE.out; have q0 := zc4 qB.out; have q1 := fun i_ : Nat => z1_ qB.out i_; have q2 := zc4 qN.out; have q3 := fun i_ : Nat => z1_ qN.out i_))
   go_ret
   exact ⟨zE, zB HB⟩
 ·rw [if_neg c3] at H
  have c3b0 : (qH == qK) = false := beq_eq_false_iff_ne.mpr c3
  have c3b1 : (qH != qK) = true := bne_iff_ne.mpr c3
  obtain rfl := Option.some.inj H
  go_enter Try.func31, Try.ntmps31
  go_wp2_with (first | ((with_reducible refine gate_dst (N := 2) rfl ?_); refine z16_ rfl (N := 2) rfl (cs := #[.int .i64 qH, .int .i64 qI, .slice qQ qJ.length qR, .slice qS qF.length qT]) (t := 26) zG ?_; intro qA hg w23 hbox hb; have qB := aM (hbox); have qY := aM ((by rw [hg]; exact (z4_ (lB HB)) : w.heap.size ≤ qA)); have qZ := aM ((by rw [hg]; exact (z4_ (lB HB)) : w.heap.size ≤ qA)); replace HB := aM (z6_ (lB HB) hb); clear hb hbox hg) | ((with_reducible refine gate_dst (N := 3) rfl ?_); refine z16_ rfl (N := 3) rfl (cs := #[.int .i64 qK, .int .i64 qL, .slice qU qM.length qV, .slice qW qG.length qX]) (t := 26) zG ?_; intro qC hg w24 hbox hb; have qN := aM (hbox); have qa := aM ((by rw [hg]; exact (z4_ (zB HB)) : w.heap.size ≤ qC)); have qb := aM ((by rw [hg]; exact (z4_ (zB HB)) : w.heap.size ≤ qC)); replace HB := aM (z6_ (zB HB) hb); have qD := aM ((by rw [hg]; exact Nat.ne_of_lt (z19_ (g := qA) (lK qB)) : qA ≠ qC)); have qE := aM ((by rw [hg]; exact Nat.ne_of_gt (z19_ (g := qA) (lK qB)) : qC ≠ qA)); replace qB := aM (z5_ (g := qA) (lK qB) hb); clear hb hbox hg; have jE := qD.out; have jF := qE.out; have q4 := zc4 qB.out; have q5 := fun i_ : Nat => z1_ qB.out i_; have q6 := zc4 qN.out; have q7 := fun i_ : Nat => z1_ qN.out i_))
  go_ret
  exact ⟨zE, zB HB⟩
def code_Same.f (k : Nat) (qd : Int) (qe : Int) (qW : List (S48)) (qf : Int) (qg : Int) (qS : List (S63)) (qT : List Int) (qZ : Int) (qa : Int) (qQ : List (S63)) (qK : List Int) (qM : Int) (qN : Int) (qE : List (S63)) (qF : List Int) (qh : Int) (qi : Int) (qX : List (S48)) (qj : Int) (qk : Int) (qU : List (S63)) (qV : List Int) (qb : Int) (qc : Int) (qR : List (S63)) (qL : List Int) (qO : Int) (qP : Int) (qG : List (S63)) (qH : List Int) : Option (Bool) := if qd = qh then (if qe = qi then ((api_Point_30.f k qW qX).bind fun jK => (if jK = true then ((prog_Same.f k qf qg qS qT qj qk qU qV).bind fun qy => (if qy = true then ((prog_Same.f k qZ qa qQ qK qb qc qR qL).bind fun ql => (if ql = true then ((prog_Same.f k qM qN qE qF qO qP qG qH).bind fun qY => (some qY)) else (some false))) else (some false))) else (some false))) else (some false)) else (some false)
theorem code_Same.mono : ∀ a0 a1 a2 a3 a4 a5 a6 a7 a8 a9 a10 a11 a12 a13 a14 a15 a16 a17 a18 a19 a20 a21 a22 a23 a24 a25 a26 a27 a28 a29 k, LeO (code_Same.f k a0 a1 a2 a3 a4 a5 a6 a7 a8 a9 a10 a11 a12 a13 a14 a15 a16 a17 a18 a19 a20 a21 a22 a23 a24 a25 a26 a27 a28 a29) (code_Same.f (k + 1) a0 a1 a2 a3 a4 a5 a6 a7 a8 a9 a10 a11 a12 a13 a14 a15 a16 a17 a18 a19 a20 a21 a22 a23 a24 a25 a26 a27 a28 a29) := by
 intro a0 a1 a2 a3 a4 a5 a6 a7 a8 a9 a10 a11 a12 a13 a14 a15 a16 a17 a18 a19 a20 a21 a22 a23 a24 a25 a26 a27 a28 a29 k
 unfold code_Same.f
 have im0 := @api_Point_30.mono; have im1 := @prog_Same.mono; exact zM
theorem code_Same.calls (k : Nat) (qd : Int) (qe : Int) (qz : Option Addr) (q0 : Nat) (qW : List (S48)) (qf : Int) (qg : Int) (q1 : Option Addr) (q2 : Nat) (qS : List (S63)) (q3 : Option Addr) (q4 : Nat) (qT : List Int) (qZ : Int) (qa : Int) (q5 : Option Addr) (q6 : Nat) (qQ : List (S63)) (qm : Option Addr) (qn : Nat) (qK : List Int) (qM : Int) (qN : Int) (qo : Option Addr) (qp : Nat) (qE : List (S63)) (qq : Option Addr) (qr : Nat) (qF : List Int) (qh : Int) (qi : Int) (q7 : Option Addr) (q8 : Nat) (qX : List (S48)) (qj : Int) (qk : Int) (q9 : Option Addr) (jA : Nat) (qU : List (S63)) (jB : Option Addr) (jC : Nat) (qV : List Int) (qb : Int) (qc : Int) (jD : Option Addr) (jE : Nat) (qR : List (S63)) (qs : Option Addr) (qt : Nat) (qL : List Int) (qO : Int) (qP : Int) (qu : Option Addr) (qv : Nat) (qG : List (S63)) (qw : Option Addr) (qx : Nat) (qH : List Int) (r : Bool) (w : World) (jo : Kd.C k48 w qz qW.length qW) (jp : qW.length ≤ q0) (jq : Kd.C k63 w q1 qS.length qS) (jr : qS.length ≤ q2) (js : Kd.C (Kd.int .i64) w q3 qT.length qT) (jt : qT.length ≤ q4) (ju : Kd.C k63 w q5 qQ.length qQ) (jv : qQ.length ≤ q6) (jY : Kd.C (Kd.int .i64) w qm qK.length qK) (jZ : qK.length ≤ qn) (ja : Kd.C k63 w qo qE.length qE) (jb : qE.length ≤ qp) (jc : Kd.C (Kd.int .i64) w qq qF.length qF) (jd : qF.length ≤ qr) (jw : Kd.C k48 w q7 qX.length qX) (jx : qX.length ≤ q8) (jy : Kd.C k63 w q9 qU.length qU) (jz : qU.length ≤ jA) (j0 : Kd.C (Kd.int .i64) w jB qV.length qV) (j1 : qV.length ≤ jC) (j2 : Kd.C k63 w jD qR.length qR) (j3 : qR.length ≤ jE) (je : Kd.C (Kd.int .i64) w qs qL.length qL) (jf : qL.length ≤ qt) (jg : Kd.C k63 w qu qG.length qG) (jh : qG.length ≤ qv) (ji : Kd.C (Kd.int .i64) w qw qH.length qH) (jj : qH.length ≤ qx) (h : code_Same.f k qd qe qW qf qg qS qT qZ qa qQ qK qM qN qE qF qh qi qX qj qk qU qV qb qc qR qL qO qP qG qH = some r) :
  Calls Try.prog 14 #[.agg #[.int .i64 qd, .int .i64 qe, .slice qz qW.length q0, .int .i64 qf, .int .i64 qg, .slice q1 qS.length q2, .slice q3 qT.length q4, .int .i64 qZ, .int .i64 qa, .slice q5 qQ.length q6, .slice qm qK.length qn, .int .i64 qM, .int .i64 qN, .slice qo qE.length qp, .slice qq qF.length qr], .agg #[.int .i64 qh, .int .i64 qi, .slice q7 qX.length q8, .int .i64 qj, .int .i64 qk, .slice q9 qU.length jA, .slice jB qV.length jC, .int .i64 qb, .int .i64 qc, .slice jD qR.length jE, .slice qs qL.length qt, .int .i64 qO, .int .i64 qP, .slice qu qG.length qv, .slice qw qH.length qx]] w fun e w' => e = .returned (.bool r) ∧ Below w.heap.size w w' := by
 have hu28 := Try.underlying28
 have hu26 := Try.underlying26
 have jL := aM jo
 have jM := aM jp
 clear jo jp
 have jQ := aM jq
 have jR := aM jr
 clear jq jr
 have jS := aM js
 have jT := aM jt
 clear js jt
 have j4 := aM ju
 have j5 := aM jv
 clear ju jv
 have jk := aM jY
 have jl := aM jZ
 clear jY jZ
 have j9 := aM ja
 have yA := aM jb
 clear ja jb
 have yB := aM jc
 have yC := aM jd
 clear jc jd
 have jN := aM jw
 have jO := aM jx
 clear jw jx
 have jU := aM jy
 have jV := aM jz
 clear jy jz
 have jW := aM j0
 have jX := aM j1
 clear j0 j1
 have j6 := aM j2
 have j7 := aM j3
 clear j2 j3
 have jm := aM je
 have jn := aM jf
 clear je jf
 have yD := aM jg
 have yE := aM jh
 clear jg jh
 have yF := aM ji
 have yG := aM jj
 clear ji jj
 have HB := aM (Below.refl w.heap.size w)
 have H : (if qd = qh then (if qe = qi then ((api_Point_30.f k qW qX).bind fun jK => (if jK = true then ((prog_Same.f k qf qg qS qT qj qk qU qV).bind fun qy => (if qy = true then ((prog_Same.f k qZ qa qQ qK qb qc qR qL).bind fun ql => (if ql = true then ((prog_Same.f k qM qN qE qF qO qP qG qH).bind fun qY => (some qY)) else (some false))) else (some false))) else (some false))) else (some false)) else (some false)) = some r := h
 clear h
 by_cases c3 : qd = qh
 ·rw [if_pos c3] at H
  have c3b0 : (qd == qh) = true := beq_iff_eq.mpr c3
  have c3b1 : (qd != qh) = false := bne_eq_false_iff_eq.mpr c3
  clear c3
  by_cases c4 : qe = qi
  ·rw [if_pos c4] at H
   have c4b0 : (qe == qi) = true := beq_iff_eq.mpr c4
   have c4b1 : (qe != qi) = false := bne_eq_false_iff_eq.mpr c4
   clear c4
   replace H := zbs H
   obtain ⟨jK, A50, H⟩ := H
   replace H : (if jK = true then ((prog_Same.f k qf qg qS qT qj qk qU qV).bind fun qy => (if qy = true then ((prog_Same.f k qZ qa qQ qK qb qc qR qL).bind fun ql => (if ql = true then ((prog_Same.f k qM qN qE qF qO qP qG qH).bind fun qY => (some qY)) else (some false))) else (some false))) else (some false)) = some r := H
   have A5 := aM A50
   clear A50
   by_cases c6 : jK = true
   ·subst c6
    have H1 : ((prog_Same.f k qf qg qS qT qj qk qU qV).bind fun qy => (if qy = true then ((prog_Same.f k qZ qa qQ qK qb qc qR qL).bind fun ql => (if ql = true then ((prog_Same.f k qM qN qE qF qO qP qG qH).bind fun qY => (some qY)) else (some false))) else (some false))) = some r := by rw [if_pos rfl] at H; exact H
    clear H
    have H := H1
    clear H1
    replace H := zbs H
    obtain ⟨qy, A70, H⟩ := H
    replace H : (if qy = true then ((prog_Same.f k qZ qa qQ qK qb qc qR qL).bind fun ql => (if ql = true then ((prog_Same.f k qM qN qE qF qO qP qG qH).bind fun qY => (some qY)) else (some false))) else (some false)) = some r := H
    have A7 := aM A70
    clear A70
    by_cases c8 : qy = true
    ·subst c8
     have H1 : ((prog_Same.f k qZ qa qQ qK qb qc qR qL).bind fun ql => (if ql = true then ((prog_Same.f k qM qN qE qF qO qP qG qH).bind fun qY => (some qY)) else (some false))) = some r := by rw [if_pos rfl] at H; exact H
     clear H
     have H := H1
     clear H1
     replace H := zbs H
     obtain ⟨ql, A90, H⟩ := H
     replace H : (if ql = true then ((prog_Same.f k qM qN qE qF qO qP qG qH).bind fun qY => (some qY)) else (some false)) = some r := H
     have A9 := aM A90
     clear A90
     by_cases c10 : ql = true
     ·subst c10
      have H1 : ((prog_Same.f k qM qN qE qF qO qP qG qH).bind fun qY => (some qY)) = some r := by rw [if_pos rfl] at H; exact H
      clear H
      have H := H1
      clear H1
      replace H := zbs H
      obtain ⟨qY, A110, H⟩ := H
      replace H : (some qY) = some r := H
      have A11 := aM A110
      clear A110
      obtain rfl := Option.some.inj H
      go_enter Try.func14, Try.ntmps14
      go_wp2_with (first | ((with_reducible refine gate_dst (N := 2) rfl ?_); refine z16_ rfl (N := 2) rfl (cs := #[.int .i64 qd, .int .i64 qe, .slice qz qW.length q0, .int .i64 qf, .int .i64 qg, .slice q1 qS.length q2, .slice q3 qT.length q4, .int .i64 qZ, .int .i64 qa, .slice q5 qQ.length q6, .slice qm qK.length qn, .int .i64 qM, .int .i64 qN, .slice qo qE.length qp, .slice qq qF.length qr]) (t := 28) zG ?_; intro qB hg w12 hbox hb; have qA := aM (hbox); have jG := aM ((by rw [hg]; exact (z4_ (lB HB)) : w.heap.size ≤ qB)); have jH := aM ((by rw [hg]; exact (z4_ (lB HB)) : w.heap.size ≤ qB)); replace HB := aM (z6_ (lB HB) hb); clear hb hbox hg) | ((with_reducible refine gate_dst (N := 3) rfl ?_); refine z16_ rfl (N := 3) rfl (cs := #[.int .i64 qh, .int .i64 qi, .slice q7 qX.length q8, .int .i64 qj, .int .i64 qk, .slice q9 qU.length jA, .slice jB qV.length jC, .int .i64 qb, .int .i64 qc, .slice jD qR.length jE, .slice qs qL.length qt, .int .i64 qO, .int .i64 qP, .slice qu qG.length qv, .slice qw qH.length qx]) (t := 28) zG ?_; intro qC hg w13 hbox hb; have qD := aM (hbox); have jI := aM ((by rw [hg]; exact (z4_ (zB HB)) : w.heap.size ≤ qC)); have jJ := aM ((by rw [hg]; exact (z4_ (zB HB)) : w.heap.size ≤ qC)); replace HB := aM (z6_ (zB HB) hb); have qI := aM ((by rw [hg]; exact Nat.ne_of_lt (z19_ (g := qB) (lK qA)) : qB ≠ qC)); have qJ := aM ((by rw [hg]; exact Nat.ne_of_gt (z19_ (g := qB) (lK qA)) : qC ≠ qB)); replace qA := aM (z5_ (g := qB) (lK qA) hb); clear hb hbox hg; have yt := qI.out; have yu := qJ.out; have yH := zc15 qA.out; have yI := fun i_ : Nat => z1_ qA.out i_; have yJ := zc15 qD.out; have yK := fun i_ : Nat => z1_ qD.out i_) | (go_at_call 30; (with_reducible refine (api_Point_30.calls k _ _ qW _ _ qX true _ ?side1 ?side2 ?side3 ?side4 A5.out).mono ?_); (case side1 => refine lY ?_; exact (Kd.z8_ jL.out HB.out)); (case side2 => exact jM.out); (case side3 => refine lY ?_; exact (Kd.z8_ jN.out HB.out)); (case side4 => exact jO.out); rintro e w' ⟨rfl, ⟨nd, rfl⟩⟩) | (go_at_call 31; (with_reducible refine (prog_Same.calls k qf qg _ _ qS _ _ qT qj qk _ _ qU _ _ qV true _ ?side1 ?side2 ?side3 ?side4 ?side5 ?side6 ?side7 ?side8 A7.out).mono ?_); (case side1 => refine lY ?_; exact (Kd.z8_ jQ.out (zB HB))); (case side2 => exact jR.out); (case side3 => refine lY ?_; exact (Kd.z8_ jS.out (zB HB))); (case side4 => exact jT.out); (case side5 => refine lY ?_; exact (Kd.z8_ jU.out (zB HB))); (case side6 => exact jV.out); (case side7 => refine lY ?_; exact (Kd.z8_ jW.out (zB HB))); (case side8 => exact jX.out); rintro e w17 ⟨rfl, hb⟩; replace qA := aM (z5_ (g := qB) (lK qA) hb); replace qD := aM (z5_ (g := qC) (lK qD) hb); replace HB := aM (z6_ (zB HB) hb); (try clear hb); have yL := zc15 qA.out; have yM := fun i_ : Nat => z1_ qA.out i_; have yN := zc15 qD.out; have yO := fun i_ : Nat => z1_ qD.out i_) | (go_at_call 31; (with_reducible refine (prog_Same.calls k qZ qa _ _ qQ _ _ qK qb qc _ _ qR _ _ qL true _ ?side1 ?side2 ?side3 ?side4 ?side5 ?side6 ?side7 ?side8 A9.out).mono ?_); (case side1 => refine lY ?_; exact (Kd.z8_ j4.out HB.out)); (case side2 => exact j5.out); (case side3 => refine lY ?_; exact (Kd.z8_ jk.out HB.out)); (case side4 => exact jl.out); (case side5 => refine lY ?_; exact (Kd.z8_ j6.out HB.out)); (case side6 => exact j7.out); (case side7 => refine lY ?_; exact (Kd.z8_ jm.out HB.out)); (case side8 => exact jn.out); rintro e w20 ⟨rfl, hb⟩; replace qA := aM (z5_ (g := qB) (lK qA) hb); replace qD := aM (z5_ (g := qC) (lK qD) hb); replace HB := aM (z6_ (zB HB) hb); (try clear hb); have yP := zc15 qA.out; have yQ := fun i_ : Nat => z1_ qA.out i_; have yR := zc15 qD.out; have yS := fun i_ : Nat => z1_ qD.out i_) | (go_at_call 31; (with_reducible refine (prog_Same.calls k qM qN _ _ qE _ _ qF qO qP _ _ qG _ _ qH qY _ ?side1 ?side2 ?side3 ?side4 ?side5 ?side6 ?side7 ?side8 A11.out).mono ?_); (case side1 => refine lY ?_; exact (Kd.z8_ j9.out HB.out)); (case side2 => exact yA.out); (case side3 => refine lY ?_; exact (Kd.z8_ yB.out HB.out)); (case side4 => exact yC.out); (case side5 => refine lY ?_; exact (Kd.z8_ yD.out HB.out)); (case side6 => exact yE.out); (case side7 => refine lY ?_; exact (Kd.z8_ yF.out HB.out)); (case side8 => exact yG.out); rintro e w23 ⟨rfl, hb⟩; replace qA := aM (z5_ (g := qB) (lK qA) hb); replace qD := aM (z5_ (g := qC) (lK qD) hb); replace HB := aM (z6_ (zB HB) hb); (try clear hb)))
      go_ret
      exact ⟨zE, zB HB⟩
     ·replace c10 := Bool.eq_false_iff.mpr c10
      subst c10
      have H1 : (some false) = some r := by rw [if_neg (show ¬ (false = true) by decide)] at H; exact H
      clear H
      have H := H1
      clear H1
      obtain rfl := Option.some.inj H
      go_enter Try.func14, Try.ntmps14
      go_wp2_with (first | ((with_reducible refine gate_dst (N := 2) rfl ?_); refine z16_ rfl (N := 2) rfl (cs := #[.int .i64 qd, .int .i64 qe, .slice qz qW.length q0, .int .i64 qf, .int .i64 qg, .slice q1 qS.length q2, .slice q3 qT.length q4, .int .i64 qZ, .int .i64 qa, .slice q5 qQ.length q6, .slice qm qK.length qn, .int .i64 qM, .int .i64 qN, .slice qo qE.length qp, .slice qq qF.length qr]) (t := 28) zG ?_; intro qB hg w24 hbox hb; have qA := aM (hbox); have jG := aM ((by rw [hg]; exact (z4_ (lB HB)) : w.heap.size ≤ qB)); have jH := aM ((by rw [hg]; exact (z4_ (lB HB)) : w.heap.size ≤ qB)); replace HB := aM (z6_ (lB HB) hb); clear hb hbox hg) | ((with_reducible refine gate_dst (N := 3) rfl ?_); refine z16_ rfl (N := 3) rfl (cs := #[.int .i64 qh, .int .i64 qi, .slice q7 qX.length q8, .int .i64 qj, .int .i64 qk, .slice q9 qU.length jA, .slice jB qV.length jC, .int .i64 qb, .int .i64 qc, .slice jD qR.length jE, .slice qs qL.length qt, .int .i64 qO, .int .i64 qP, .slice qu qG.length qv, .slice qw qH.length qx]) (t := 28) zG ?_; intro qC hg w25 hbox hb; have qD := aM (hbox); have jI := aM ((by rw [hg]; exact (z4_ (zB HB)) : w.heap.size ≤ qC)); have jJ := aM ((by rw [hg]; exact (z4_ (zB HB)) : w.heap.size ≤ qC)); replace HB := aM (z6_ (zB HB) hb); have qI := aM ((by rw [hg]; exact Nat.ne_of_lt (z19_ (g := qB) (lK qA)) : qB ≠ qC)); have qJ := aM ((by rw [hg]; exact Nat.ne_of_gt (z19_ (g := qB) (lK qA)) : qC ≠ qB)); replace qA := aM (z5_ (g := qB) (lK qA) hb); clear hb hbox hg; have yv := qI.out; have yw := qJ.out; have yT := zc15 qA.out; have yU := fun i_ : Nat => z1_ qA.out i_; have yV := zc15 qD.out; have yW := fun i_ : Nat => z1_ qD.out i_) | (go_at_call 30; (with_reducible refine (api_Point_30.calls k _ _ qW _ _ qX true _ ?side1 ?side2 ?side3 ?side4 A5.out).mono ?_); (case side1 => refine lY ?_; exact (Kd.z8_ jL.out HB.out)); (case side2 => exact jM.out); (case side3 => refine lY ?_; exact (Kd.z8_ jN.out HB.out)); (case side4 => exact jO.out); rintro e w' ⟨rfl, ⟨nd, rfl⟩⟩) | (go_at_call 31; (with_reducible refine (prog_Same.calls k qf qg _ _ qS _ _ qT qj qk _ _ qU _ _ qV true _ ?side1 ?side2 ?side3 ?side4 ?side5 ?side6 ?side7 ?side8 A7.out).mono ?_); (case side1 => refine lY ?_; exact (Kd.z8_ jQ.out (zB HB))); (case side2 => exact jR.out); (case side3 => refine lY ?_; exact (Kd.z8_ jS.out (zB HB))); (case side4 => exact jT.out); (case side5 => refine lY ?_; exact (Kd.z8_ jU.out (zB HB))); (case side6 => exact jV.out); (case side7 => refine lY ?_; exact (Kd.z8_ jW.out (zB HB))); (case side8 => exact jX.out); rintro e w29 ⟨rfl, hb⟩; replace qA := aM (z5_ (g := qB) (lK qA) hb); replace qD := aM (z5_ (g := qC) (lK qD) hb); replace HB := aM (z6_ (zB HB) hb); (try clear hb); have yX := zc15 qA.out; have yY := fun i_ : Nat => z1_ qA.out i_; have yZ := zc15 qD.out; have ya := fun i_ : Nat => z1_ qD.out i_) | (go_at_call 31; (with_reducible refine (prog_Same.calls k qZ qa _ _ qQ _ _ qK qb qc _ _ qR _ _ qL false _ ?side1 ?side2 ?side3 ?side4 ?side5 ?side6 ?side7 ?side8 A9.out).mono ?_); (case side1 => refine lY ?_; exact (Kd.z8_ j4.out HB.out)); (case side2 => exact j5.out); (case side3 => refine lY ?_; exact (Kd.z8_ jk.out HB.out)); (case side4 => exact jl.out); (case side5 => refine lY ?_; exact (Kd.z8_ j6.out HB.out)); (case side6 => exact j7.out); (case side7 => refine lY ?_; exact (Kd.z8_ jm.out HB.out)); (case side8 => exact jn.out); rintro e w32 ⟨rfl, hb⟩; replace qA := aM (z5_ (g := qB) (lK qA) hb); replace qD := aM (z5_ (g := qC) (lK qD) hb); replace HB := aM (z6_ (zB HB) hb); (try clear hb)))
      go_ret
      exact ⟨zE, zB HB⟩
    ·replace c8 := Bool.eq_false_iff.mpr c8
     subst c8
     have H1 : (some false) = some r := by rw [if_neg (show ¬ (false = true) by decide)] at H; exact H
     clear H
     have H := H1
     clear H1
     obtain rfl := Option.some.inj H
     go_enter Try.func14, Try.ntmps14
     go_wp2_with (first | ((with_reducible refine gate_dst (N := 2) rfl ?_); refine z16_ rfl (N := 2) rfl (cs := #[.int .i64 qd, .int .i64 qe, .slice qz qW.length q0, .int .i64 qf, .int .i64 qg, .slice q1 qS.length q2, .slice q3 qT.length q4, .int .i64 qZ, .int .i64 qa, .slice q5 qQ.length q6, .slice qm qK.length qn, .int .i64 qM, .int .i64 qN, .slice qo qE.length qp, .slice qq qF.length qr]) (t := 28) zG ?_; intro qB hg w33 hbox hb; have qA := aM (hbox); have jG := aM ((by rw [hg]; exact (z4_ (lB HB)) : w.heap.size ≤ qB)); have jH := aM ((by rw [hg]; exact (z4_ (lB HB)) : w.heap.size ≤ qB)); replace HB := aM (z6_ (lB HB) hb); clear hb hbox hg) | ((with_reducible refine gate_dst (N := 3) rfl ?_); refine z16_ rfl (N := 3) rfl (cs := #[.int .i64 qh, .int .i64 qi, .slice q7 qX.length q8, .int .i64 qj, .int .i64 qk, .slice q9 qU.length jA, .slice jB qV.length jC, .int .i64 qb, .int .i64 qc, .slice jD qR.length jE, .slice qs qL.length qt, .int .i64 qO, .int .i64 qP, .slice qu qG.length qv, .slice qw qH.length qx]) (t := 28) zG ?_; intro qC hg w34 hbox hb; have qD := aM (hbox); have jI := aM ((by rw [hg]; exact (z4_ (zB HB)) : w.heap.size ≤ qC)); have jJ := aM ((by rw [hg]; exact (z4_ (zB HB)) : w.heap.size ≤ qC)); replace HB := aM (z6_ (zB HB) hb); have qI := aM ((by rw [hg]; exact Nat.ne_of_lt (z19_ (g := qB) (lK qA)) : qB ≠ qC)); have qJ := aM ((by rw [hg]; exact Nat.ne_of_gt (z19_ (g := qB) (lK qA)) : qC ≠ qB)); replace qA := aM (z5_ (g := qB) (lK qA) hb); clear hb hbox hg; have yx := qI.out; have yy := qJ.out; have yb := zc15 qA.out; have yc := fun i_ : Nat => z1_ qA.out i_; have yd := zc15 qD.out; have ye := fun i_ : Nat => z1_ qD.out i_) | (go_at_call 30; (with_reducible refine (api_Point_30.calls k _ _ qW _ _ qX true _ ?side1 ?side2 ?side3 ?side4 A5.out).mono ?_); (case side1 => refine lY ?_; exact (Kd.z8_ jL.out HB.out)); (case side2 => exact jM.out); (case side3 => refine lY ?_; exact (Kd.z8_ jN.out HB.out)); (case side4 => exact jO.out); rintro e w' ⟨rfl, ⟨nd, rfl⟩⟩) | (go_at_call 31; (with_reducible refine (prog_Same.calls k qf qg _ _ qS _ _ qT qj qk _ _ qU _ _ qV false _ ?side1 ?side2 ?side3 ?side4 ?side5 ?side6 ?side7 ?side8 A7.out).mono ?_); (case side1 => refine lY ?_; exact (Kd.z8_ jQ.out (zB HB))); (case side2 => exact jR.out); (case side3 => refine lY ?_; exact (Kd.z8_ jS.out (zB HB))); (case side4 => exact jT.out); (case side5 => refine lY ?_; exact (Kd.z8_ jU.out (zB HB))); (case side6 => exact jV.out); (case side7 => refine lY ?_; exact (Kd.z8_ jW.out (zB HB))); (case side8 => exact jX.out); rintro e w38 ⟨rfl, hb⟩; replace qA := aM (z5_ (g := qB) (lK qA) hb); replace qD := aM (z5_ (g := qC) (lK qD) hb); replace HB := aM (z6_ (zB HB) hb); (try clear hb)))
     go_ret
     exact ⟨zE, zB HB⟩
   ·replace c6 := Bool.eq_false_iff.mpr c6
    subst c6
    have H1 : (some false) = some r := by rw [if_neg (show ¬ (false = true) by decide)] at H; exact H
    clear H
    have H := H1
    clear H1
    obtain rfl := Option.some.inj H
    go_enter Try.func14, Try.ntmps14
    go_wp2_with (first | ((with_reducible refine gate_dst (N := 2) rfl ?_); refine z16_ rfl (N := 2) rfl (cs := #[.int .i64 qd, .int .i64 qe, .slice qz qW.length q0, .int .i64 qf, .int .i64 qg, .slice q1 qS.length q2, .slice q3 qT.length q4, .int .i64 qZ, .int .i64 qa, .slice q5 qQ.length q6, .slice qm qK.length qn, .int .i64 qM, .int .i64 qN, .slice qo qE.length qp, .slice qq qF.length qr]) (t := 28) zG ?_; intro qB hg w39 hbox hb; have qA := aM (hbox); have jG := aM ((by rw [hg]; exact (z4_ (lB HB)) : w.heap.size ≤ qB)); have jH := aM ((by rw [hg]; exact (z4_ (lB HB)) : w.heap.size ≤ qB)); replace HB := aM (z6_ (lB HB) hb); clear hb hbox hg) | ((with_reducible refine gate_dst (N := 3) rfl ?_); refine z16_ rfl (N := 3) rfl (cs := #[.int .i64 qh, .int .i64 qi, .slice q7 qX.length q8, .int .i64 qj, .int .i64 qk, .slice q9 qU.length jA, .slice jB qV.length jC, .int .i64 qb, .int .i64 qc, .slice jD qR.length jE, .slice qs qL.length qt, .int .i64 qO, .int .i64 qP, .slice qu qG.length qv, .slice qw qH.length qx]) (t := 28) zG ?_; intro qC hg w40 hbox hb; have qD := aM (hbox); have jI := aM ((by rw [hg]; exact (z4_ (zB HB)) : w.heap.size ≤ qC)); have jJ := aM ((by rw [hg]; exact (z4_ (zB HB)) : w.heap.size ≤ qC)); replace HB := aM (z6_ (zB HB) hb); have qI := aM ((by rw [hg]; exact Nat.ne_of_lt (z19_ (g := qB) (lK qA)) : qB ≠ qC)); have qJ := aM ((by rw [hg]; exact Nat.ne_of_gt (z19_ (g := qB) (lK qA)) : qC ≠ qB)); replace qA := aM (z5_ (g := qB) (lK qA) hb); clear hb hbox hg; have yz := qI.out; have y0 := qJ.out; have yf := zc15 qA.out; have yg := fun i_ : Nat => z1_ qA.out i_; have yh := zc15 qD.out; have yi := fun i_ : Nat => z1_ qD.out i_) | (go_at_call 30; (with_reducible refine (api_Point_30.calls k _ _ qW _ _ qX false _ ?side1 ?side2 ?side3 ?side4 A5.out).mono ?_); (case side1 => refine lY ?_; exact (Kd.z8_ jL.out HB.out)); (case side2 => exact jM.out); (case side3 => refine lY ?_; exact (Kd.z8_ jN.out HB.out)); (case side4 => exact jO.out); rintro e w' ⟨rfl, ⟨nd, rfl⟩⟩))
    go_ret
    exact ⟨zE, zB HB⟩
  ·rw [if_neg c4] at H
   have c4b0 : (qe == qi) = false := beq_eq_false_iff_ne.mpr c4
   have c4b1 : (qe != qi) = true := bne_iff_ne.mpr c4
   obtain rfl := Option.some.inj H
   go_enter Try.func14, Try.ntmps14
   go_wp2_with (first | ((with_reducible refine gate_dst (N := 2) rfl ?_); refine z16_ rfl (N := 2) rfl (cs := #[.int .i64 qd, .int .i64 qe, .slice qz qW.length q0, .int .i64 qf, .int .i64 qg, .slice q1 qS.length q2, .slice q3 qT.length q4, .int .i64 qZ, .int .i64 qa, .slice q5 qQ.length q6, .slice qm qK.length qn, .int .i64 qM, .int .i64 qN, .slice qo qE.length qp, .slice qq qF.length qr]) (t := 28) zG ?_; intro qB hg w44 hbox hb; have qA := aM (hbox); have jG := aM ((by rw [hg]; exact (z4_ (lB HB)) : w.heap.size ≤ qB)); have jH := aM ((by rw [hg]; exact (z4_ (lB HB)) : w.heap.size ≤ qB)); replace HB := aM (z6_ (lB HB) hb); clear hb hbox hg) | ((with_reducible refine gate_dst (N := 3) rfl ?_); refine z16_ rfl (N := 3) rfl (cs := #[.int .i64 qh, .int .i64 qi, .slice q7 qX.length q8, .int .i64 qj, .int .i64 qk, .slice q9 qU.length jA, .slice jB qV.length jC, .int .i64 qb, .int .i64 qc, .slice jD qR.length jE, .slice qs qL.length qt, .int .i64 qO, .int .i64 qP, .slice qu qG.length qv, .slice qw qH.length qx]) (t := 28) zG ?_; intro qC hg w45 hbox hb; have qD := aM (hbox); have jI := aM ((by rw [hg]; exact (z4_ (zB HB)) : w.heap.size ≤ qC)); have jJ := aM ((by rw [hg]; exact (z4_ (zB HB)) : w.heap.size ≤ qC)); replace HB := aM (z6_ (zB HB) hb); have qI := aM ((by rw [hg]; exact Nat.ne_of_lt (z19_ (g := qB) (lK qA)) : qB ≠ qC)); have qJ := aM ((by rw [hg]; exact Nat.ne_of_gt (z19_ (g := qB) (lK qA)) : qC ≠ qB)); replace qA := aM (z5_ (g := qB) (lK qA) hb); clear hb hbox hg; have y1 := qI.out; have y2 := qJ.out; have yj := zc15 qA.out; have yk := fun i_ : Nat => z1_ qA.out i_; have yl := zc15 qD.out; have ym := fun i_ : Nat => z1_ qD.out i_))
   go_ret
   exact ⟨zE, zB HB⟩
 ·rw [if_neg c3] at H
  have c3b0 : (qd == qh) = false := beq_eq_false_iff_ne.mpr c3
  have c3b1 : (qd != qh) = true := bne_iff_ne.mpr c3
  obtain rfl := Option.some.inj H
  go_enter Try.func14, Try.ntmps14
  go_wp2_with (first | ((with_reducible refine gate_dst (N := 2) rfl ?_); refine z16_ rfl (N := 2) rfl (cs := #[.int .i64 qd, .int .i64 qe, .slice qz qW.length q0, .int .i64 qf, .int .i64 qg, .slice q1 qS.length q2, .slice q3 qT.length q4, .int .i64 qZ, .int .i64 qa, .slice q5 qQ.length q6, .slice qm qK.length qn, .int .i64 qM, .int .i64 qN, .slice qo qE.length qp, .slice qq qF.length qr]) (t := 28) zG ?_; intro qB hg w49 hbox hb; have qA := aM (hbox); have jG := aM ((by rw [hg]; exact (z4_ (lB HB)) : w.heap.size ≤ qB)); have jH := aM ((by rw [hg]; exact (z4_ (lB HB)) : w.heap.size ≤ qB)); replace HB := aM (z6_ (lB HB) hb); clear hb hbox hg) | ((with_reducible refine gate_dst (N := 3) rfl ?_); refine z16_ rfl (N := 3) rfl (cs := #[.int .i64 qh, .int .i64 qi, .slice q7 qX.length q8, .int .i64 qj, .int .i64 qk, .slice q9 qU.length jA, .slice jB qV.length jC, .int .i64 qb, .int .i64 qc, .slice jD qR.length jE, .slice qs qL.length qt, .int .i64 qO, .int .i64 qP, .slice qu qG.length qv, .slice qw qH.length qx]) (t := 28) zG ?_; intro qC hg w50 hbox hb; have qD := aM (hbox); have jI := aM ((by rw [hg]; exact (z4_ (zB HB)) : w.heap.size ≤ qC)); have jJ := aM ((by rw [hg]; exact (z4_ (zB HB)) : w.heap.size ≤ qC)); replace HB := aM (z6_ (zB HB) hb); have qI := aM ((by rw [hg]; exact Nat.ne_of_lt (z19_ (g := qB) (lK qA)) : qB ≠ qC)); have qJ := aM ((by rw [hg]; exact Nat.ne_of_gt (z19_ (g := qB) (lK qA)) : qC ≠ qB)); replace qA := aM (z5_ (g := qB) (lK qA) hb); clear hb hbox hg; have y3 := qI.out; have y4 := qJ.out; have yn := zc15 qA.out; have yo := fun i_ : Nat => z1_ qA.out i_; have yp := zc15 qD.out; have yq := fun i_ : Nat => z1_ qD.out i_))
  go_ret
  exact ⟨zE, zB HB⟩
def sL_one.f  : Option (Int × Int × (List (S63)) × List Int) := some (1, 1, ([] : List (S63)), (([0] : List Int)))
theorem sL_one.calls  (r1 : Int) (r2 : Int) (r3 : List (S63)) (r4 : List Int) (w : World) (h : sL_one.f  = some (r1, r2, r3, r4)) :
  Calls Try.prog 32 #[] w fun e w' => ∃ v2_ v3_ : Value, e = .returned (.agg #[.int .i64 r1, .int .i64 r2, v2_, v3_]) ∧ Kd.R k63 63 w' w.heap.size (fun _ => True) v2_ r3 ∧ Kd.R (Kd.int .i64) 3 w' w.heap.size (fun _ => True) v3_ r4 ∧ Below w.heap.size w w' := by
 have hu26 := Try.underlying26
 have HB := aM (Below.refl w.heap.size w)
 have H : (some (1, 1, ([] : List (S63)), (([0] : List Int)))) = some (r1, r2, r3, r4) := h
 clear h
 obtain ⟨y274, hy274⟩ : ∃ y_ : List Int, y_ = (([0] : List Int)) := ⟨_, rfl⟩
 replace H : (some (1, 1, ([] : List (S63)), y274)) = some (r1, r2, r3, r4) := zH hy274 H
 have Ny274 := aM hy274
 clear hy274
 simp only [Option.some.injEq, Prod.mk.injEq] at H
 obtain ⟨rfl, rfl, rfl, rfl⟩ := H
 go_enter Try.func32, Try.ntmps32
 go_wp2_with (first | ((with_reducible refine gate_dst (N := 0) rfl ?_); refine z16_ rfl (N := 0) rfl (cs := #[.int .i64 0, .int .i64 0, .slice none 0 0, .slice none 0 0]) (t := 26) zG ?_; intro jP hg w1 hbox hb; have jF := aM (hbox); have y5 := aM ((by rw [hg]; exact (z4_ (lB HB)) : w.heap.size ≤ jP)); have y6 := aM ((by rw [hg]; exact (z4_ (lB HB)) : w.heap.size ≤ jP)); replace HB := aM (z6_ (lB HB) hb); clear hb hbox hg) | ((with_reducible refine gate_dst (N := 1) rfl ?_); refine Kd.R_lit (Kd.int .i64) _ 3 ?hg (N := 1) ?hd (xs := ([0] : List Int)) (inner := [.int .i64 0]) (ok := fun _ => True) (okp := fun _ => True) ?hr ?hp (fun _ hk => hk) trivial (Below.refl _ _) (Nat.le_refl _) (by simp) ?_; (case hd => rfl); (case hg => rfl); (case hr => first | (go_simp; done) | (go_simp; rfl)); (case hp => exact (Reps.one (show Kd.M (Kd.int .i64) _ _ _ 0 [.int .i64 0] from rfl) (Reps.none _ _))); intro v275 w2 ho3 hb hg_ hnew_; clear hg_ hnew_; (first | rw [← Ny274.out] at ho3 | (simp only [Int.reduceToNat] at ho3; rw [← Ny274.out] at ho3)); have j8 := aM (Kd.z20_ ho3 (z4_ (zB HB))); replace jF := aM (z5_ (g := jP) (lK jF) hb); replace HB := aM (z6_ (zB HB) hb); clear hb ho3; obtain ⟨Ao4, co4, eo4⟩ := Kd.R_slice j8.out; subst eo4; have yr := zc4 jF.out; have ys := fun i_ : Nat => z1_ jF.out i_))
 refine bodyPost_ret (results_cell_row rfl _ _ jP 26 #[.int .i64 1, .int .i64 1, .slice none 0 0, .slice Ao4 y274.length co4] (0, 0) _ rfl (by refine lZ ?_; refine blk_put (cs := #[.int .i64 1, .int .i64 1, .slice none 0 0, .slice none 0 0]) ?_ 3 _ rfl; refine lZ ?_; refine blk_put (cs := #[.int .i64 1, .int .i64 1, .slice none 0 0, .slice none 0 0]) ?_ 2 _ rfl; refine lZ ?_; refine blk_put (cs := #[.int .i64 1, .int .i64 0, .slice none 0 0, .slice none 0 0]) ?_ 1 _ rfl; refine lZ ?_; refine blk_put (cs := #[.int .i64 0, .int .i64 0, .slice none 0 0, .slice none 0 0]) ?_ 0 _ rfl; refine lZ ?_; exact jF.out) Try.underlying26 rfl zk) rfl ?_
 exact ⟨_, _, zE, by first | exact Kd.R_nil _ _ _ _ _ | exact Kd.N_nil _ _ _ _ _ | exact Kd.V_nil _ _ _ _ _ | exact Kd.Q_nil _ _ _ _ _ | exact Kd.S_nil _ _ _ _ _, by apply rX; exact Kd.z0_ (fA (fA (fA (fA (Kd.z3_ j8.out jF.out (by decide)))))) (fun _ hk => trivial), zB HB⟩
def sL_example.l0 : Nat → List Int → Int → Int → Int → List (S48) → Int → Int → List (S63) → List Int → Int → Int → List (S63) → List Int → Int → Int → List (S63) → List Int → Option (Int × Int × (List (S48)) × Int × Int × (List (S63)) × List Int × Int × Int × (List (S63)) × List Int × Int × Int × (List (S63)) × List Int × List Int)
 | 0, _, _, _, _, _, _, _, _, _, _, _, _, _, _, _, _, _ => none
 | k + 1, x3, x11, qz, q0, q1, q2, q3, q4, q5, q6, q7, q8, q9, jA, jB, jC, jD => if x11 < 3 then ((some (([1, 1, 0, 0, 1, 0] : List Int) : List Int)).bind fun y309 => (if x3.length + y309.length < 140737488355328 then (sL_example.l0 k (x3 ++ y309) (wrap64 (x11 + 1)) qz q0 q1 q2 q3 q4 q5 q6 q7 q8 q9 jA jB jC jD) else (none))) else ((some (([3, 93] : List Int) : List Int)).bind fun y315 => (if x3.length + y315.length < 140737488355328 then (some (qz, q0, q1, q2, q3, q4, q5, q6, q7, q8, q9, jA, jB, jC, jD, (x3 ++ y315))) else (none)))
def sL_example.f (k : Nat)  : Option (Int × Int × (List (S48)) × Int × Int × (List (S63)) × List Int × Int × Int × (List (S63)) × List Int × Int × Int × (List (S63)) × List Int × List Int) := (sL_one.f).bind fun bt281 => ((sL_one.f).bind fun bt289 => ((sL_one.f).bind fun bt297 => (sL_example.l0 k (([65, 78, 86, 49, 1, 1, 1, 0, 1] : List Int)) 0 1 1 (([(⟨0, 1⟩ : S48)] : List (S48))) bt281.1 bt281.2.1 bt281.2.2.1 bt281.2.2.2 bt289.1 bt289.2.1 bt289.2.2.1 bt289.2.2.2 bt297.1 bt297.2.1 bt297.2.2.1 bt297.2.2.2)))
theorem sL_example.mono_l : ∀ k, (∀ y0 y1 y2 y3 y4 y5 y6 y7 y8 y9 y10 y11 y12 y13 y14 y15 y16, LeO (sL_example.l0 k y0 y1 y2 y3 y4 y5 y6 y7 y8 y9 y10 y11 y12 y13 y14 y15 y16) (sL_example.l0 (k + 1) y0 y1 y2 y3 y4 y5 y6 y7 y8 y9 y10 y11 y12 y13 y14 y15 y16))
 | 0 => fun _ _ _ _ _ _ _ _ _ _ _ _ _ _ _ _ _ r h => by simp [sL_example.l0] at h
 | k + 1 => by
  have ih0 := sL_example.mono_l k
  ·intro y0 y1 y2 y3 y4 y5 y6 y7 y8 y9 y10 y11 y12 y13 y14 y15 y16
   unfold sL_example.l0
   exact zM
theorem sL_example.mono : ∀ k, LeO (sL_example.f k ) (sL_example.f (k + 1) ) := by
 intro  k
 have ih0 := sL_example.mono_l k
 unfold sL_example.f
 exact zM
theorem sL_example.calls (k : Nat)  (r1 : Int) (r2 : Int) (r3 : List (S48)) (r4 : Int) (r5 : Int) (r6 : List (S63)) (r7 : List Int) (r8 : Int) (r9 : Int) (r10 : List (S63)) (r11 : List Int) (r12 : Int) (r13 : Int) (r14 : List (S63)) (r15 : List Int) (r16 : List Int) (w : World) (h : sL_example.f k  = some (r1, r2, r3, r4, r5, r6, r7, r8, r9, r10, r11, r12, r13, r14, r15, r16)) :
  Calls Try.prog 15 #[] w fun e w' => ∃ v2_ v5_ v6_ v9_ v10_ v13_ v14_ v15_ : Value, e = .returned (.tuple #[.agg #[.int .i64 r1, .int .i64 r2, v2_, .int .i64 r4, .int .i64 r5, v5_, v6_, .int .i64 r8, .int .i64 r9, v9_, v10_, .int .i64 r12, .int .i64 r13, v13_, v14_], v15_]) ∧ Kd.R k48 48 w' w.heap.size (fun _ => True) v2_ r3 ∧ Kd.R k63 63 w' w.heap.size (fun k_ => some k_ ≠ (v9_ : Value).ownBlock ∧ some k_ ≠ (v13_ : Value).ownBlock) v5_ r6 ∧ Kd.R (Kd.int .i64) 3 w' w.heap.size (fun k_ => some k_ ≠ (v10_ : Value).ownBlock ∧ some k_ ≠ (v14_ : Value).ownBlock) v6_ r7 ∧ Kd.R k63 63 w' w.heap.size (fun k_ => some k_ ≠ (v5_ : Value).ownBlock ∧ some k_ ≠ (v13_ : Value).ownBlock) v9_ r10 ∧ Kd.R (Kd.int .i64) 3 w' w.heap.size (fun k_ => some k_ ≠ (v6_ : Value).ownBlock ∧ some k_ ≠ (v14_ : Value).ownBlock) v10_ r11 ∧ Kd.R k63 63 w' w.heap.size (fun k_ => some k_ ≠ (v5_ : Value).ownBlock ∧ some k_ ≠ (v9_ : Value).ownBlock) v13_ r14 ∧ Kd.R (Kd.int .i64) 3 w' w.heap.size (fun k_ => some k_ ≠ (v6_ : Value).ownBlock ∧ some k_ ≠ (v10_ : Value).ownBlock) v14_ r15 ∧ Kd.R (Kd.int .u8) 5 w' w.heap.size (fun _ => True) v15_ r16 ∧ Below w.heap.size w w' := by
 have hu28 := Try.underlying28
 have hu48 := Try.underlying48
 have HB := aM (Below.refl w.heap.size w)
 have H : ((sL_one.f).bind fun bt281 => ((sL_one.f).bind fun bt289 => ((sL_one.f).bind fun bt297 => (sL_example.l0 k (([65, 78, 86, 49, 1, 1, 1, 0, 1] : List Int)) 0 1 1 (([(⟨0, 1⟩ : S48)] : List (S48))) bt281.1 bt281.2.1 bt281.2.2.1 bt281.2.2.2 bt289.1 bt289.2.1 bt289.2.2.1 bt289.2.2.2 bt297.1 bt297.2.1 bt297.2.2.1 bt297.2.2.2)))) = some (r1, r2, r3, r4, r5, r6, r7, r8, r9, r10, r11, r12, r13, r14, r15, r16) := h
 clear h
 obtain ⟨y278, hy278⟩ : ∃ y_ : List (S48), y_ = (([(⟨0, 1⟩ : S48)] : List (S48))) := ⟨_, rfl⟩
 replace H : ((sL_one.f).bind fun bt281 => ((sL_one.f).bind fun bt289 => ((sL_one.f).bind fun bt297 => (sL_example.l0 k (([65, 78, 86, 49, 1, 1, 1, 0, 1] : List Int)) 0 1 1 y278 bt281.1 bt281.2.1 bt281.2.2.1 bt281.2.2.2 bt289.1 bt289.2.1 bt289.2.2.1 bt289.2.2.2 bt297.1 bt297.2.1 bt297.2.2.1 bt297.2.2.2)))) = some (r1, r2, r3, r4, r5, r6, r7, r8, r9, r10, r11, r12, r13, r14, r15, r16) := zH hy278 H
 have Ny278 := aM hy278
 clear hy278
 replace H := zbs H
 obtain ⟨⟨qX, qY, qO, qP⟩, A10, H⟩ := H
 replace H : ((sL_one.f).bind fun bt289 => ((sL_one.f).bind fun bt297 => (sL_example.l0 k (([65, 78, 86, 49, 1, 1, 1, 0, 1] : List Int)) 0 1 1 y278 qX qY qO qP bt289.1 bt289.2.1 bt289.2.2.1 bt289.2.2.2 bt297.1 bt297.2.1 bt297.2.2.1 bt297.2.2.2))) = some (r1, r2, r3, r4, r5, r6, r7, r8, r9, r10, r11, r12, r13, r14, r15, r16) := H
 have A1 := aM A10
 clear A10
 replace H := zbs H
 obtain ⟨⟨qZ, qa, qQ, qR⟩, A20, H⟩ := H
 replace H : ((sL_one.f).bind fun bt297 => (sL_example.l0 k (([65, 78, 86, 49, 1, 1, 1, 0, 1] : List Int)) 0 1 1 y278 qX qY qO qP qZ qa qQ qR bt297.1 bt297.2.1 bt297.2.2.1 bt297.2.2.2)) = some (r1, r2, r3, r4, r5, r6, r7, r8, r9, r10, r11, r12, r13, r14, r15, r16) := H
 have A2 := aM A20
 clear A20
 replace H := zbs H
 obtain ⟨⟨qc, qd, qS, qT⟩, A30, H⟩ := H
 replace H : (sL_example.l0 k (([65, 78, 86, 49, 1, 1, 1, 0, 1] : List Int)) 0 1 1 y278 qX qY qO qP qZ qa qQ qR qc qd qS qT) = some (r1, r2, r3, r4, r5, r6, r7, r8, r9, r10, r11, r12, r13, r14, r15, r16) := H
 have A3 := aM A30
 clear A30
 obtain ⟨y306, hy306⟩ : ∃ y_ : List Int, y_ = (([65, 78, 86, 49, 1, 1, 1, 0, 1] : List Int)) := ⟨_, rfl⟩
 replace H : (sL_example.l0 k y306 0 1 1 y278 qX qY qO qP qZ qa qQ qR qc qd qS qT) = some (r1, r2, r3, r4, r5, r6, r7, r8, r9, r10, r11, r12, r13, r14, r15, r16) := zH hy306 H
 have Ny306 := aM hy306
 clear hy306
 have H' := aM H
 clear H
 go_enter Try.func15, Try.ntmps15
 go_wp2_with (first | ((with_reducible refine gate_dst (N := 0) rfl ?_); refine z16_ rfl (N := 0) rfl (cs := #[.int .i64 0, .int .i64 0, .slice none 0 0, .int .i64 0, .int .i64 0, .slice none 0 0, .slice none 0 0, .int .i64 0, .int .i64 0, .slice none 0 0, .slice none 0 0, .int .i64 0, .int .i64 0, .slice none 0 0, .slice none 0 0]) (t := 28) zG ?_; intro qD hg w4 hbox hb; have qA := aM (hbox); have jr := aM ((by rw [hg]; exact (z4_ (lB HB)) : w.heap.size ≤ qD)); have js := aM ((by rw [hg]; exact (z4_ (lB HB)) : w.heap.size ≤ qD)); replace HB := aM (z6_ (lB HB) hb); clear hb hbox hg) | ((with_reducible refine gate_dst (N := 5) rfl ?_); refine Kd.R_lit k48 _ 48 ?hg (N := 5) ?hd (xs := ([(⟨0, 1⟩ : S48)] : List (S48))) (inner := [.int .i64 0, .int .i64 1]) (ok := fun _ => True) (okp := fun _ => True) ?hr ?hp (fun _ hk => hk) trivial (Below.refl _ _) (Nat.le_refl _) (by simp) ?_; (case hd => rfl); (case hg => rfl); (case hr => first | (go_simp; done) | (go_simp; rfl)); (case hp => exact (Reps.c2 (show Kd.M k48 _ _ _ (⟨0, 1⟩ : S48) [.int .i64 0, .int .i64 1] from (k48_mkM _ _ _ (⟨0, 1⟩ : S48) )) (Reps.none _ _))); intro v279 w5 ho6 hb hg_ hnew_; clear hg_ hnew_; (first | rw [← Ny278.out] at ho6 | (simp only [Int.reduceToNat] at ho6; rw [← Ny278.out] at ho6)); have qU := aM (Kd.z20_ ho6 (z4_ (zB HB))); replace qA := aM (z5_ (g := qD) (lK qA) hb); replace HB := aM (z6_ (zB HB) hb); clear hb ho6) | ((with_reducible refine gate_callee (f := 32) rfl ?_); refine z13_ (some 6) rfl rfl Try.func32 zk rfl #[] rfl zA ?_; (with_reducible refine (sL_one.calls  qX qY qO qP _ A1.out).mono ?_); rintro e w7 ⟨v284, v287, rfl, ho0, ho1, hb⟩; refine ⟨_, rfl, ?_⟩; replace qU := aM (Kd.z7_ (lR qU) hb); have qV := aM (Kd.z20_ ho0 (z4_ (zB HB))); have qW := aM (Kd.z20_ ho1 (z4_ (zB HB))); replace qA := aM (z5_ (g := qD) (lK qA) hb); replace HB := aM (z6_ (zB HB) hb); (try clear hb); (try clear ho0); (try clear ho1)) | ((with_reducible refine gate_callee (f := 32) rfl ?_); refine z13_ (some 7) rfl rfl Try.func32 zk rfl #[] rfl zA ?_; (with_reducible refine (sL_one.calls  qZ qa qQ qR _ A2.out).mono ?_); rintro e w8 ⟨v292, v295, rfl, ho0, ho1, hb⟩; refine ⟨_, rfl, ?_⟩; replace qU := aM (Kd.z7_ (lR qU) hb); have qe := aM (Kd.z20_ (Kd.z21_ ho0 (Kd.R_lt (lR qV))) (z4_ (zB HB))); replace qV := aM (Kd.z17_ (lR qV) (Kd.R_base ho0) hb); have qf := aM (Kd.z20_ (Kd.z21_ ho1 (Kd.R_lt (lR qW))) (z4_ (zB HB))); replace qW := aM (Kd.z17_ (lR qW) (Kd.R_base ho1) hb); replace qA := aM (z5_ (g := qD) (lK qA) hb); replace HB := aM (z6_ (zB HB) hb); (try clear hb); (try clear ho0); (try clear ho1)) | ((with_reducible refine gate_callee (f := 32) rfl ?_); refine z13_ (some 8) rfl rfl Try.func32 zk rfl #[] rfl zA ?_; (with_reducible refine (sL_one.calls  qc qd qS qT _ A3.out).mono ?_); rintro e w9 ⟨v300, v303, rfl, ho0, ho1, hb⟩; refine ⟨_, rfl, ?_⟩; replace qU := aM (Kd.z7_ (lR qU) hb); have qh := aM (Kd.z20_ (Kd.z21_ (Kd.z21_ ho0 (Kd.R_lt (lR qV))) (Kd.R_lt (lR qe))) (z4_ (zB HB))); replace qV := aM (Kd.z17_ (lR qV) (Kd.R_base ho0) hb); replace qe := aM (Kd.z17_ (lR qe) (Kd.R_base ho0) hb); have qi := aM (Kd.z20_ (Kd.z21_ (Kd.z21_ ho1 (Kd.R_lt (lR qW))) (Kd.R_lt (lR qf))) (z4_ (zB HB))); replace qW := aM (Kd.z17_ (lR qW) (Kd.R_base ho1) hb); replace qf := aM (Kd.z17_ (lR qf) (Kd.R_base ho1) hb); replace qA := aM (z5_ (g := qD) (lK qA) hb); replace HB := aM (z6_ (zB HB) hb); (try clear hb); (try clear ho0); (try clear ho1); obtain ⟨qj, qk, eo10⟩ := Kd.R_slice qi.out; subst eo10; obtain ⟨ql, qm, eo11⟩ := Kd.R_slice qh.out; subst eo11; obtain ⟨qn, qo, eo12⟩ := Kd.R_slice qf.out; subst eo12; obtain ⟨qp, qq, eo13⟩ := Kd.R_slice qe.out; subst eo13; obtain ⟨qr, qs, eo14⟩ := Kd.R_slice qW.out; subst eo14; obtain ⟨qt, qu, eo15⟩ := Kd.R_slice qV.out; subst eo15; obtain ⟨qx, qy, eo16⟩ := Kd.R_slice qU.out; subst eo16) | ((with_reducible refine gate_dst (N := 2) rfl ?_); refine z16_ rfl (N := 2) rfl (cs := #[.int .i64 0, .int .i64 0, .slice none 0 0, .int .i64 0, .int .i64 0, .slice none 0 0, .slice none 0 0, .int .i64 0, .int .i64 0, .slice none 0 0, .slice none 0 0, .int .i64 0, .int .i64 0, .slice none 0 0, .slice none 0 0]) (t := 28) zG ?_; intro qF hg w17 hbox hb; replace qU := aM (Kd.z7_ (lR qU) hb); replace qV := aM (Kd.z7_ (lR qV) hb); replace qW := aM (Kd.z7_ (lR qW) hb); replace qe := aM (Kd.z7_ (lR qe) hb); replace qf := aM (Kd.z7_ (lR qf) hb); replace qh := aM (Kd.z7_ (lR qh) hb); replace qi := aM (Kd.z7_ (lR qi) hb); have qC := aM (hbox); have jt := aM ((by rw [hg]; exact (z4_ (zB HB)) : w.heap.size ≤ qF)); have ju := aM ((by rw [hg]; exact (z4_ (zB HB)) : w.heap.size ≤ qF)); replace HB := aM (z6_ (zB HB) hb); have qE := aM ((by rw [hg]; exact Nat.ne_of_lt (z19_ (g := qD) (lK qA)) : qD ≠ qF)); have qB := aM ((by rw [hg]; exact Nat.ne_of_gt (z19_ (g := qD) (lK qA)) : qF ≠ qD)); replace qA := aM (z5_ (g := qD) (lK qA) hb); clear hb hbox hg; have jv := qB.out; have jw := qE.out; have jL := zc15 qC.out; have jM := fun i_ : Nat => z1_ qC.out i_) | ((with_reducible refine gate_dst (N := 10) rfl ?_); refine Kd.R_lit (Kd.int .u8) _ 5 ?hg (N := 10) ?hd (xs := ([65, 78, 86, 49, 1, 1, 1, 0, 1] : List Int)) (inner := [.int .u8 65, .int .u8 78, .int .u8 86, .int .u8 49, .int .u8 1, .int .u8 1, .int .u8 1, .int .u8 0, .int .u8 1]) (ok := fun _ => True) (okp := fun _ => True) ?hr ?hp (fun _ hk => hk) trivial (Below.refl _ _) (Nat.le_refl _) (by simp) ?_; (case hd => rfl); (case hg => rfl); (case hr => first | (go_simp; done) | (go_simp; rfl)); (case hp => exact (Reps.one (show Kd.M (Kd.int .u8) _ _ _ 65 [.int .u8 65] from rfl) (Reps.one (show Kd.M (Kd.int .u8) _ _ _ 78 [.int .u8 78] from rfl) (Reps.one (show Kd.M (Kd.int .u8) _ _ _ 86 [.int .u8 86] from rfl) (Reps.one (show Kd.M (Kd.int .u8) _ _ _ 49 [.int .u8 49] from rfl) (Reps.one (show Kd.M (Kd.int .u8) _ _ _ 1 [.int .u8 1] from rfl) (Reps.one (show Kd.M (Kd.int .u8) _ _ _ 1 [.int .u8 1] from rfl) (Reps.one (show Kd.M (Kd.int .u8) _ _ _ 1 [.int .u8 1] from rfl) (Reps.one (show Kd.M (Kd.int .u8) _ _ _ 0 [.int .u8 0] from rfl) (Reps.one (show Kd.M (Kd.int .u8) _ _ _ 1 [.int .u8 1] from rfl) (Reps.none _ _))))))))))); intro v307 w20 ho21 hb hg_ hnew_; clear hg_ hnew_; (first | rw [← Ny306.out] at ho21 | (simp only [Int.reduceToNat] at ho21; rw [← Ny306.out] at ho21)); replace qU := aM (Kd.z7_ (by apply rX; exact (Kd.z0_ (zR15 (Kd.z3_ qU.out qC.out (by decide))) (fun _ h_ => h_.1))) hb); replace qV := aM (Kd.z7_ (by apply rX; exact (Kd.z0_ (zR15 (Kd.z3_ qV.out qC.out (by decide))) (fun _ h_ => h_.1))) hb); replace qW := aM (Kd.z7_ (by apply rX; exact (Kd.z0_ (zR15 (Kd.z3_ qW.out qC.out (by decide))) (fun _ h_ => h_.1))) hb); replace qe := aM (Kd.z7_ (by apply rX; exact (Kd.z0_ (zR15 (Kd.z3_ qe.out qC.out (by decide))) (fun _ h_ => h_.1))) hb); replace qf := aM (Kd.z7_ (by apply rX; exact (Kd.z0_ (zR15 (Kd.z3_ qf.out qC.out (by decide))) (fun _ h_ => h_.1))) hb); replace qh := aM (Kd.z7_ (by apply rX; exact (Kd.z0_ (zR15 (Kd.z3_ qh.out qC.out (by decide))) (fun _ h_ => h_.1))) hb); replace qi := aM (Kd.z7_ (by apply rX; exact (Kd.z0_ (zR15 (Kd.z3_ qi.out qC.out (by decide))) (fun _ h_ => h_.1))) hb); have jE := aM (Kd.z20_ ho21 (z4_ (zB HB))); replace qA := aM (z5_ (g := qD) (zb qA) hb); replace qC := aM (z5_ (g := qF) (o := .cells #[.int .i64 1, .int .i64 1, .slice qx y278.length qy, .int .i64 qX, .int .i64 qY, .slice qt qO.length qu, .slice qr qP.length qs, .int .i64 qZ, .int .i64 qa, .slice qp qQ.length qq, .slice qn qR.length qo, .int .i64 qc, .int .i64 qd, .slice ql qS.length qm, .slice qj qT.length qk] 28 (0, 0)) (by refine lZ ?_; apply zp15; refine lZ ?_; exact qC.out) hb); replace HB := aM (z6_ (zB HB) hb); clear hb ho21))
 go_loopg [3, 11] k (fun kq v3 v11 w' => ∃ (qb : List Int) (qg : Int), v11 = .int .i64 qg ∧ Aside0 (sL_example.l0 kq qb qg 1 1 y278 qX qY qO qP qZ qa qQ qR qc qd qS qT = some (r1, r2, r3, r4, r5, r6, r7, r8, r9, r10, r11, r12, r13, r14, r15, r16)) ∧ Aside0 (kq ≤ k) ∧ Aside0 (Kd.R (Kd.int .u8) 5 w' w.heap.size (fun _ => True) v3 qb) ∧ Aside0 (Kd.R k48 48 w' w.heap.size (fun _ => True) (.slice qx y278.length qy) y278) ∧ Aside0 (Kd.R k63 63 w' w.heap.size (fun k_ => some k_ ≠ ((.slice qp qQ.length qq) : Value).ownBlock ∧ some k_ ≠ ((.slice ql qS.length qm) : Value).ownBlock) (.slice qt qO.length qu) qO) ∧ Aside0 (Kd.R (Kd.int .i64) 3 w' w.heap.size (fun k_ => some k_ ≠ ((.slice qn qR.length qo) : Value).ownBlock ∧ some k_ ≠ ((.slice qj qT.length qk) : Value).ownBlock) (.slice qr qP.length qs) qP) ∧ Aside0 (Kd.R k63 63 w' w.heap.size (fun k_ => some k_ ≠ ((.slice qt qO.length qu) : Value).ownBlock ∧ some k_ ≠ ((.slice ql qS.length qm) : Value).ownBlock) (.slice qp qQ.length qq) qQ) ∧ Aside0 (Kd.R (Kd.int .i64) 3 w' w.heap.size (fun k_ => some k_ ≠ ((.slice qr qP.length qs) : Value).ownBlock ∧ some k_ ≠ ((.slice qj qT.length qk) : Value).ownBlock) (.slice qn qR.length qo) qR) ∧ Aside0 (Kd.R k63 63 w' w.heap.size (fun k_ => some k_ ≠ ((.slice qt qO.length qu) : Value).ownBlock ∧ some k_ ≠ ((.slice qp qQ.length qq) : Value).ownBlock) (.slice ql qS.length qm) qS) ∧ Aside0 (Kd.R (Kd.int .i64) 3 w' w.heap.size (fun k_ => some k_ ≠ ((.slice qr qP.length qs) : Value).ownBlock ∧ some k_ ≠ ((.slice qn qR.length qo) : Value).ownBlock) (.slice qj qT.length qk) qT) ∧ Aside0 (w'.heap[qD]? = some (.cells #[.int .i64 0, .int .i64 0, (.slice none 0 0), .int .i64 0, .int .i64 0, (.slice none 0 0), (.slice none 0 0), .int .i64 0, .int .i64 0, (.slice none 0 0), (.slice none 0 0), .int .i64 0, .int .i64 0, (.slice none 0 0), (.slice none 0 0)] 28 (0, 0))) ∧ Aside0 (w'.heap[qF]? = some (.cells #[.int .i64 1, .int .i64 1, (.slice qx y278.length qy), .int .i64 qX, .int .i64 qY, (.slice qt qO.length qu), (.slice qr qP.length qs), .int .i64 qZ, .int .i64 qa, (.slice qp qQ.length qq), (.slice qn qR.length qo), .int .i64 qc, .int .i64 qd, (.slice ql qS.length qm), (.slice qj qT.length qk)] 28 (0, 0))) ∧ Aside0 (Below w.heap.size w w'))
 case atStart => exact ⟨(y306), (0), zT, H', ⟨Nat.le_refl _⟩, ⟨lR jE⟩, ⟨lR qU⟩, ⟨by apply rX; exact Kd.z0_ qV.out (fun _ hk => ⟨hk.1.2, hk.2⟩)⟩, ⟨by apply rX; exact Kd.z0_ qW.out (fun _ hk => ⟨hk.1.2, hk.2⟩)⟩, ⟨by apply rX; exact Kd.z0_ qe.out (fun _ hk => ⟨hk.1.2, hk.2⟩)⟩, ⟨by apply rX; exact Kd.z0_ qf.out (fun _ hk => ⟨hk.1.2, hk.2⟩)⟩, ⟨by apply rX; exact Kd.z0_ qh.out (fun _ hk => ⟨hk.1.2, hk.2⟩)⟩, ⟨by apply rX; exact Kd.z0_ qi.out (fun _ hk => ⟨hk.1.2, hk.2⟩)⟩, ⟨zb qA⟩, ⟨zb qC⟩, ⟨zB HB⟩⟩
 case round =>
  clear H'
  obtain ⟨qb, qg, rfl, HA, HK1, qG, qH, qI, qJ, qK, qL, qM, qN, qA, qC, HB⟩ := hrel
  cases gk with
  | zero => exact absurd HA.out (by simp [sL_example.l0])
  | succ k1 =>
   have H := HA.out
   clear HA
   simp only [sL_example.l0] at H
   by_cases c22 : qg < 3
   ·rw [if_pos c22] at H
    have c22b0 := decide_eq_true c22
    clear c22
    obtain ⟨y309, hy309⟩ : ∃ y_ : List Int, y_ = (([1, 1, 0, 0, 1, 0] : List Int)) := ⟨_, rfl⟩
    replace H : (if qb.length + y309.length < 140737488355328 then (sL_example.l0 k1 (qb ++ y309) (wrap64 (qg + 1)) 1 1 y278 qX qY qO qP qZ qa qQ qR qc qd qS qT) else (none)) = some (r1, r2, r3, r4, r5, r6, r7, r8, r9, r10, r11, r12, r13, r14, r15, r16) := zH hy309 H
    have Ny309 := aM hy309
    clear hy309
    by_cases c23 : qb.length + y309.length < 140737488355328
    ·rw [if_pos c23] at H
     have LMc23 := aM c23
     clear c23
     obtain ⟨y312, hy312⟩ : ∃ y_ : List Int, y_ = (qb ++ y309) := ⟨_, rfl⟩
     replace H : (sL_example.l0 k1 y312 (wrap64 (qg + 1)) 1 1 y278 qX qY qO qP qZ qa qQ qR qc qd qS qT) = some (r1, r2, r3, r4, r5, r6, r7, r8, r9, r10, r11, r12, r13, r14, r15, r16) := zH hy312 H
     have Ny312 := aM hy312
     clear hy312
     have H' := aM H
     clear H
     go_wp2_with (first | ((with_reducible refine gate_dst (N := 14) rfl ?_); refine Kd.R_lit (Kd.int .u8) _ 5 ?hg (N := 14) ?hd (xs := ([1, 1, 0, 0, 1, 0] : List Int)) (inner := [.int .u8 1, .int .u8 1, .int .u8 0, .int .u8 0, .int .u8 1, .int .u8 0]) (ok := fun _ => True) (okp := fun _ => True) ?hr ?hp (fun _ hk => hk) trivial (Below.refl _ _) (Nat.le_refl _) (by simp) ?_; (case hd => rfl); (case hg => rfl); (case hr => first | (go_simp; done) | (go_simp; rfl)); (case hp => exact (Reps.one (show Kd.M (Kd.int .u8) _ _ _ 1 [.int .u8 1] from rfl) (Reps.one (show Kd.M (Kd.int .u8) _ _ _ 1 [.int .u8 1] from rfl) (Reps.one (show Kd.M (Kd.int .u8) _ _ _ 0 [.int .u8 0] from rfl) (Reps.one (show Kd.M (Kd.int .u8) _ _ _ 0 [.int .u8 0] from rfl) (Reps.one (show Kd.M (Kd.int .u8) _ _ _ 1 [.int .u8 1] from rfl) (Reps.one (show Kd.M (Kd.int .u8) _ _ _ 0 [.int .u8 0] from rfl) (Reps.none _ _)))))))); intro v310 w24 ho25 hb hg_ hnew_; clear hg_ hnew_; (first | rw [← Ny309.out] at ho25 | (simp only [Int.reduceToNat] at ho25; rw [← Ny309.out] at ho25)); replace qH := aM (Kd.z7_ (lR qH) hb); replace qI := aM (Kd.z7_ (lR qI) hb); replace qJ := aM (Kd.z7_ (lR qJ) hb); replace qK := aM (Kd.z7_ (lR qK) hb); replace qL := aM (Kd.z7_ (lR qL) hb); replace qM := aM (Kd.z7_ (lR qM) hb); replace qN := aM (Kd.z7_ (lR qN) hb); have qv := aM (Kd.z20_ (Kd.z21_ ho25 (Kd.R_lt (lR qG))) (z4_ (zB HB))); replace qG := aM (Kd.z17_ (lR qG) (Kd.R_base ho25) hb); replace qA := aM (z5_ (g := qD) (lK qA) hb); replace qC := aM (z5_ (g := qF) (lK qC) hb); replace HB := aM (z6_ (zB HB) hb); clear hb ho25; obtain ⟨jH, jI, eo27⟩ := Kd.R_slice qv.out; subst eo27) | ((with_reducible refine gate_builtin (b := .append) (xs := #[.tmp 13, .tmp 14]) rfl ?_); at_builtin; refine Kd.R_append_rows (Kd.int .u8) (w0 := w) w.heap.size rfl (.tmp 13) (.tmp 14) 31 5 (.int .u8 0) 1 rfl Try.underlying31 info5 rfl (by decide) (by omega) u3 qb y309 _ _ _ (fun k_ => some k_ ≠ (.slice jH y309.length jI : Value).ownBlock) (fun _ => False) rfl rfl ?aO ?aR (fun _ _ h => h) (fun _ h => h.elim) ?aF ?aB ?aS ?aL ?_; (case aR => repeat (first | exact (Kd.z9_ qv.out).2.2 | (with_reducible refine Kd.C_alloc ?_ _) | (with_reducible refine Kd.C_drewN ?_ _) | (with_reducible refine Kd.C_drew ?_))); (case aB => exact (zB HB)); (case aF => exact (fun k_ hk => Kd.fresh' (Kd.R_lt (lR qv)) k_ hk)); (case aO => exact (by apply rX; exact Kd.z0_ qG.out (fun _ hk => hk.2))); (case aS => exact (z4_ (zB HB))); (case aL => have := LMc23.out; omega); intro v313 w26 ho hb hg hat; rw [← Ny312.out] at ho; replace qH := aM (Kd.R_over' (lR qH) (Kd.R_typed (lR qG)) (by decide) hg); replace qI := aM (Kd.R_over' (lR qI) (Kd.R_typed (lR qG)) (by decide) hg); replace qJ := aM (Kd.R_over' (lR qJ) (Kd.R_typed (lR qG)) (by decide) hg); replace qK := aM (Kd.R_over' (lR qK) (Kd.R_typed (lR qG)) (by decide) hg); replace qL := aM (Kd.R_over' (lR qL) (Kd.R_typed (lR qG)) (by decide) hg); replace qM := aM (Kd.R_over' (lR qM) (Kd.R_typed (lR qG)) (by decide) hg); replace qN := aM (Kd.R_over' (lR qN) (Kd.R_typed (lR qG)) (by decide) hg); replace qA := aM (blk_grown (g := qD) (lK qA) hg (Kd.R_ne qG.out qA.out (by decide))); replace qC := aM (blk_grown (g := qF) (lK qC) hg (Kd.R_ne qG.out qC.out (by decide))); replace qv := aM (Kd.R_after (ok := (fun _ => True)) (lR qv) hg hat); replace HB := aM (hb); have jF := aM (ho); clear qG; clear ho hb hg hat))
     go_roundg k1
     case measure => have := HK1.out; omega
     case rel => exact ⟨(y312), (wrap64 (qg + 1)), zT, H', ⟨by have := HK1.out; omega⟩, ⟨by apply rX; exact Kd.z0_ jF.out (fun _ hk => trivial)⟩, ⟨lR qH⟩, ⟨lR qI⟩, ⟨lR qJ⟩, ⟨lR qK⟩, ⟨lR qL⟩, ⟨lR qM⟩, ⟨lR qN⟩, ⟨zb qA⟩, ⟨zb qC⟩, ⟨zB HB⟩⟩
    ·rw [if_neg c23] at H
     exact absurd H (by simp)
   ·rw [if_neg c22] at H
    have c22b0 := decide_eq_false c22
    clear c22
    obtain ⟨y315, hy315⟩ : ∃ y_ : List Int, y_ = (([3, 93] : List Int)) := ⟨_, rfl⟩
    replace H : (if qb.length + y315.length < 140737488355328 then (some (1, 1, y278, qX, qY, qO, qP, qZ, qa, qQ, qR, qc, qd, qS, qT, (qb ++ y315))) else (none)) = some (r1, r2, r3, r4, r5, r6, r7, r8, r9, r10, r11, r12, r13, r14, r15, r16) := zH hy315 H
    have Ny315 := aM hy315
    clear hy315
    by_cases c28 : qb.length + y315.length < 140737488355328
    ·rw [if_pos c28] at H
     have LMc28 := aM c28
     clear c28
     obtain ⟨y318, hy318⟩ : ∃ y_ : List Int, y_ = (qb ++ y315) := ⟨_, rfl⟩
     replace H : (some (1, 1, y278, qX, qY, qO, qP, qZ, qa, qQ, qR, qc, qd, qS, qT, y318)) = some (r1, r2, r3, r4, r5, r6, r7, r8, r9, r10, r11, r12, r13, r14, r15, r16) := zH hy318 H
     have Ny318 := aM hy318
     clear hy318
     simp only [Option.some.injEq, Prod.mk.injEq] at H
     obtain ⟨rfl, rfl, rfl, rfl, rfl, rfl, rfl, rfl, rfl, rfl, rfl, rfl, rfl, rfl, rfl, rfl⟩ := H
     try go_wp2
     replace qG := aM (Kd.R_drew qG.out)
     replace qH := aM (Kd.R_drew qH.out)
     replace qI := aM (Kd.R_drew qI.out)
     replace qJ := aM (Kd.R_drew qJ.out)
     replace qK := aM (Kd.R_drew qK.out)
     replace qL := aM (Kd.R_drew qL.out)
     replace qM := aM (Kd.R_drew qM.out)
     replace qN := aM (Kd.R_drew qN.out)
     replace qA := aM (blk_drew qA.out)
     replace qC := aM (blk_drew qC.out)
     replace HB := aM (below_drew1 HB.out)
     refine start_ (n := 6) (S := fun w' => w'.cell? ⟨qF, 0, none⟩ = some (.int .i64 1) ∧ w'.cell? ⟨qF, 1, none⟩ = some (.int .i64 1) ∧ w'.cell? ⟨qF, 2, none⟩ = some (.slice qx y278.length qy) ∧ w'.cell? ⟨qF, 3, none⟩ = some (.int .i64 qX) ∧ w'.cell? ⟨qF, 4, none⟩ = some (.int .i64 qY) ∧ w'.cell? ⟨qF, 5, none⟩ = some (.slice qt qO.length qu) ∧ w'.cell? ⟨qF, 6, none⟩ = some (.slice qr qP.length qs) ∧ w'.cell? ⟨qF, 7, none⟩ = some (.int .i64 qZ) ∧ w'.cell? ⟨qF, 8, none⟩ = some (.int .i64 qa) ∧ w'.cell? ⟨qF, 9, none⟩ = some (.slice qp qQ.length qq) ∧ w'.cell? ⟨qF, 10, none⟩ = some (.slice qn qR.length qo) ∧ w'.cell? ⟨qF, 11, none⟩ = some (.int .i64 qc) ∧ w'.cell? ⟨qF, 12, none⟩ = some (.int .i64 qd) ∧ w'.cell? ⟨qF, 13, none⟩ = some (.slice ql qS.length qm) ∧ w'.cell? ⟨qF, 14, none⟩ = some (.slice qj qT.length qk)) (ds := []) (bs 6 0) zk rfl rfl ⟨(z2_ qC.out 0).trans rfl, (z2_ qC.out 1).trans rfl, (z2_ qC.out 2).trans rfl, (z2_ qC.out 3).trans rfl, (z2_ qC.out 4).trans rfl, (z2_ qC.out 5).trans rfl, (z2_ qC.out 6).trans rfl, (z2_ qC.out 7).trans rfl, (z2_ qC.out 8).trans rfl, (z2_ qC.out 9).trans rfl, (z2_ qC.out 10).trans rfl, (z2_ qC.out 11).trans rfl, (z2_ qC.out 12).trans rfl, (z2_ qC.out 13).trans rfl, (z2_ qC.out 14).trans rfl⟩ (fun hHeld => ?_)
     generalize wr.drew = w29 at qG qH qI qJ qK qL qM qN qA qC HB hHeld ⊢
     refine pure_ (i := 1) (N := some 18) (v := ?_) (a' := ?_) (bs 6 2) rfl rfl zk (fun _ _ _ h => h) (Or.inl ⟨by rfl, ?_⟩) ?_ ?_
     rotate_left
     ·intro w'
      go_simp
      with_reducible rfl
     rotate_left
     ·simp only [Act.put, List.setIfInBounds_toArray, List.set_cons_zero, List.set_cons_succ, i64_w, i32_w]
      rfl
     refine take_ (i := 0) (N := some 17) (v := ?_) (a' := ?_) (bs 6 3) rfl rfl zk (fun _ _ _ h => h) (Or.inl ⟨by rfl, ?_⟩) hHeld ?_ ?_
     rotate_left
     ·rintro w' ⟨s0, s1, s2, s3, s4, s5, s6, s7, s8, s9, s10, s11, s12, s13, s14⟩
      go_simp
      with_reducible rfl
     rotate_left
     ·simp only [Act.put, List.setIfInBounds_toArray, List.set_cons_zero, List.set_cons_succ, i64_w, i32_w]
      rfl
     refine one_ (i := 2) (N := some 19) (bs 6 7) rfl rfl zk (by decide) (fun K hK => ?_)
     refine Kd.R_lit_step (Kd.int .u8) _ 5 ?hg (N := 19) ?hd (xs := ([3, 93] : List Int)) (inner := [.int .u8 3, .int .u8 93]) (ok := fun _ => True) (okp := fun _ => True) ?hr ?hp (fun _ hk => hk) trivial (Below.refl _ _) (Nat.le_refl _) (by simp) ?_; (case hd => rfl); (case hg => rfl); (case hr => first | (go_simp; done) | (go_simp; rfl)); (case hp => exact (Reps.one (show Kd.M (Kd.int .u8) _ _ _ 3 [.int .u8 3] from rfl) (Reps.one (show Kd.M (Kd.int .u8) _ _ _ 93 [.int .u8 93] from rfl) (Reps.none _ _))))
     intro v316 w30 ho31 hb hg_ hnew_
     clear hg_ hnew_
     (first | rw [← Ny315.out] at ho31 | (simp only [Int.reduceToNat] at ho31; rw [← Ny315.out] at ho31))
     replace qH := aM (Kd.z7_ (lR qH) hb)
     replace qI := aM (Kd.z7_ (lR qI) hb)
     replace qJ := aM (Kd.z7_ (lR qJ) hb)
     replace qK := aM (Kd.z7_ (lR qK) hb)
     replace qL := aM (Kd.z7_ (lR qL) hb)
     replace qM := aM (Kd.z7_ (lR qM) hb)
     replace qN := aM (Kd.z7_ (lR qN) hb)
     have qw := aM (Kd.z20_ (Kd.z21_ ho31 (Kd.R_lt (lR qG))) (z4_ (zB HB)))
     replace qG := aM (Kd.z17_ (lR qG) (Kd.R_base ho31) hb)
     replace qA := aM (z5_ (g := qD) (lK qA) hb)
     replace qC := aM (z5_ (g := qF) (lK qC) hb)
     replace HB := aM (z6_ (zB HB) hb)
     clear hb ho31
     obtain ⟨jJ, jK, eo33⟩ := Kd.R_slice qw.out
     (first | subst eo33 | (injection eo33 with f1_ f2_ f3_; have f4_ := f1_.symm; have f5_ := f3_.symm; clear f1_ f2_ f3_; subst f4_; subst f5_))
     refine hK.out _ _ (zc15 qC.out) (fun hHeld => ?_)
     clear hK K
     refine norm_ (a' := ?_) ?_ ?_
     rotate_left
     ·show Act.put _ (some 19) _ = _
      simp only [Act.put, List.setIfInBounds_toArray, List.set_cons_zero, List.set_cons_succ, i64_w, i32_w]
      rfl
     refine one_ (i := 3) (N := some 20) (bs 6 15) rfl rfl zk (by decide) (fun K hK => ?_)
     refine Kd.R_append_rows_step (Kd.int .u8) (w0 := w) w.heap.size (by rfl) (.tmp 18) (.tmp 19) 31 5 (.int .u8 0) 1 rfl Try.underlying31 info5 rfl (by decide) (by omega) u3 qb y315 _ _ _ (fun k_ => some k_ ≠ (.slice jJ y315.length jK : Value).ownBlock) (fun _ => False) rfl rfl ?aO ?aR (fun _ _ h => h) (fun _ h => h.elim) ?aF ?aB ?aS ?aL ?_
     (case aR => repeat (first | exact (Kd.z9_ qw.out).2.2 | (with_reducible refine Kd.C_alloc ?_ _) | (with_reducible refine Kd.C_drewN ?_ _) | (with_reducible refine Kd.C_drew ?_)))
     (case aB => exact (zB HB))
     (case aF => exact (fun k_ hk => Kd.fresh' (Kd.R_lt (lR qw)) k_ hk))
     (case aO => exact (by apply rX; exact Kd.z0_ qG.out (fun _ hk => hk.2)))
     (case aS => exact (z4_ (zB HB)))
     (case aL => have := LMc28.out; omega)
     intro v319 w32 ho hb hg hat
     rw [← Ny318.out] at ho
     replace qH := aM (Kd.R_over' (lR qH) (Kd.R_typed (lR qG)) (by decide) hg)
     replace qI := aM (Kd.R_over' (lR qI) (Kd.R_typed (lR qG)) (by decide) hg)
     replace qJ := aM (Kd.R_over' (lR qJ) (Kd.R_typed (lR qG)) (by decide) hg)
     replace qK := aM (Kd.R_over' (lR qK) (Kd.R_typed (lR qG)) (by decide) hg)
     replace qL := aM (Kd.R_over' (lR qL) (Kd.R_typed (lR qG)) (by decide) hg)
     replace qM := aM (Kd.R_over' (lR qM) (Kd.R_typed (lR qG)) (by decide) hg)
     replace qN := aM (Kd.R_over' (lR qN) (Kd.R_typed (lR qG)) (by decide) hg)
     replace qA := aM (blk_grown (g := qD) (lK qA) hg (Kd.R_ne qG.out qA.out (by decide)))
     replace qC := aM (blk_grown (g := qF) (lK qC) hg (Kd.R_ne qG.out qC.out (by decide)))
     replace qw := aM (Kd.R_after (ok := (fun _ => True)) (lR qw) hg hat)
     replace HB := aM (hb)
     have jG := aM (ho)
     clear qG
     clear ho hb hg hat
     refine hK.out _ _ (zc15 qC.out) (fun hHeld => ?_)
     clear hK K
     refine norm_ (a' := ?_) ?_ ?_
     rotate_left
     ·show Act.put _ (some 20) _ = _
      simp only [Act.put, List.setIfInBounds_toArray, List.set_cons_zero, List.set_cons_succ, i64_w, i32_w]
      rfl
     refine one_ (i := 4) (N := none) (bs 6 31) rfl rfl zk (by decide) (fun K hK => ?_)
     have yC : w32.cell? ⟨qD, 0, none⟩ = some (.int .i64 0) := (z2_ qA.out 0).trans rfl
     have jx := z1_ qA.out 0
     have jN := qB.out
     have jO := qE.out
     have yD : w32.cell? ⟨qD, 1, none⟩ = some (.int .i64 0) := (z2_ qA.out 1).trans rfl
     have jy := z1_ qA.out 1
     have jP := qB.out
     have jQ := qE.out
     have yE : w32.cell? ⟨qD, 2, none⟩ = some (.slice none 0 0) := (z2_ qA.out 2).trans rfl
     have jz := z1_ qA.out 2
     have jR := qB.out
     have jS := qE.out
     have yF : w32.cell? ⟨qD, 3, none⟩ = some (.int .i64 0) := (z2_ qA.out 3).trans rfl
     have j0 := z1_ qA.out 3
     have jT := qB.out
     have jU := qE.out
     have yG : w32.cell? ⟨qD, 4, none⟩ = some (.int .i64 0) := (z2_ qA.out 4).trans rfl
     have j1 := z1_ qA.out 4
     have jV := qB.out
     have jW := qE.out
     have yH : w32.cell? ⟨qD, 5, none⟩ = some (.slice none 0 0) := (z2_ qA.out 5).trans rfl
     have j2 := z1_ qA.out 5
     have jX := qB.out
     have jY := qE.out
     have yI : w32.cell? ⟨qD, 6, none⟩ = some (.slice none 0 0) := (z2_ qA.out 6).trans rfl
     have j3 := z1_ qA.out 6
     have jZ := qB.out
     have ja := qE.out
     have yJ : w32.cell? ⟨qD, 7, none⟩ = some (.int .i64 0) := (z2_ qA.out 7).trans rfl
     have j4 := z1_ qA.out 7
     have jb := qB.out
     have jc := qE.out
     have yK : w32.cell? ⟨qD, 8, none⟩ = some (.int .i64 0) := (z2_ qA.out 8).trans rfl
     have j5 := z1_ qA.out 8
     have jd := qB.out
     have je := qE.out
     have yL : w32.cell? ⟨qD, 9, none⟩ = some (.slice none 0 0) := (z2_ qA.out 9).trans rfl
     have j6 := z1_ qA.out 9
     have jf := qB.out
     have jg := qE.out
     have yM : w32.cell? ⟨qD, 10, none⟩ = some (.slice none 0 0) := (z2_ qA.out 10).trans rfl
     have j7 := z1_ qA.out 10
     have jh := qB.out
     have ji := qE.out
     have yN : w32.cell? ⟨qD, 11, none⟩ = some (.int .i64 0) := (z2_ qA.out 11).trans rfl
     have j8 := z1_ qA.out 11
     have jj := qB.out
     have jk := qE.out
     have yO : w32.cell? ⟨qD, 12, none⟩ = some (.int .i64 0) := (z2_ qA.out 12).trans rfl
     have j9 := z1_ qA.out 12
     have jl := qB.out
     have jm := qE.out
     have yP : w32.cell? ⟨qD, 13, none⟩ = some (.slice none 0 0) := (z2_ qA.out 13).trans rfl
     have yA := z1_ qA.out 13
     have jn := qB.out
     have jo := qE.out
     have yQ : w32.cell? ⟨qD, 14, none⟩ = some (.slice none 0 0) := (z2_ qA.out 14).trans rfl
     have yB := z1_ qA.out 14
     have jp := qB.out
     have jq := qE.out
     refine skip_ (w1 := ?_) (by rfl) rfl ?_ ?_
     rotate_left
     ·go_simp
      rfl
     refine hK.out _ _ ⟨((zf15 qB.out).trans (hHeld.1)), ((zf15 qB.out).trans (hHeld.2.1)), ((zf15 qB.out).trans (hHeld.2.2.1)), ((zf15 qB.out).trans (hHeld.2.2.2.1)), ((zf15 qB.out).trans (hHeld.2.2.2.2.1)), ((zf15 qB.out).trans (hHeld.2.2.2.2.2.1)), ((zf15 qB.out).trans (hHeld.2.2.2.2.2.2.1)), ((zf15 qB.out).trans (hHeld.2.2.2.2.2.2.2.1)), ((zf15 qB.out).trans (hHeld.2.2.2.2.2.2.2.2.1)), ((zf15 qB.out).trans (hHeld.2.2.2.2.2.2.2.2.2.1)), ((zf15 qB.out).trans (hHeld.2.2.2.2.2.2.2.2.2.2.1)), ((zf15 qB.out).trans (hHeld.2.2.2.2.2.2.2.2.2.2.2.1)), ((zf15 qB.out).trans (hHeld.2.2.2.2.2.2.2.2.2.2.2.2.1)), ((zf15 qB.out).trans (hHeld.2.2.2.2.2.2.2.2.2.2.2.2.2.1)), ((zf15 qB.out).trans (hHeld.2.2.2.2.2.2.2.2.2.2.2.2.2.2))⟩ (fun hHeld => ?_)
     clear hK K
     refine pure_ (i := 5) (N := some 1) (v := ?_) (a' := ?_) (bs 6 63) rfl rfl zk (fun _ _ _ h => h) (Or.inl ⟨by rfl, ?_⟩) ?_ ?_
     rotate_left
     ·intro w'
      go_simp
      with_reducible rfl
     rotate_left
     ·simp only [Act.put, List.setIfInBounds_toArray, List.set_cons_zero, List.set_cons_succ, i64_w, i32_w]
      rfl
     refine done_ zk ?_
     try go_wp2
     refine bodyPost_ret (results_ct rfl _ _ qD 28 #[.int .i64 1, .int .i64 1, .slice qx y278.length qy, .int .i64 qX, .int .i64 qY, .slice qt qO.length qu, .slice qr qP.length qs, .int .i64 qZ, .int .i64 qa, .slice qp qQ.length qq, .slice qn qR.length qo, .int .i64 qc, .int .i64 qd, .slice ql qS.length qm, .slice qj qT.length qk] (0, 0) _ rfl (by refine lZ ?_; apply zp15; refine lZ ?_; exact qA.out) Try.underlying28 rfl zk) rfl ?_
     exact ⟨_, _, _, _, _, _, _, _, zE, by apply rX; exact Kd.z0_ (zR15 (Kd.z3_ qH.out qA.out (by decide))) (fun _ hk => trivial), by apply rX; exact Kd.z0_ (zR15 (Kd.z3_ qI.out qA.out (by decide))) (fun _ hk => ⟨hk.1.1, hk.1.2⟩), by apply rX; exact Kd.z0_ (zR15 (Kd.z3_ qJ.out qA.out (by decide))) (fun _ hk => ⟨hk.1.1, hk.1.2⟩), by apply rX; exact Kd.z0_ (zR15 (Kd.z3_ qK.out qA.out (by decide))) (fun _ hk => ⟨hk.1.1, hk.1.2⟩), by apply rX; exact Kd.z0_ (zR15 (Kd.z3_ qL.out qA.out (by decide))) (fun _ hk => ⟨hk.1.1, hk.1.2⟩), by apply rX; exact Kd.z0_ (zR15 (Kd.z3_ qM.out qA.out (by decide))) (fun _ hk => ⟨hk.1.1, hk.1.2⟩), by apply rX; exact Kd.z0_ (zR15 (Kd.z3_ qN.out qA.out (by decide))) (fun _ hk => ⟨hk.1.1, hk.1.2⟩), by apply rX; exact Kd.z0_ (zR15 (Kd.z3_ jG.out qA.out (by decide))) (fun _ hk => trivial), zB HB⟩
    ·rw [if_neg c28] at H
     exact absurd H (by simp)
end Go.Proofs.Ytccbdcbeinkjgaa.XA
end
