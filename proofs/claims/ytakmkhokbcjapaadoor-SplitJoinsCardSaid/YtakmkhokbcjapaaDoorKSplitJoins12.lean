/- Part 12 of the proof of the law SplitJoins for every input: words, walks and plain laws. No condition. -/
import Derived.Test.YtakmkhokbcjapaaDoorKSplitJoins11
set_option linter.unusedVariables false
set_option linter.unusedSimpArgs false
set_option maxHeartbeats 8000000
set_option maxRecDepth 100000
section
namespace Go.Proofs.YtakmkhokbcjapaaDoor.XA
open Go.Proofs.YtakmkhokbcjapaaDoor.Lift Go.RowKit Go.Proofs.YtakmkhokbcjapaaDoorW.PrintWords Go.Proofs.YtakmkhokbcjapaaDoorW.PrintLast Go.Proofs.YtakmkhokbcjapaaDoorW.PrintMore
attribute [local go_sem] max2_int min2_int max_two min_two max_three min_three max_four min_four
def swageref20_Poly.l0 : Nat → List (List (S68)) → List (List (S39)) → Int → Int → Option (Bool)
 | 0, _, _, _, _ => none
 | k + 1, x1, x15, x16, x17 => if x17 < x16 then (if 0 ≤ x17 then (if x17 < (x15.length : Int) then (if x17 < (x1.length : Int) then ((swagelaw21_is.f k (rd_L5 x15 x17) (rd_L9 x1 x17)).bind fun qJ => (if qJ = true then (swageref20_Poly.l0 k x1 x15 x16 (wrap64 (x17 + 1))) else (some false))) else (none)) else (none)) else (none)) else (some true)
def swageref20_Poly.f (k : Nat) (l0 : List (List (S39))) (l1 : List (List (S68))) : Option (Bool) := if (l0.length : Int) = (l1.length : Int) then (swageref20_Poly.l0 k l1 l0 (l0.length : Int) 0) else (some false)
theorem swageref20_Poly.calls (k : Nat) (A0 : Option Addr) (c0 : Nat) (l0 : List (List (S39))) (A1 : Option Addr) (c1 : Nat) (l1 : List (List (S68))) (r : Bool) (w : World) (hr0 : Kd.C (Kd.slice 39 k39) w A0 l0.length l0) (hc0 : l0.length ≤ c0) (hr1 : Kd.C (Kd.slice 68 k68) w A1 l1.length l1) (hc1 : l1.length ≤ c1) (h : swageref20_Poly.f k l0 l1 = some r) :
  Calls Tryd.prog 13 #[.slice A0 l0.length c0, .slice A1 l1.length c1, .func (.func 16) #[] #[]] w fun e w' => e = .returned (.bool r) ∧ Below w.heap.size w w' := by
 have HR0 := aM hr0
 have HC0 := aM hc0
 clear hr0 hc0
 have HR1 := aM hr1
 have HC1 := aM hc1
 clear hr1 hc1
 have HB := aM (Below.refl w.heap.size w)
 have H : (if (l0.length : Int) = (l1.length : Int) then (swageref20_Poly.l0 k l1 l0 (l0.length : Int) 0) else (some false)) = some r := h
 clear h
 by_cases c3 : (l0.length : Int) = (l1.length : Int)
 ·rw [if_pos c3] at H
  have c3b0 : ((l0.length : Int) == (l1.length : Int)) = true := beq_iff_eq.mpr c3
  have c3b1 : ((l0.length : Int) != (l1.length : Int)) = false := bne_eq_false_iff_eq.mpr c3
  have c3b2 : (l0.length == l1.length) = true := by first | simpa using c3 | (simp at c3 ⊢; omega)
  clear c3
  have H' := aM H
  clear H
  go_enter Tryd.func13, Tryd.ntmps13
  go_wp2
  go_loopg [17] k (fun kq v17 w' => ∃ (qA : Int), v17 = .int .i64 qA ∧ Aside0 (swageref20_Poly.l0 kq l1 l0 (l0.length : Int) qA = some r) ∧ Aside0 (kq ≤ k) ∧ Aside0 (Below w.heap.size w w'))
  case atStart => exact ⟨(0), zT, H', ⟨Nat.le_refl _⟩, ⟨zB HB⟩⟩
  case round =>
   clear H'
   try clear c1
   try clear c3
   obtain ⟨qA, rfl, HA, HK1, HB⟩ := hrel
   cases gk with
   | zero => exact absurd HA.out (by simp [swageref20_Poly.l0])
   | succ k1 =>
    have H := HA.out
    clear HA
    simp only [swageref20_Poly.l0] at H
    by_cases c4 : qA < (l0.length : Int)
    ·rw [if_pos c4] at H
     have c4b0 := decide_eq_true c4
     clear c4
     by_cases c5 : 0 ≤ qA
     ·rw [if_pos c5] at H
      have c5b0 := decide_eq_true c5
      clear c5
      by_cases c6 : qA < (l0.length : Int)
      ·rw [if_pos c6] at H
       have c6b0 := decide_eq_true c6
       clear c6
       by_cases c7 : qA < (l1.length : Int)
       ·rw [if_pos c7] at H
        have c7b0 := decide_eq_true c7
        clear c7
        replace H := zbs H
        obtain ⟨qJ, A80, H⟩ := H
        replace H : (if qJ = true then (swageref20_Poly.l0 k1 l1 l0 (l0.length : Int) (wrap64 (qA + 1))) else (some false)) = some r := H
        have A8 := aM A80
        clear A80
        by_cases c9 : qJ = true
        ·subst c9
         have H1 : (swageref20_Poly.l0 k1 l1 l0 (l0.length : Int) (wrap64 (qA + 1))) = some r := by rw [if_pos rfl] at H; exact H
         clear H
         have H := H1
         clear H1
         have H' := aM H
         clear H
         have p438 : 0 ≤ (qA : Int) := of_decide_eq_true za
         have q438 : qA < (l0.length : Int) := of_decide_eq_true za
         obtain ⟨ad438, qF, qG, e438, hx438_0, hl438_0, hi438_0⟩ := at_L5 HR0.out qA p438 q438
         cases e438
         replace hx438_0 := (HB.out.cell (World.block_lt_of_cell? w _ hx438_0)).trans hx438_0
         have qB := aM hi438_0
         have qC := aM hl438_0
         clear hi438_0 hl438_0
         replace p438 := eq_true p438
         replace q438 := eq_true q438
         have p439 : 0 ≤ (qA : Int) := of_decide_eq_true za
         have q439 : qA < (l1.length : Int) := of_decide_eq_true za
         obtain ⟨ad439, qH, qI, e439, hx439_0, hl439_0, hi439_0⟩ := at_L9 HR1.out qA p439 q439
         cases e439
         replace hx439_0 := (HB.out.cell (World.block_lt_of_cell? w _ hx439_0)).trans hx439_0
         have qD := aM hi439_0
         have qE := aM hl439_0
         clear hi439_0 hl439_0
         replace p439 := eq_true p439
         replace q439 := eq_true q439
         go_wp2_with (first | ((with_reducible refine gate_callee_v rfl ?_); refine goesL_v (some 29) rfl rfl Tryd.func16 zk rfl #[.slice qF (rd_L5 l0 qA).length qG, .slice qH (rd_L9 l1 qA).length qI] rfl rfl zA ?_; (with_reducible refine (swagelaw21_is.calls k1 _ _ (rd_L5 l0 qA) _ _ (rd_L9 l1 qA) true _ ?side1 ?side2 ?side3 ?side4 A8.out).mono ?_); (case side1 => refine lY ?_; exact (Kd.z8_ qB.out HB.out)); (case side2 => exact qC.out); (case side3 => refine lY ?_; exact (Kd.z8_ qD.out HB.out)); (case side4 => exact qE.out); rintro e w10 ⟨rfl, hb⟩; refine ⟨_, rfl, ?_⟩; replace HB := aM (z6_ (lB HB) hb); (try clear hb)))
         go_roundg k1
         case measure => have := HK1.out; omega
         case rel => exact ⟨(wrap64 (qA + 1)), zT, H', ⟨by have := HK1.out; omega⟩, ⟨zB HB⟩⟩
        ·replace c9 := Bool.eq_false_iff.mpr c9
         subst c9
         have H1 : (some false) = some r := by rw [if_neg (show ¬ (false = true) by decide)] at H; exact H
         clear H
         have H := H1
         clear H1
         obtain rfl := Option.some.inj H
         have p438 : 0 ≤ (qA : Int) := of_decide_eq_true za
         have q438 : qA < (l0.length : Int) := of_decide_eq_true za
         obtain ⟨ad438, qF, qG, e438, hx438_0, hl438_0, hi438_0⟩ := at_L5 HR0.out qA p438 q438
         cases e438
         replace hx438_0 := (HB.out.cell (World.block_lt_of_cell? w _ hx438_0)).trans hx438_0
         have qB := aM hi438_0
         have qC := aM hl438_0
         clear hi438_0 hl438_0
         replace p438 := eq_true p438
         replace q438 := eq_true q438
         have p439 : 0 ≤ (qA : Int) := of_decide_eq_true za
         have q439 : qA < (l1.length : Int) := of_decide_eq_true za
         obtain ⟨ad439, qH, qI, e439, hx439_0, hl439_0, hi439_0⟩ := at_L9 HR1.out qA p439 q439
         cases e439
         replace hx439_0 := (HB.out.cell (World.block_lt_of_cell? w _ hx439_0)).trans hx439_0
         have qD := aM hi439_0
         have qE := aM hl439_0
         clear hi439_0 hl439_0
         replace p439 := eq_true p439
         replace q439 := eq_true q439
         go_wp2_with (first | ((with_reducible refine gate_callee_v rfl ?_); refine goesL_v (some 29) rfl rfl Tryd.func16 zk rfl #[.slice qF (rd_L5 l0 qA).length qG, .slice qH (rd_L9 l1 qA).length qI] rfl rfl zA ?_; (with_reducible refine (swagelaw21_is.calls k1 _ _ (rd_L5 l0 qA) _ _ (rd_L9 l1 qA) false _ ?side1 ?side2 ?side3 ?side4 A8.out).mono ?_); (case side1 => refine lY ?_; exact (Kd.z8_ qB.out HB.out)); (case side2 => exact qC.out); (case side3 => refine lY ?_; exact (Kd.z8_ qD.out HB.out)); (case side4 => exact qE.out); rintro e w11 ⟨rfl, hb⟩; refine ⟨_, rfl, ?_⟩; replace HB := aM (z6_ (lB HB) hb); (try clear hb)))
         go_ret
         exact ⟨zE, zB HB⟩
       ·rw [if_neg c7] at H
        exact absurd H (by simp)
      ·rw [if_neg c6] at H
       exact absurd H (by simp)
     ·rw [if_neg c5] at H
      exact absurd H (by simp)
    ·rw [if_neg c4] at H
     have c4b0 := decide_eq_false c4
     clear c4
     obtain rfl := Option.some.inj H
     go_wp2
     go_ret
     exact ⟨zE, zB HB⟩
 ·rw [if_neg c3] at H
  have c3b0 : ((l0.length : Int) == (l1.length : Int)) = false := beq_eq_false_iff_ne.mpr c3
  have c3b1 : ((l0.length : Int) != (l1.length : Int)) = true := bne_iff_ne.mpr c3
  have c3b2 : (l0.length == l1.length) = false := by first | simpa using c3 | (simp at c3 ⊢; omega)
  obtain rfl := Option.some.inj H
  go_enter Tryd.func13, Tryd.ntmps13
  go_wp2
  go_ret
  exact ⟨zE, zB HB⟩
def swageref02_size.l0 : Nat → List Int → List Int → Int → Option (Int)
 | 0, _, _, _ => none
 | k + 1, x0, x1, x5 => if x5 ≥ 0 then (if 0 ≤ x5 then (if x5 < (x0.length : Int) then (if x5 < (x1.length : Int) then (if (rd x0 x5) < (rd x1 x5) then (some (-1)) else (if (rd x0 x5) > (rd x1 x5) then (some 1) else (swageref02_size.l0 k x0 x1 (wrap64 (x5 - 1))))) else (none)) else (none)) else (none)) else (some 0)
def swageref02_size.f (k : Nat) (l0 : List Int) (l1 : List Int) : Option (Int) := if (l0.length : Int) = (l1.length : Int) then (swageref02_size.l0 k l0 l1 (wrap64 ((l0.length : Int) - 1))) else (if (l0.length : Int) < (l1.length : Int) then (some (-1)) else (some 1))
theorem swageref02_size.calls (k : Nat) (A0 : Option Addr) (c0 : Nat) (l0 : List Int) (A1 : Option Addr) (c1 : Nat) (l1 : List Int) (r : Int) (w : World) (hr0 : Kd.C (Kd.int .u32) w A0 l0.length l0) (hc0 : l0.length ≤ c0) (hr1 : Kd.C (Kd.int .u32) w A1 l1.length l1) (hc1 : l1.length ≤ c1) (h : swageref02_size.f k l0 l1 = some r) :
  Calls Tryd.prog 58 #[.slice A0 l0.length c0, .slice A1 l1.length c1] w fun e w' => e = .returned (.int .i64 r) ∧ Drawn0 w w' := by
 have HR0 := aM hr0
 have HC0 := aM hc0
 clear hr0 hc0
 have HR1 := aM hr1
 have HC1 := aM hc1
 clear hr1 hc1
 have H : (if (l0.length : Int) = (l1.length : Int) then (swageref02_size.l0 k l0 l1 (wrap64 ((l0.length : Int) - 1))) else (if (l0.length : Int) < (l1.length : Int) then (some (-1)) else (some 1))) = some r := h
 clear h
 by_cases c3 : (l0.length : Int) = (l1.length : Int)
 ·rw [if_pos c3] at H
  have c3b0 : ((l0.length : Int) == (l1.length : Int)) = true := beq_iff_eq.mpr c3
  have c3b1 : ((l0.length : Int) != (l1.length : Int)) = false := bne_eq_false_iff_eq.mpr c3
  have c3b2 : (l0.length == l1.length) = true := by first | simpa using c3 | (simp at c3 ⊢; omega)
  clear c3
  have H' := aM H
  clear H
  go_enter Tryd.func58, Tryd.ntmps58
  go_wp2
  repeat (go_quiet (fail); try go_wp2)
  go_loopg [5] k (fun kq v5 w' => ∃ (qA : Int), v5 = .int .i64 qA ∧ Aside0 (swageref02_size.l0 kq l0 l1 qA = some r) ∧ Aside0 (kq ≤ k) ∧ Drawn0 w w')
  case atStart => exact ⟨(wrap64 ((l0.length : Int) - 1)), zT, H', ⟨Nat.le_refl _⟩, by repeat (first | exact Drawn0.refl _ | apply Drawn0.step)⟩
  case round =>
   clear H'
   try clear c1
   try clear c3
   obtain ⟨qA, rfl, HA, HK1, ⟨m1, rfl⟩⟩ := hrel
   cases gk with
   | zero => exact absurd HA.out (by simp [swageref02_size.l0])
   | succ k1 =>
    have H := HA.out
    clear HA
    simp only [swageref02_size.l0] at H
    by_cases c4 : qA ≥ 0
    ·rw [if_pos c4] at H
     have c4b0 := decide_eq_true c4
     clear c4
     by_cases c5 : 0 ≤ qA
     ·rw [if_pos c5] at H
      have c5b0 := decide_eq_true c5
      clear c5
      by_cases c6 : qA < (l0.length : Int)
      ·rw [if_pos c6] at H
       have c6b0 := decide_eq_true c6
       clear c6
       by_cases c7 : qA < (l1.length : Int)
       ·rw [if_pos c7] at H
        have c7b0 := decide_eq_true c7
        clear c7
        by_cases c8 : (rd l0 qA) < (rd l1 qA)
        ·rw [if_pos c8] at H
         have c8b0 := decide_eq_true c8
         clear c8
         obtain rfl := Option.some.inj H
         have p221 : 0 ≤ (qA : Int) := of_decide_eq_true za
         have q221 : qA < (l0.length : Int) := of_decide_eq_true za
         obtain ⟨ad221, e221, hx221_0⟩ := Kd.at_int HR0.out qA p221 q221
         cases e221
         replace p221 := eq_true p221
         replace q221 := eq_true q221
         have p222 : 0 ≤ (qA : Int) := of_decide_eq_true za
         have q222 : qA < (l1.length : Int) := of_decide_eq_true za
         obtain ⟨ad222, e222, hx222_0⟩ := Kd.at_int HR1.out qA p222 q222
         cases e222
         replace p222 := eq_true p222
         replace q222 := eq_true q222
         go_wp2
         repeat (go_quiet (fail); try go_wp2)
         go_ret
         exact ⟨zT, by repeat (first | exact Drawn0.refl _ | apply Drawn0.step)⟩
        ·rw [if_neg c8] at H
         have c8b0 := decide_eq_false c8
         clear c8
         by_cases c9 : (rd l0 qA) > (rd l1 qA)
         ·rw [if_pos c9] at H
          have c9b0 := decide_eq_true c9
          clear c9
          obtain rfl := Option.some.inj H
          have p221 : 0 ≤ (qA : Int) := of_decide_eq_true za
          have q221 : qA < (l0.length : Int) := of_decide_eq_true za
          obtain ⟨ad221, e221, hx221_0⟩ := Kd.at_int HR0.out qA p221 q221
          cases e221
          replace p221 := eq_true p221
          replace q221 := eq_true q221
          have p222 : 0 ≤ (qA : Int) := of_decide_eq_true za
          have q222 : qA < (l1.length : Int) := of_decide_eq_true za
          obtain ⟨ad222, e222, hx222_0⟩ := Kd.at_int HR1.out qA p222 q222
          cases e222
          replace p222 := eq_true p222
          replace q222 := eq_true q222
          have p223 : 0 ≤ (qA : Int) := of_decide_eq_true za
          have q223 : qA < (l0.length : Int) := of_decide_eq_true za
          obtain ⟨ad223, e223, hx223_0⟩ := Kd.at_int HR0.out qA p223 q223
          obtain rfl : ad221 = ad223 := (by injection e223)
          replace p223 := eq_true p223
          replace q223 := eq_true q223
          have p224 : 0 ≤ (qA : Int) := of_decide_eq_true za
          have q224 : qA < (l1.length : Int) := of_decide_eq_true za
          obtain ⟨ad224, e224, hx224_0⟩ := Kd.at_int HR1.out qA p224 q224
          obtain rfl : ad222 = ad224 := (by injection e224)
          replace p224 := eq_true p224
          replace q224 := eq_true q224
          go_wp2
          repeat (go_quiet (fail); try go_wp2)
          go_ret
          exact ⟨zT, by repeat (first | exact Drawn0.refl _ | apply Drawn0.step)⟩
         ·rw [if_neg c9] at H
          have c9b0 := decide_eq_false c9
          clear c9
          have H' := aM H
          clear H
          have p221 : 0 ≤ (qA : Int) := of_decide_eq_true za
          have q221 : qA < (l0.length : Int) := of_decide_eq_true za
          obtain ⟨ad221, e221, hx221_0⟩ := Kd.at_int HR0.out qA p221 q221
          cases e221
          replace p221 := eq_true p221
          replace q221 := eq_true q221
          have p222 : 0 ≤ (qA : Int) := of_decide_eq_true za
          have q222 : qA < (l1.length : Int) := of_decide_eq_true za
          obtain ⟨ad222, e222, hx222_0⟩ := Kd.at_int HR1.out qA p222 q222
          cases e222
          replace p222 := eq_true p222
          replace q222 := eq_true q222
          have p223 : 0 ≤ (qA : Int) := of_decide_eq_true za
          have q223 : qA < (l0.length : Int) := of_decide_eq_true za
          obtain ⟨ad223, e223, hx223_0⟩ := Kd.at_int HR0.out qA p223 q223
          obtain rfl : ad221 = ad223 := (by injection e223)
          replace p223 := eq_true p223
          replace q223 := eq_true q223
          have p224 : 0 ≤ (qA : Int) := of_decide_eq_true za
          have q224 : qA < (l1.length : Int) := of_decide_eq_true za
          obtain ⟨ad224, e224, hx224_0⟩ := Kd.at_int HR1.out qA p224 q224
          obtain rfl : ad222 = ad224 := (by injection e224)
          replace p224 := eq_true p224
          replace q224 := eq_true q224
          go_wp2
          repeat (go_quiet (fail); try go_wp2)
          go_roundg k1
          case measure => have := HK1.out; omega
          case rel => exact ⟨(wrap64 (qA - 1)), zT, H', ⟨by have := HK1.out; omega⟩, by repeat (first | exact Drawn0.refl _ | apply Drawn0.step)⟩
       ·rw [if_neg c7] at H
        exact absurd H (by simp)
      ·rw [if_neg c6] at H
       exact absurd H (by simp)
     ·rw [if_neg c5] at H
      exact absurd H (by simp)
    ·rw [if_neg c4] at H
     have c4b0 := decide_eq_false c4
     clear c4
     obtain rfl := Option.some.inj H
     go_wp2
     repeat (go_quiet (fail); try go_wp2)
     go_ret
     exact ⟨zT, by repeat (first | exact Drawn0.refl _ | apply Drawn0.step)⟩
 ·rw [if_neg c3] at H
  have c3b0 : ((l0.length : Int) == (l1.length : Int)) = false := beq_eq_false_iff_ne.mpr c3
  have c3b1 : ((l0.length : Int) != (l1.length : Int)) = true := bne_iff_ne.mpr c3
  have c3b2 : (l0.length == l1.length) = false := by first | simpa using c3 | (simp at c3 ⊢; omega)
  by_cases c10 : (l0.length : Int) < (l1.length : Int)
  ·rw [if_pos c10] at H
   have c10b0 := decide_eq_true c10
   have c10b1 : decide (l0.length < l1.length) = true := decide_eq_true (Int.ofNat_lt.mp c10)
   clear c10
   obtain rfl := Option.some.inj H
   go_enter Tryd.func58, Tryd.ntmps58
   go_wp2
   repeat (go_quiet (fail); try go_wp2)
   go_ret
   exact ⟨zT, by repeat (first | exact Drawn0.refl _ | apply Drawn0.step)⟩
  ·rw [if_neg c10] at H
   have c10b0 := decide_eq_false c10
   have c10b1 : decide (l0.length < l1.length) = false := decide_eq_false (fun h => c10 (Int.ofNat_lt.mpr h))
   clear c10
   obtain rfl := Option.some.inj H
   go_enter Tryd.func58, Tryd.ntmps58
   go_wp2
   repeat (go_quiet (fail); try go_wp2)
   go_ret
   exact ⟨zT, by repeat (first | exact Drawn0.refl _ | apply Drawn0.step)⟩
def swageref02_minus.l0 : Nat → List Int → List Int → List Int → Int → Int → Option (List Int)
 | 0, _, _, _, _, _ => none
 | k + 1, x0, x1, x5, x6, x7 => if x7 < (x0.length : Int) then (if x7 < (x1.length : Int) then (if 0 ≤ x7 then (if (rd x0 x7) < ((x6 + (rd x1 x7)) % 4294967296) then (if x5.length < 35184372088832 then (swageref02_minus.l0 k x0 x1 (x5 ++ [(((rd x0 x7) + 65536) - (x6 + (rd x1 x7))) % 4294967296]) 1 (wrap64 (x7 + 1))) else (none)) else (if x5.length < 35184372088832 then (swageref02_minus.l0 k x0 x1 (x5 ++ [((rd x0 x7) - (x6 + (rd x1 x7))) % 4294967296]) 0 (wrap64 (x7 + 1))) else (none))) else (none)) else (if 0 ≤ x7 then (if (rd x0 x7) < x6 then (if x5.length < 35184372088832 then (swageref02_minus.l0 k x0 x1 (x5 ++ [(((rd x0 x7) + 65536) - x6) % 4294967296]) 1 (wrap64 (x7 + 1))) else (none)) else (if x5.length < 35184372088832 then (swageref02_minus.l0 k x0 x1 (x5 ++ [((rd x0 x7) - x6) % 4294967296]) 0 (wrap64 (x7 + 1))) else (none))) else (none))) else (some x5)
def swageref02_minus.f (k : Nat) (l0 : List Int) (l1 : List Int) : Option (List Int) := swageref02_minus.l0 k l0 l1 ([] : List Int) 0 0
theorem swageref02_minus.calls (k : Nat) (A0 : Option Addr) (c0 : Nat) (l0 : List Int) (A1 : Option Addr) (c1 : Nat) (l1 : List Int) (r : List Int) (w : World) (hr0 : Kd.C (Kd.int .u32) w A0 l0.length l0) (hc0 : l0.length ≤ c0) (hr1 : Kd.C (Kd.int .u32) w A1 l1.length l1) (hc1 : l1.length ≤ c1) (h : swageref02_minus.f k l0 l1 = some r) :
  Calls Tryd.prog 59 #[.slice A0 l0.length c0, .slice A1 l1.length c1] w fun e w' => ∃ v0_ : Value, e = .returned (v0_) ∧ Kd.R (Kd.int .u32) 76 w' w.heap.size (fun _ => True) v0_ r ∧ Below w.heap.size w w' := by
 have HR0 := aM hr0
 have HC0 := aM hc0
 clear hr0 hc0
 have HR1 := aM hr1
 have HC1 := aM hc1
 clear hr1 hc1
 have HB := aM (Below.refl w.heap.size w)
 have H : (swageref02_minus.l0 k l0 l1 ([] : List Int) 0 0) = some r := h
 clear h
 have H' := aM H
 clear H
 go_enter Tryd.func59, Tryd.ntmps59
 go_wp2
 go_loopg [5, 6, 7] k (fun kq v5 v6 v7 w' => ∃ (qC : List Int) (qB : Int) (qA : Int), v6 = .int .u32 qB ∧ v7 = .int .i64 qA ∧ Aside0 (swageref02_minus.l0 kq l0 l1 qC qB qA = some r) ∧ Aside0 (kq ≤ k) ∧ Aside0 (Kd.R (Kd.int .u32) 76 w' w.heap.size (fun _ => True) v5 qC) ∧ Aside0 (Below w.heap.size w w'))
 case atStart => exact ⟨(([] : List Int)), (0), (0), zT, zT, H', ⟨Nat.le_refl _⟩, ⟨zn⟩, ⟨zB HB⟩⟩
 case round =>
  clear H'
  try clear c1
  obtain ⟨qC, qB, qA, rfl, rfl, HA, HK1, qD, HB⟩ := hrel
  cases gk with
  | zero => exact absurd HA.out (by simp [swageref02_minus.l0])
  | succ k1 =>
   have H := HA.out
   clear HA
   simp only [swageref02_minus.l0] at H
   by_cases c3 : qA < (l0.length : Int)
   ·rw [if_pos c3] at H
    have c3b0 := decide_eq_true c3
    clear c3
    by_cases c4 : qA < (l1.length : Int)
    ·rw [if_pos c4] at H
     have c4b0 := decide_eq_true c4
     clear c4
     by_cases c5 : 0 ≤ qA
     ·rw [if_pos c5] at H
      have c5b0 := decide_eq_true c5
      clear c5
      by_cases c6 : (rd l0 qA) < ((qB + (rd l1 qA)) % 4294967296)
      ·rw [if_pos c6] at H
       have c6b0 := decide_eq_true c6
       clear c6
       by_cases c7 : qC.length < 35184372088832
       ·rw [if_pos c7] at H
        have LMc7 := aM c7
        clear c7
        obtain ⟨y227, hy227⟩ : ∃ y_ : List Int, y_ = (qC ++ [(((rd l0 qA) + 65536) - (qB + (rd l1 qA))) % 4294967296]) := ⟨_, rfl⟩
        replace H : (swageref02_minus.l0 k1 l0 l1 y227 1 (wrap64 (qA + 1))) = some r := zH hy227 H
        have Ny227 := aM hy227
        clear hy227
        have H' := aM H
        clear H
        have p225 : 0 ≤ (qA : Int) := of_decide_eq_true za
        have q225 : qA < (l1.length : Int) := of_decide_eq_true za
        obtain ⟨ad225, e225, hx225_0⟩ := Kd.at_int HR1.out qA p225 q225
        cases e225
        replace hx225_0 := (HB.out.cell (World.block_lt_of_cell? w _ hx225_0)).trans hx225_0
        replace p225 := eq_true p225
        replace q225 := eq_true q225
        have p226 : 0 ≤ (qA : Int) := of_decide_eq_true za
        have q226 : qA < (l0.length : Int) := of_decide_eq_true za
        obtain ⟨ad226, e226, hx226_0⟩ := Kd.at_int HR0.out qA p226 q226
        cases e226
        replace hx226_0 := (HB.out.cell (World.block_lt_of_cell? w _ hx226_0)).trans hx226_0
        replace p226 := eq_true p226
        replace q226 := eq_true q226
        go_wp2_with (first | ((with_reducible refine gate_builtin (b := .append) (xs := #[.tmp 36, .tmp 40]) rfl ?_); at_builtin; refine Kd.R_append (Kd.int .u32) (w0 := w) w.heap.size rfl (.tmp 36) (.tmp 40) 37 76 (.int .u32 0) 4 rfl Tryd.underlying37 info76 rfl (by decide) (by omega) u5 qC ((((rd l0 qA) + 65536) - (qB + (rd l1 qA))) % 4294967296) [.int .u32 ((((rd l0 qA) + 65536) - (qB + (rd l1 qA))) % 4294967296)] (fun _ => True) (fun _ => False) rfl rfl ?aP (fun _ hk => hk.elim) ?aF ?aO ?aB ?aS ?aL ?_; (case aP => exact rfl); (case aB => exact (lB HB)); (case aF => exact (fun _ _ => trivial)); (case aO => exact (lR qD)); (case aS => exact (z4_ (lB HB))); (case aL => have := LMc7.out; omega); intro v228 w8 ho hb hg hat; rw [← Ny227.out] at ho; replace HB := aM (hb); have qE := aM (ho); clear qD; clear ho hb hg hat))
        go_roundg k1
        case measure => have := HK1.out; omega
        case rel => exact ⟨(y227), (1), (wrap64 (qA + 1)), zT, zT, H', ⟨by have := HK1.out; omega⟩, ⟨lR qE⟩, ⟨zB HB⟩⟩
       ·rw [if_neg c7] at H
        exact absurd H (by simp)
      ·rw [if_neg c6] at H
       have c6b0 := decide_eq_false c6
       clear c6
       by_cases c9 : qC.length < 35184372088832
       ·rw [if_pos c9] at H
        have LMc9 := aM c9
        clear c9
        obtain ⟨y230, hy230⟩ : ∃ y_ : List Int, y_ = (qC ++ [((rd l0 qA) - (qB + (rd l1 qA))) % 4294967296]) := ⟨_, rfl⟩
        replace H : (swageref02_minus.l0 k1 l0 l1 y230 0 (wrap64 (qA + 1))) = some r := zH hy230 H
        have Ny230 := aM hy230
        clear hy230
        have H' := aM H
        clear H
        have p225 : 0 ≤ (qA : Int) := of_decide_eq_true za
        have q225 : qA < (l1.length : Int) := of_decide_eq_true za
        obtain ⟨ad225, e225, hx225_0⟩ := Kd.at_int HR1.out qA p225 q225
        cases e225
        replace hx225_0 := (HB.out.cell (World.block_lt_of_cell? w _ hx225_0)).trans hx225_0
        replace p225 := eq_true p225
        replace q225 := eq_true q225
        have p226 : 0 ≤ (qA : Int) := of_decide_eq_true za
        have q226 : qA < (l0.length : Int) := of_decide_eq_true za
        obtain ⟨ad226, e226, hx226_0⟩ := Kd.at_int HR0.out qA p226 q226
        cases e226
        replace hx226_0 := (HB.out.cell (World.block_lt_of_cell? w _ hx226_0)).trans hx226_0
        replace p226 := eq_true p226
        replace q226 := eq_true q226
        go_wp2_with (first | ((with_reducible refine gate_builtin (b := .append) (xs := #[.tmp 36, .tmp 40]) rfl ?_); at_builtin; refine Kd.R_append (Kd.int .u32) (w0 := w) w.heap.size rfl (.tmp 36) (.tmp 40) 37 76 (.int .u32 0) 4 rfl Tryd.underlying37 info76 rfl (by decide) (by omega) u5 qC (((rd l0 qA) - (qB + (rd l1 qA))) % 4294967296) [.int .u32 (((rd l0 qA) - (qB + (rd l1 qA))) % 4294967296)] (fun _ => True) (fun _ => False) rfl rfl ?aP (fun _ hk => hk.elim) ?aF ?aO ?aB ?aS ?aL ?_; (case aP => exact rfl); (case aB => exact (lB HB)); (case aF => exact (fun _ _ => trivial)); (case aO => exact (lR qD)); (case aS => exact (z4_ (lB HB))); (case aL => have := LMc9.out; omega); intro v231 w10 ho hb hg hat; rw [← Ny230.out] at ho; replace HB := aM (hb); have qF := aM (ho); clear qD; clear ho hb hg hat))
        go_roundg k1
        case measure => have := HK1.out; omega
        case rel => exact ⟨(y230), (0), (wrap64 (qA + 1)), zT, zT, H', ⟨by have := HK1.out; omega⟩, ⟨lR qF⟩, ⟨zB HB⟩⟩
       ·rw [if_neg c9] at H
        exact absurd H (by simp)
     ·rw [if_neg c5] at H
      exact absurd H (by simp)
    ·rw [if_neg c4] at H
     have c4b0 := decide_eq_false c4
     clear c4
     by_cases c11 : 0 ≤ qA
     ·rw [if_pos c11] at H
      have c11b0 := decide_eq_true c11
      clear c11
      by_cases c12 : (rd l0 qA) < qB
      ·rw [if_pos c12] at H
       have c12b0 := decide_eq_true c12
       clear c12
       by_cases c13 : qC.length < 35184372088832
       ·rw [if_pos c13] at H
        have LMc13 := aM c13
        clear c13
        obtain ⟨y234, hy234⟩ : ∃ y_ : List Int, y_ = (qC ++ [(((rd l0 qA) + 65536) - qB) % 4294967296]) := ⟨_, rfl⟩
        replace H : (swageref02_minus.l0 k1 l0 l1 y234 1 (wrap64 (qA + 1))) = some r := zH hy234 H
        have Ny234 := aM hy234
        clear hy234
        have H' := aM H
        clear H
        have p233 : 0 ≤ (qA : Int) := of_decide_eq_true za
        have q233 : qA < (l0.length : Int) := of_decide_eq_true za
        obtain ⟨ad233, e233, hx233_0⟩ := Kd.at_int HR0.out qA p233 q233
        cases e233
        replace hx233_0 := (HB.out.cell (World.block_lt_of_cell? w _ hx233_0)).trans hx233_0
        replace p233 := eq_true p233
        replace q233 := eq_true q233
        go_wp2_with (first | ((with_reducible refine gate_builtin (b := .append) (xs := #[.tmp 36, .tmp 40]) rfl ?_); at_builtin; refine Kd.R_append (Kd.int .u32) (w0 := w) w.heap.size rfl (.tmp 36) (.tmp 40) 37 76 (.int .u32 0) 4 rfl Tryd.underlying37 info76 rfl (by decide) (by omega) u5 qC ((((rd l0 qA) + 65536) - qB) % 4294967296) [.int .u32 ((((rd l0 qA) + 65536) - qB) % 4294967296)] (fun _ => True) (fun _ => False) rfl rfl ?aP (fun _ hk => hk.elim) ?aF ?aO ?aB ?aS ?aL ?_; (case aP => exact rfl); (case aB => exact (lB HB)); (case aF => exact (fun _ _ => trivial)); (case aO => exact (lR qD)); (case aS => exact (z4_ (lB HB))); (case aL => have := LMc13.out; omega); intro v235 w14 ho hb hg hat; rw [← Ny234.out] at ho; replace HB := aM (hb); have qG := aM (ho); clear qD; clear ho hb hg hat))
        go_roundg k1
        case measure => have := HK1.out; omega
        case rel => exact ⟨(y234), (1), (wrap64 (qA + 1)), zT, zT, H', ⟨by have := HK1.out; omega⟩, ⟨lR qG⟩, ⟨zB HB⟩⟩
       ·rw [if_neg c13] at H
        exact absurd H (by simp)
      ·rw [if_neg c12] at H
       have c12b0 := decide_eq_false c12
       clear c12
       by_cases c15 : qC.length < 35184372088832
       ·rw [if_pos c15] at H
        have LMc15 := aM c15
        clear c15
        obtain ⟨y237, hy237⟩ : ∃ y_ : List Int, y_ = (qC ++ [((rd l0 qA) - qB) % 4294967296]) := ⟨_, rfl⟩
        replace H : (swageref02_minus.l0 k1 l0 l1 y237 0 (wrap64 (qA + 1))) = some r := zH hy237 H
        have Ny237 := aM hy237
        clear hy237
        have H' := aM H
        clear H
        have p233 : 0 ≤ (qA : Int) := of_decide_eq_true za
        have q233 : qA < (l0.length : Int) := of_decide_eq_true za
        obtain ⟨ad233, e233, hx233_0⟩ := Kd.at_int HR0.out qA p233 q233
        cases e233
        replace hx233_0 := (HB.out.cell (World.block_lt_of_cell? w _ hx233_0)).trans hx233_0
        replace p233 := eq_true p233
        replace q233 := eq_true q233
        go_wp2_with (first | ((with_reducible refine gate_builtin (b := .append) (xs := #[.tmp 36, .tmp 40]) rfl ?_); at_builtin; refine Kd.R_append (Kd.int .u32) (w0 := w) w.heap.size rfl (.tmp 36) (.tmp 40) 37 76 (.int .u32 0) 4 rfl Tryd.underlying37 info76 rfl (by decide) (by omega) u5 qC (((rd l0 qA) - qB) % 4294967296) [.int .u32 (((rd l0 qA) - qB) % 4294967296)] (fun _ => True) (fun _ => False) rfl rfl ?aP (fun _ hk => hk.elim) ?aF ?aO ?aB ?aS ?aL ?_; (case aP => exact rfl); (case aB => exact (lB HB)); (case aF => exact (fun _ _ => trivial)); (case aO => exact (lR qD)); (case aS => exact (z4_ (lB HB))); (case aL => have := LMc15.out; omega); intro v238 w16 ho hb hg hat; rw [← Ny237.out] at ho; replace HB := aM (hb); have qH := aM (ho); clear qD; clear ho hb hg hat))
        go_roundg k1
        case measure => have := HK1.out; omega
        case rel => exact ⟨(y237), (0), (wrap64 (qA + 1)), zT, zT, H', ⟨by have := HK1.out; omega⟩, ⟨lR qH⟩, ⟨zB HB⟩⟩
       ·rw [if_neg c15] at H
        exact absurd H (by simp)
     ·rw [if_neg c11] at H
      exact absurd H (by simp)
   ·rw [if_neg c3] at H
    have c3b0 := decide_eq_false c3
    clear c3
    obtain rfl := Option.some.inj H
    go_wp2
    go_ret
    exact ⟨_, zE, by apply rX; exact qD.out, zB HB⟩
end Go.Proofs.YtakmkhokbcjapaaDoor.XA
end
section
namespace Go.Proofs.YtakmkhokbcjapaaDoor.XA
open Go.Proofs.YtakmkhokbcjapaaDoor.Lift Go.RowKit Go.Proofs.YtakmkhokbcjapaaDoorW.PrintWords Go.Proofs.YtakmkhokbcjapaaDoorW.PrintLast Go.Proofs.YtakmkhokbcjapaaDoorW.PrintMore
attribute [local go_sem] max2_int min2_int max_two min_two max_three min_three max_four min_four
mutual
def swageref02_plus.l0 : Nat → List Int → List Int → List Int → Int → Int → Option (List Int)
 | 0, _, _, _, _, _ => none
 | k + 1, x0, x1, x5, x6, x7 => if x7 < (x0.length : Int) then (swageref02_plus.j1 k x0 x1 x5 x6 x7 true) else (if x7 < (x1.length : Int) then (swageref02_plus.j1 k x0 x1 x5 x6 x7 true) else (swageref02_plus.j1 k x0 x1 x5 x6 x7 (decide (x6 > 0))))
def swageref02_plus.j1 : Nat → List Int → List Int → List Int → Int → Int → Bool → Option (List Int)
 | 0, _, _, _, _, _, _ => none
 | k + 1, x0, x1, x5, x6, x7, x21 => if x21 = true then (if x7 < (x0.length : Int) then (if 0 ≤ x7 then (if x7 < (x1.length : Int) then (if x5.length < 35184372088832 then (swageref02_plus.l0 k x0 x1 (x5 ++ [((x6 + (rd x0 x7)) + (rd x1 x7)) % 65536]) ((((x6 + (rd x0 x7)) + (rd x1 x7)) % 4294967296) / 65536) (wrap64 (x7 + 1))) else (none)) else (if x5.length < 35184372088832 then (swageref02_plus.l0 k x0 x1 (x5 ++ [(x6 + (rd x0 x7)) % 65536]) (((x6 + (rd x0 x7)) % 4294967296) / 65536) (wrap64 (x7 + 1))) else (none))) else (none)) else (if x7 < (x1.length : Int) then (if 0 ≤ x7 then (if x5.length < 35184372088832 then (swageref02_plus.l0 k x0 x1 (x5 ++ [(x6 + (rd x1 x7)) % 65536]) (((x6 + (rd x1 x7)) % 4294967296) / 65536) (wrap64 (x7 + 1))) else (none)) else (none)) else (if x5.length < 35184372088832 then (swageref02_plus.l0 k x0 x1 (x5 ++ [Int.tmod x6 65536]) ((Int.tdiv x6 65536) % 4294967296) (wrap64 (x7 + 1))) else (none)))) else (some x5)
end
def swageref02_plus.f (k : Nat) (l0 : List Int) (l1 : List Int) : Option (List Int) := swageref02_plus.l0 k l0 l1 ([] : List Int) 0 0
theorem swageref02_plus.calls (k : Nat) (A0 : Option Addr) (c0 : Nat) (l0 : List Int) (A1 : Option Addr) (c1 : Nat) (l1 : List Int) (r : List Int) (w : World) (hr0 : Kd.C (Kd.int .u32) w A0 l0.length l0) (hc0 : l0.length ≤ c0) (hr1 : Kd.C (Kd.int .u32) w A1 l1.length l1) (hc1 : l1.length ≤ c1) (h : swageref02_plus.f k l0 l1 = some r) :
  Calls Tryd.prog 57 #[.slice A0 l0.length c0, .slice A1 l1.length c1] w fun e w' => ∃ v0_ : Value, e = .returned (v0_) ∧ Kd.R (Kd.int .u32) 76 w' w.heap.size (fun _ => True) v0_ r ∧ Below w.heap.size w w' := by
 have HR0 := aM hr0
 have HC0 := aM hc0
 clear hr0 hc0
 have HR1 := aM hr1
 have HC1 := aM hc1
 clear hr1 hc1
 have HB := aM (Below.refl w.heap.size w)
 have H : (swageref02_plus.l0 k l0 l1 ([] : List Int) 0 0) = some r := h
 clear h
 have H' := aM H
 clear H
 go_enter Tryd.func57, Tryd.ntmps57
 go_wp2
 go_loopg [5, 6, 7] k (fun kq v5 v6 v7 w' => ∃ (qC : List Int) (qB : Int) (qA : Int), v6 = .int .u32 qB ∧ v7 = .int .i64 qA ∧ Aside0 (swageref02_plus.l0 kq l0 l1 qC qB qA = some r) ∧ Aside0 (kq ≤ k) ∧ Aside0 (Kd.R (Kd.int .u32) 76 w' w.heap.size (fun _ => True) v5 qC) ∧ Aside0 (Below w.heap.size w w'))
 case atStart => exact ⟨(([] : List Int)), (0), (0), zT, zT, H', ⟨Nat.le_refl _⟩, ⟨zn⟩, ⟨zB HB⟩⟩
 case round =>
  clear H'
  try clear c1
  obtain ⟨qC, qB, qA, rfl, rfl, HA, HK1, qD, HB⟩ := hrel
  cases gk with
  | zero => exact absurd HA.out (by simp [swageref02_plus.l0])
  | succ k1 =>
   have H := HA.out
   clear HA
   simp only [swageref02_plus.l0] at H
   have HC3 := aM H
   clear H
   go_upto_region 4 with (fail)
   go_cut [21] (fun v21 wc => ∃ (kq : Nat) (qE : Bool), v21 = .bool qE ∧ Aside0 (swageref02_plus.j1 kq l0 l1 qC qB qA qE = some r) ∧ Aside0 (kq ≤ k1) ∧ Aside0 (Kd.R (Kd.int .u32) 76 wc w.heap.size (fun _ => True) u5 qC) ∧ Aside0 (Below w.heap.size w wc))
   case first =>
    have H := HC3.out
    clear HC3
    by_cases c4 : qA < (l0.length : Int)
    ·rw [if_pos c4] at H
     have c4b0 := decide_eq_true c4
     clear c4
     (first | rw [c4b0] | (simp only [i64_w, i32_w]; rw [c4b0]) | skip)
     have H' := aM H
     clear H
     go_wp2
     go_meet
     case rel => exact ⟨_, (true), zT, H', ⟨by have := HK1.out; first | omega | exact Nat.le_refl _⟩, ⟨lR qD⟩, ⟨zB HB⟩⟩
    ·rw [if_neg c4] at H
     have c4b0 := decide_eq_false c4
     clear c4
     (first | rw [c4b0] | (simp only [i64_w, i32_w]; rw [c4b0]) | skip)
     by_cases c5 : qA < (l1.length : Int)
     ·rw [if_pos c5] at H
      have c5b0 := decide_eq_true c5
      clear c5
      have H' := aM H
      clear H
      go_wp2
      go_meet
      case rel => exact ⟨_, (true), zT, H', ⟨by have := HK1.out; first | omega | exact Nat.le_refl _⟩, ⟨lR qD⟩, ⟨zB HB⟩⟩
     ·rw [if_neg c5] at H
      have c5b0 := decide_eq_false c5
      clear c5
      have H' := aM H
      clear H
      go_wp2
      go_meet
      case rel => exact ⟨_, (decide (qB > 0)), (by first | rfl | (simp; done) | (simp [*]; done) | (simp; omega)), H', ⟨by have := HK1.out; first | omega | exact Nat.le_refl _⟩, ⟨lR qD⟩, ⟨zB HB⟩⟩
   case rest =>
    clear HC3
    try clear c1
    obtain ⟨kq, qE, rfl, HA, HJ2, qD, HB⟩ := hcut
    cases kq with
    | zero => exact absurd HA.out (by simp [swageref02_plus.j1])
    | succ kj2 =>
     have H := HA.out
     clear HA
     simp only [swageref02_plus.j1] at H
     by_cases c6 : qE = true
     ·subst c6
      have H1 : (if qA < (l0.length : Int) then (if 0 ≤ qA then (if qA < (l1.length : Int) then (if qC.length < 35184372088832 then (swageref02_plus.l0 kj2 l0 l1 (qC ++ [((qB + (rd l0 qA)) + (rd l1 qA)) % 65536]) ((((qB + (rd l0 qA)) + (rd l1 qA)) % 4294967296) / 65536) (wrap64 (qA + 1))) else (none)) else (if qC.length < 35184372088832 then (swageref02_plus.l0 kj2 l0 l1 (qC ++ [(qB + (rd l0 qA)) % 65536]) (((qB + (rd l0 qA)) % 4294967296) / 65536) (wrap64 (qA + 1))) else (none))) else (none)) else (if qA < (l1.length : Int) then (if 0 ≤ qA then (if qC.length < 35184372088832 then (swageref02_plus.l0 kj2 l0 l1 (qC ++ [(qB + (rd l1 qA)) % 65536]) (((qB + (rd l1 qA)) % 4294967296) / 65536) (wrap64 (qA + 1))) else (none)) else (none)) else (if qC.length < 35184372088832 then (swageref02_plus.l0 kj2 l0 l1 (qC ++ [Int.tmod qB 65536]) ((Int.tdiv qB 65536) % 4294967296) (wrap64 (qA + 1))) else (none)))) = some r := by rw [if_pos rfl] at H; exact H
      clear H
      have H := H1
      clear H1
      by_cases c7 : qA < (l0.length : Int)
      ·rw [if_pos c7] at H
       have c7b0 := decide_eq_true c7
       clear c7
       by_cases c8 : 0 ≤ qA
       ·rw [if_pos c8] at H
        have c8b0 := decide_eq_true c8
        clear c8
        by_cases c9 : qA < (l1.length : Int)
        ·rw [if_pos c9] at H
         have c9b0 := decide_eq_true c9
         clear c9
         by_cases c10 : qC.length < 35184372088832
         ·rw [if_pos c10] at H
          have LMc10 := aM c10
          clear c10
          obtain ⟨y475, hy475⟩ : ∃ y_ : List Int, y_ = (qC ++ [((qB + (rd l0 qA)) + (rd l1 qA)) % 65536]) := ⟨_, rfl⟩
          replace H : (swageref02_plus.l0 kj2 l0 l1 y475 ((((qB + (rd l0 qA)) + (rd l1 qA)) % 4294967296) / 65536) (wrap64 (qA + 1))) = some r := zH hy475 H
          have Ny475 := aM hy475
          clear hy475
          have H' := aM H
          clear H
          have p473 : 0 ≤ (qA : Int) := of_decide_eq_true za
          have q473 : qA < (l0.length : Int) := of_decide_eq_true za
          obtain ⟨ad473, e473, hx473_0⟩ := Kd.at_int HR0.out qA p473 q473
          cases e473
          replace hx473_0 := (HB.out.cell (World.block_lt_of_cell? w _ hx473_0)).trans hx473_0
          replace p473 := eq_true p473
          replace q473 := eq_true q473
          have p474 : 0 ≤ (qA : Int) := of_decide_eq_true za
          have q474 : qA < (l1.length : Int) := of_decide_eq_true za
          obtain ⟨ad474, e474, hx474_0⟩ := Kd.at_int HR1.out qA p474 q474
          cases e474
          replace hx474_0 := (HB.out.cell (World.block_lt_of_cell? w _ hx474_0)).trans hx474_0
          replace p474 := eq_true p474
          replace q474 := eq_true q474
          go_wp2_with (first | ((with_reducible refine gate_builtin (b := .append) (xs := #[.tmp 44, .tmp 47]) rfl ?_); (try (refine gate_guard (by rfl) ?_; dsimp only)); at_builtin; refine Kd.R_append (Kd.int .u32) (w0 := w) w.heap.size rfl (.tmp 44) (.tmp 47) 37 76 (.int .u32 0) 4 rfl Tryd.underlying37 info76 rfl (by decide) (by omega) u5 qC (((qB + (rd l0 qA)) + (rd l1 qA)) % 65536) [.int .u32 (((qB + (rd l0 qA)) + (rd l1 qA)) % 65536)] (fun _ => True) (fun _ => False) rfl rfl ?aP (fun _ hk => hk.elim) ?aF ?aO ?aB ?aS ?aL ?_; (case aP => exact rfl); (case aB => exact (lB HB)); (case aF => exact (fun _ _ => trivial)); (case aO => exact (lR qD)); (case aS => exact (z4_ (lB HB))); (case aL => have := LMc10.out; omega); intro v476 w11 ho hb hg hat; rw [← Ny475.out] at ho; replace HB := aM (hb); have qF := aM (ho); clear qD; clear ho hb hg hat))
          go_roundg kj2
          case measure => have := HK1.out; have := HJ2.out; omega
          case rel => exact ⟨(y475), ((((qB + (rd l0 qA)) + (rd l1 qA)) % 4294967296) / 65536), (wrap64 (qA + 1)), zT, zT, H', ⟨by have := HK1.out; have := HJ2.out; omega⟩, ⟨lR qF⟩, ⟨zB HB⟩⟩
         ·rw [if_neg c10] at H
          exact absurd H (by simp)
        ·rw [if_neg c9] at H
         have c9b0 := decide_eq_false c9
         clear c9
         by_cases c12 : qC.length < 35184372088832
         ·rw [if_pos c12] at H
          have LMc12 := aM c12
          clear c12
          obtain ⟨y478, hy478⟩ : ∃ y_ : List Int, y_ = (qC ++ [(qB + (rd l0 qA)) % 65536]) := ⟨_, rfl⟩
          replace H : (swageref02_plus.l0 kj2 l0 l1 y478 (((qB + (rd l0 qA)) % 4294967296) / 65536) (wrap64 (qA + 1))) = some r := zH hy478 H
          have Ny478 := aM hy478
          clear hy478
          have H' := aM H
          clear H
          have p473 : 0 ≤ (qA : Int) := of_decide_eq_true za
          have q473 : qA < (l0.length : Int) := of_decide_eq_true za
          obtain ⟨ad473, e473, hx473_0⟩ := Kd.at_int HR0.out qA p473 q473
          cases e473
          replace hx473_0 := (HB.out.cell (World.block_lt_of_cell? w _ hx473_0)).trans hx473_0
          replace p473 := eq_true p473
          replace q473 := eq_true q473
          go_wp2_with (first | ((with_reducible refine gate_builtin (b := .append) (xs := #[.tmp 44, .tmp 47]) rfl ?_); (try (refine gate_guard (by rfl) ?_; dsimp only)); at_builtin; refine Kd.R_append (Kd.int .u32) (w0 := w) w.heap.size rfl (.tmp 44) (.tmp 47) 37 76 (.int .u32 0) 4 rfl Tryd.underlying37 info76 rfl (by decide) (by omega) u5 qC ((qB + (rd l0 qA)) % 65536) [.int .u32 ((qB + (rd l0 qA)) % 65536)] (fun _ => True) (fun _ => False) rfl rfl ?aP (fun _ hk => hk.elim) ?aF ?aO ?aB ?aS ?aL ?_; (case aP => exact rfl); (case aB => exact (lB HB)); (case aF => exact (fun _ _ => trivial)); (case aO => exact (lR qD)); (case aS => exact (z4_ (lB HB))); (case aL => have := LMc12.out; omega); intro v479 w13 ho hb hg hat; rw [← Ny478.out] at ho; replace HB := aM (hb); have qG := aM (ho); clear qD; clear ho hb hg hat))
          go_roundg kj2
          case measure => have := HK1.out; have := HJ2.out; omega
          case rel => exact ⟨(y478), (((qB + (rd l0 qA)) % 4294967296) / 65536), (wrap64 (qA + 1)), zT, zT, H', ⟨by have := HK1.out; have := HJ2.out; omega⟩, ⟨lR qG⟩, ⟨zB HB⟩⟩
         ·rw [if_neg c12] at H
          exact absurd H (by simp)
       ·rw [if_neg c8] at H
        exact absurd H (by simp)
      ·rw [if_neg c7] at H
       have c7b0 := decide_eq_false c7
       clear c7
       by_cases c14 : qA < (l1.length : Int)
       ·rw [if_pos c14] at H
        have c14b0 := decide_eq_true c14
        clear c14
        by_cases c15 : 0 ≤ qA
        ·rw [if_pos c15] at H
         have c15b0 := decide_eq_true c15
         clear c15
         by_cases c16 : qC.length < 35184372088832
         ·rw [if_pos c16] at H
          have LMc16 := aM c16
          clear c16
          obtain ⟨y482, hy482⟩ : ∃ y_ : List Int, y_ = (qC ++ [(qB + (rd l1 qA)) % 65536]) := ⟨_, rfl⟩
          replace H : (swageref02_plus.l0 kj2 l0 l1 y482 (((qB + (rd l1 qA)) % 4294967296) / 65536) (wrap64 (qA + 1))) = some r := zH hy482 H
          have Ny482 := aM hy482
          clear hy482
          have H' := aM H
          clear H
          have p481 : 0 ≤ (qA : Int) := of_decide_eq_true za
          have q481 : qA < (l1.length : Int) := of_decide_eq_true za
          obtain ⟨ad481, e481, hx481_0⟩ := Kd.at_int HR1.out qA p481 q481
          cases e481
          replace hx481_0 := (HB.out.cell (World.block_lt_of_cell? w _ hx481_0)).trans hx481_0
          replace p481 := eq_true p481
          replace q481 := eq_true q481
          go_wp2_with (first | ((with_reducible refine gate_builtin (b := .append) (xs := #[.tmp 44, .tmp 47]) rfl ?_); (try (refine gate_guard (by rfl) ?_; dsimp only)); at_builtin; refine Kd.R_append (Kd.int .u32) (w0 := w) w.heap.size rfl (.tmp 44) (.tmp 47) 37 76 (.int .u32 0) 4 rfl Tryd.underlying37 info76 rfl (by decide) (by omega) u5 qC ((qB + (rd l1 qA)) % 65536) [.int .u32 ((qB + (rd l1 qA)) % 65536)] (fun _ => True) (fun _ => False) rfl rfl ?aP (fun _ hk => hk.elim) ?aF ?aO ?aB ?aS ?aL ?_; (case aP => exact rfl); (case aB => exact (lB HB)); (case aF => exact (fun _ _ => trivial)); (case aO => exact (lR qD)); (case aS => exact (z4_ (lB HB))); (case aL => have := LMc16.out; omega); intro v483 w17 ho hb hg hat; rw [← Ny482.out] at ho; replace HB := aM (hb); have qH := aM (ho); clear qD; clear ho hb hg hat))
          go_roundg kj2
          case measure => have := HK1.out; have := HJ2.out; omega
          case rel => exact ⟨(y482), (((qB + (rd l1 qA)) % 4294967296) / 65536), (wrap64 (qA + 1)), zT, zT, H', ⟨by have := HK1.out; have := HJ2.out; omega⟩, ⟨lR qH⟩, ⟨zB HB⟩⟩
         ·rw [if_neg c16] at H
          exact absurd H (by simp)
        ·rw [if_neg c15] at H
         exact absurd H (by simp)
       ·rw [if_neg c14] at H
        have c14b0 := decide_eq_false c14
        clear c14
        by_cases c18 : qC.length < 35184372088832
        ·rw [if_pos c18] at H
         have LMc18 := aM c18
         clear c18
         obtain ⟨y485, hy485⟩ : ∃ y_ : List Int, y_ = (qC ++ [Int.tmod qB 65536]) := ⟨_, rfl⟩
         replace H : (swageref02_plus.l0 kj2 l0 l1 y485 ((Int.tdiv qB 65536) % 4294967296) (wrap64 (qA + 1))) = some r := zH hy485 H
         have Ny485 := aM hy485
         clear hy485
         have H' := aM H
         clear H
         go_wp2_with (first | ((with_reducible refine gate_builtin (b := .append) (xs := #[.tmp 44, .tmp 47]) rfl ?_); (try (refine gate_guard (by rfl) ?_; dsimp only)); at_builtin; refine Kd.R_append (Kd.int .u32) (w0 := w) w.heap.size rfl (.tmp 44) (.tmp 47) 37 76 (.int .u32 0) 4 rfl Tryd.underlying37 info76 rfl (by decide) (by omega) u5 qC (Int.tmod qB 65536) [.int .u32 (Int.tmod qB 65536)] (fun _ => True) (fun _ => False) rfl rfl ?aP (fun _ hk => hk.elim) ?aF ?aO ?aB ?aS ?aL ?_; (case aP => exact rfl); (case aB => exact (lB HB)); (case aF => exact (fun _ _ => trivial)); (case aO => exact (lR qD)); (case aS => exact (z4_ (lB HB))); (case aL => have := LMc18.out; omega); intro v486 w19 ho hb hg hat; rw [← Ny485.out] at ho; replace HB := aM (hb); have qI := aM (ho); clear qD; clear ho hb hg hat))
         go_roundg kj2
         case measure => have := HK1.out; have := HJ2.out; omega
         case rel => exact ⟨(y485), ((Int.tdiv qB 65536) % 4294967296), (wrap64 (qA + 1)), zT, zT, H', ⟨by have := HK1.out; have := HJ2.out; omega⟩, ⟨lR qI⟩, ⟨zB HB⟩⟩
        ·rw [if_neg c18] at H
         exact absurd H (by simp)
     ·replace c6 := Bool.eq_false_iff.mpr c6
      subst c6
      have H1 : (some qC) = some r := by rw [if_neg (show ¬ (false = true) by decide)] at H; exact H
      clear H
      have H := H1
      clear H1
      obtain rfl := Option.some.inj H
      go_wp2
      go_ret
      exact ⟨_, zE, by apply rX; exact qD.out, zB HB⟩
end Go.Proofs.YtakmkhokbcjapaaDoor.XA
end
section
namespace Go.Proofs.YtakmkhokbcjapaaDoor.XA
open Go.Proofs.YtakmkhokbcjapaaDoor.Lift Go.RowKit Go.Proofs.YtakmkhokbcjapaaDoorW.PrintWords Go.Proofs.YtakmkhokbcjapaaDoorW.PrintLast Go.Proofs.YtakmkhokbcjapaaDoorW.PrintMore
attribute [local go_sem] max2_int min2_int max_two min_two max_three min_three max_four min_four
def swageref02_Add.f (k : Nat) (qK : Bool) (qI : List Int) (qL : Bool) (qJ : List Int) : Option (Bool × List Int) := if (qK == qL) = true then ((swageref02_plus.f k qI qJ).bind fun qZ => ((swageref02_norm.f k qK qZ).bind fun bt494 => (some (bt494.1, bt494.2)))) else ((swageref02_size.f k qI qJ).bind fun qa => (if qa ≥ 0 then ((swageref02_minus.f k qI qJ).bind fun qU => ((swageref02_norm.f k qK qU).bind fun bt502 => (some (bt502.1, bt502.2)))) else ((swageref02_minus.f k qJ qI).bind fun qV => ((swageref02_norm.f k qL qV).bind fun bt509 => (some (bt509.1, bt509.2))))))
def swageref02_Add.T2 : Bool × List (List Nat × List Nat) := (true, [([], []), ([0], [0]), ([], []), ([2], [2]), ([], []), ([4], [4]), ([3, 5], [3, 5]), ([1, 6, 6], [1, 6]), ([7, 7, 0, 1, 2, 3, 4, 5, 6, 7], [7])])
def swageref02_Add.B2 : List Nat := [0, 1, 0, 4, 0, 16, 60, 127, 255]
theorem swageref02_Add.tab2 : rtab .any (opsOf Tryd.f38 2) = swageref02_Add.T2 := by kernel_rfl
theorem swageref02_Add.bits2 : waitsOk swageref02_Add.T2.2 swageref02_Add.B2 = true := by kernel_rfl
def swageref02_Add.T4 : Bool × List (List Nat × List Nat) := (true, [([], []), ([0], [0]), ([], []), ([2], [2]), ([], []), ([4], [4]), ([3, 5], [3, 5]), ([1, 6, 6], [1, 6]), ([7, 7, 0, 1, 2, 3, 4, 5, 6, 7], [7])])
def swageref02_Add.B4 : List Nat := [0, 1, 0, 4, 0, 16, 60, 127, 255]
theorem swageref02_Add.tab4 : rtab .any (opsOf Tryd.f38 4) = swageref02_Add.T4 := by kernel_rfl
theorem swageref02_Add.bits4 : waitsOk swageref02_Add.T4.2 swageref02_Add.B4 = true := by kernel_rfl
def swageref02_Add.T5 : Bool × List (List Nat × List Nat) := (true, [([], []), ([0], [0]), ([], []), ([2], [2]), ([], []), ([4], [4]), ([3, 5], [3, 5]), ([1, 6, 6], [1, 6]), ([7, 7, 0, 1, 2, 3, 4, 5, 6, 7], [7])])
def swageref02_Add.B5 : List Nat := [0, 1, 0, 4, 0, 16, 60, 127, 255]
theorem swageref02_Add.tab5 : rtab .any (opsOf Tryd.f38 5) = swageref02_Add.T5 := by kernel_rfl
theorem swageref02_Add.bits5 : waitsOk swageref02_Add.T5.2 swageref02_Add.B5 = true := by kernel_rfl
theorem swageref02_Add.calls (k : Nat) (qK : Bool) (qO : Option Addr) (qP : Nat) (qI : List Int) (qL : Bool) (qQ : Option Addr) (qR : Nat) (qJ : List Int) (r1 : Bool) (r2 : List Int) (w : World) (ql : Kd.C (Kd.int .u32) w qO qI.length qI) (qm : qI.length ≤ qP) (qn : Kd.C (Kd.int .u32) w qQ qJ.length qJ) (qo : qJ.length ≤ qR) (h : swageref02_Add.f k qK qI qL qJ = some (r1, r2)) :
  Calls Tryd.prog 38 #[.agg #[.bool qK, .slice qO qI.length qP], .agg #[.bool qL, .slice qQ qJ.length qR]] w fun e w' => ∃ v1_ : Value, e = .returned (.agg #[.bool r1, v1_]) ∧ Kd.V (Kd.int .u32) 76 w' w.heap.size (fun k_ => (w.heap.size ≤ k_)) v1_ r2 ∧ Below w.heap.size w w' := by
 have hu68 := Tryd.underlying68
 have qb := aM ql
 have qc := aM qm
 clear ql qm
 have qd := aM qn
 have qe := aM qo
 clear qn qo
 have HB := aM (Below.refl w.heap.size w)
 have H : (if (qK == qL) = true then ((swageref02_plus.f k qI qJ).bind fun qZ => ((swageref02_norm.f k qK qZ).bind fun bt494 => (some (bt494.1, bt494.2)))) else ((swageref02_size.f k qI qJ).bind fun qa => (if qa ≥ 0 then ((swageref02_minus.f k qI qJ).bind fun qU => ((swageref02_norm.f k qK qU).bind fun bt502 => (some (bt502.1, bt502.2)))) else ((swageref02_minus.f k qJ qI).bind fun qV => ((swageref02_norm.f k qL qV).bind fun bt509 => (some (bt509.1, bt509.2))))))) = some (r1, r2) := h
 clear h
 by_cases c3 : (qK == qL) = true
 ·rw [if_pos c3] at H
  have c3b0 : (qK == qL) = true := c3
  (try (have c3b1 : decide (qK = qL) = true := by simpa using c3))
  (try (have c3b2 : (qK == qL) = true := by simpa using c3))
  clear c3
  replace H := zbs H
  obtain ⟨qZ, A40, H⟩ := H
  replace H : ((swageref02_norm.f k qK qZ).bind fun bt494 => (some (bt494.1, bt494.2))) = some (r1, r2) := H
  have A4 := aM A40
  clear A40
  replace H := zbs H
  obtain ⟨⟨qf, qi⟩, A50, H⟩ := H
  replace H : (some (qf, qi)) = some (r1, r2) := H
  have A5 := aM A50
  clear A50
  simp only [Option.some.injEq, Prod.mk.injEq] at H
  obtain ⟨rfl, rfl⟩ := H
  go_enter Tryd.func38, Tryd.ntmps38
  try go_wp2_with (first | ((with_reducible refine gate_dst (N := 2) rfl ?_); refine z16_ rfl (N := 2) rfl (cs := #[.bool qK, .slice qO qI.length qP]) (t := 68) zG ?_; intro qE hg w6 hbox hb; have qA := aM (hbox); have qp := aM ((by rw [hg]; exact (z4_ (lB HB)) : w.heap.size ≤ qE)); have qq := aM ((by rw [hg]; exact (z4_ (lB HB)) : w.heap.size ≤ qE)); replace HB := aM (z6_ (lB HB) hb); clear hb hbox hg) | ((with_reducible refine gate_dst (N := 3) rfl ?_); refine z16_ rfl (N := 3) rfl (cs := #[.bool qL, .slice qQ qJ.length qR]) (t := 68) zG ?_; intro qF hg w7 hbox hb; have qB := aM (hbox); have qr := aM ((by rw [hg]; exact (z4_ (zB HB)) : w.heap.size ≤ qF)); have qs := aM ((by rw [hg]; exact (z4_ (zB HB)) : w.heap.size ≤ qF)); replace HB := aM (z6_ (zB HB) hb); have qS := aM ((by rw [hg]; exact Nat.ne_of_lt (z19_ (g := qE) (lK qA)) : qE ≠ qF)); have qT := aM ((by rw [hg]; exact Nat.ne_of_gt (z19_ (g := qE) (lK qA)) : qF ≠ qE)); replace qA := aM (z5_ (g := qE) (lK qA) hb); clear hb hbox hg) | ((with_reducible refine gate_dst (N := 4) rfl ?_); refine z16_ rfl (N := 4) rfl (cs := #[.bool false, .slice none 0 0]) (t := 68) zG ?_; intro qC hg w8 hbox hb; have qD := aM (hbox); have qt := aM ((by rw [hg]; exact (z4_ (zB HB)) : w.heap.size ≤ qC)); have qu := aM ((by rw [hg]; exact (z4_ (zB HB)) : w.heap.size ≤ qC)); replace HB := aM (z6_ (zB HB) hb); have qG := aM ((by rw [hg]; exact Nat.ne_of_lt (z19_ (g := qE) (lK qA)) : qE ≠ qC)); have qM := aM ((by rw [hg]; exact Nat.ne_of_gt (z19_ (g := qE) (lK qA)) : qC ≠ qE)); replace qA := aM (z5_ (g := qE) (lK qA) hb); have qH := aM ((by rw [hg]; exact Nat.ne_of_lt (z19_ (g := qF) (lK qB)) : qF ≠ qC)); have qN := aM ((by rw [hg]; exact Nat.ne_of_gt (z19_ (g := qF) (lK qB)) : qC ≠ qF)); replace qB := aM (z5_ (g := qF) (lK qB) hb); clear hb hbox hg; have j6 := qS.out; have j7 := qT.out; have jk := qG.out; have jl := qM.out; have jA := zc2 qA.out; have jB := fun i_ : Nat => z1_ qA.out i_; have jm := qH.out; have jn := qN.out; have jC := zc2 qB.out; have jD := fun i_ : Nat => z1_ qB.out i_))
  replace qA := aM (blk_drew qA.out)
  replace qB := aM (blk_drew qB.out)
  replace qD := aM (blk_drew qD.out)
  replace HB := aM (below_drew1 HB.out)
  refine start_ (n := 9) (S := fun w' => w'.cell? ⟨qE, 0, none⟩ = some (.bool qK) ∧ w'.cell? ⟨qE, 1, none⟩ = some (.slice qO qI.length qP) ∧ w'.cell? ⟨qF, 0, none⟩ = some (.bool qL) ∧ w'.cell? ⟨qF, 1, none⟩ = some (.slice qQ qJ.length qR)) (ds := []) (bs 9 0) zk rfl rfl ⟨(z2_ qA.out 0).trans rfl, (z2_ qA.out 1).trans rfl, (z2_ qB.out 0).trans rfl, (z2_ qB.out 1).trans rfl⟩ (fun hHeld => ?_); refine with_tabW swageref02_Add.tab2 swageref02_Add.bits2 (fun HT_ HW_ => ?_)
  generalize w8.drew = w14 at qA qB qD HB hHeld ⊢
  refine pQ 0 10 9 1 ?_
  refine pQ 2 12 9 5 ?_
  refine pQ 4 14 9 21 ?_
  refine take_ (i := 1) (N := some 11) (v := ?_) (a' := ?_) (bs 9 23) rfl rfl (take_ofW HT_.out HW_.out zk) (fun _ _ _ h => h) (Or.inl ⟨by rfl, ?_⟩) hHeld ?_ ?_
  rotate_left
  ·rintro w' ⟨s0, s1, s2, s3⟩
   go_simp
   with_reducible rfl
  rotate_left
  ·simp only [Act.put, List.setIfInBounds_toArray, List.set_cons_zero, List.set_cons_succ, i64_w, i32_w]
   rfl
  refine take_ (i := 3) (N := some 13) (v := ?_) (a' := ?_) (bs 9 31) rfl rfl (take_ofW HT_.out HW_.out zk) (fun _ _ _ h => h) (Or.inl ⟨by rfl, ?_⟩) hHeld ?_ ?_
  rotate_left
  ·rintro w' ⟨s0, s1, s2, s3⟩
   go_simp
   with_reducible rfl
  rotate_left
  ·simp only [Act.put, List.setIfInBounds_toArray, List.set_cons_zero, List.set_cons_succ, i64_w, i32_w]
   rfl
  refine take_ (i := 5) (N := some 15) (v := ?_) (a' := ?_) (bs 9 63) rfl rfl (take_ofW HT_.out HW_.out zk) (fun _ _ _ h => h) (Or.inl ⟨by rfl, ?_⟩) hHeld ?_ ?_
  rotate_left
  ·rintro w' ⟨s0, s1, s2, s3⟩
   go_simp
   with_reducible rfl
  rotate_left
  ·simp only [Act.put, List.setIfInBounds_toArray, List.set_cons_zero, List.set_cons_succ, i64_w, i32_w]
   rfl
  refine one_ (i := 6) (N := some 16) (bs 9 127) rfl rfl (one_of HT_.out zk) (by decide) (fun K hK => ?_)
  refine goes_ Tryd.func57 zk rfl #[.slice qO qI.length qP, .slice qQ qJ.length qR] (by rfl) rfl rfl zA ?_
  with_reducible refine (swageref02_plus.calls k _ _ qI _ _ qJ qZ _ ?side1 ?side2 ?side3 ?side4 A4.out).mono ?_
  (case side1 => refine lY ?_; exact (Kd.z8_ qb.out HB.out))
  (case side2 => exact qc.out)
  (case side3 => refine lY ?_; exact (Kd.z8_ qd.out HB.out))
  (case side4 => exact qe.out)
  rintro e w15 ⟨v492, rfl, ho0, hb⟩
  refine ⟨_, rfl, ?_⟩
  have qW := aM (Kd.z20_ (Kd.R_newM (M := fun k_ => (w.heap.size ≤ k_)) ho0 (z4_ (zB HB)) (fun k_ h_ => h_)) (z4_ (zB HB)))
  replace qA := aM (z5_ (g := qE) (lK qA) hb)
  replace qB := aM (z5_ (g := qF) (lK qB) hb)
  replace qD := aM (z5_ (g := qC) (lK qD) hb)
  replace HB := aM (z6_ (zB HB) hb)
  (try clear hb)
  (try clear hb2)
  (try clear hk)
  (try clear hi)
  (try clear ho0)
  obtain ⟨qy, qz, eo16⟩ := Kd.R_slice qW.out
  (first | subst eo16 | (injection eo16 with f1_ f2_ f3_; have f4_ := f1_.symm; have f5_ := f3_.symm; clear f1_ f2_ f3_; subst f4_; subst f5_))
  refine hK.out _ _ ⟨(z2_ qA.out 0).trans rfl, (z2_ qA.out 1).trans rfl, (z2_ qB.out 0).trans rfl, (z2_ qB.out 1).trans rfl⟩ (fun hHeld => ?_)
  clear hK K
  refine norm_ (a' := ?_) ?_ ?_
  rotate_left
  ·show Act.put _ (some 16) _ = _
   simp only [Act.put, List.setIfInBounds_toArray, List.set_cons_zero, List.set_cons_succ, i64_w, i32_w]
   rfl
  refine one_ (i := 7) (N := some 17) (bs 9 255) rfl rfl (one_of HT_.out zk) (by decide) (fun K hK => ?_)
  refine goes_ Tryd.func48 zk rfl #[.bool qK, .slice qy qZ.length qz] (by rfl) rfl rfl zA ?_
  with_reducible refine (swageref02_norm.calls k qK (fun k_ => some k_ = (.slice qy qZ.length qz : Value).ownBlock) _ _ qZ qf qi _ ?side1 A5.out).mono ?_
  (case side1 => exact Kd.R_V (Kd.R_tight rfl (Kd.z3_ (Kd.z3_ (Kd.z3_ (qW.out) qA.out (by decide)) qB.out (by decide)) qD.out (by decide))))
  rintro e w17 ⟨v496, rfl, ho0, hb⟩
  refine ⟨_, rfl, ?_⟩
  have qv := aM (Kd.V_lower (Kd.V_mono (ok' := fun k_ => (w.heap.size ≤ k_) ∧ k_ ≠ qE ∧ k_ ≠ qF ∧ k_ ≠ qC) ho0 (fun k_ hk_ => ⟨Or.elim hk_ (fun hs_ => ((Kd.z3_ (Kd.z3_ (Kd.z3_ (qW.out) qA.out (by decide)) qB.out (by decide)) qD.out (by decide)).1 k_ hs_.symm).1.1.1.1) (fun hn_ => (Nat.le_trans (z4_ (zB HB)) hn_)), Or.elim hk_ (fun hs_ => ((Kd.z3_ (Kd.z3_ (Kd.z3_ (qW.out) qA.out (by decide)) qB.out (by decide)) qD.out (by decide)).1 k_ hs_.symm).1.1.2) (fun hn_ => (Kd.freshB (g := qE) (o := .cells #[.bool qK, .slice qO qI.length qP] 68 (0, 0)) (lK qA) k_ hn_)), Or.elim hk_ (fun hs_ => ((Kd.z3_ (Kd.z3_ (Kd.z3_ (qW.out) qA.out (by decide)) qB.out (by decide)) qD.out (by decide)).1 k_ hs_.symm).1.2) (fun hn_ => (Kd.freshB (g := qF) (o := .cells #[.bool qL, .slice qQ qJ.length qR] 68 (0, 0)) (lK qB) k_ hn_)), Or.elim hk_ (fun hs_ => ((Kd.z3_ (Kd.z3_ (Kd.z3_ (qW.out) qA.out (by decide)) qB.out (by decide)) qD.out (by decide)).1 k_ hs_.symm).2) (fun hn_ => (Kd.freshB (g := qC) (o := .cells #[.bool false, .slice none 0 0] 68 (0, 0)) (lK qD) k_ hn_))⟩)) (z4_ (zB HB)))
  replace qW := aM (Kd.z7_ (lR qW) hb)
  replace qA := aM (z5_ (g := qE) (lK qA) hb)
  replace qB := aM (z5_ (g := qF) (lK qB) hb)
  replace qD := aM (z5_ (g := qC) (lK qD) hb)
  replace HB := aM (z6_ (zB HB) hb)
  (try clear hb)
  (try clear hb2)
  (try clear hk)
  (try clear hi)
  (try clear ho0)
  obtain ⟨q0, q1, eo19⟩ := Kd.V_slice qv.out
  (first | subst eo19 | (injection eo19 with f1_ f2_ f3_; have f4_ := f1_.symm; have f5_ := f3_.symm; clear f1_ f2_ f3_; subst f4_; subst f5_))
  refine hK.out _ _ ⟨(z2_ qA.out 0).trans rfl, (z2_ qA.out 1).trans rfl, (z2_ qB.out 0).trans rfl, (z2_ qB.out 1).trans rfl⟩ (fun hHeld => ?_)
  clear hK K
  refine norm_ (a' := ?_) ?_ ?_
  rotate_left
  ·show Act.put _ (some 17) _ = _
   simp only [Act.put, List.setIfInBounds_toArray, List.set_cons_zero, List.set_cons_succ, i64_w, i32_w]
   rfl
  refine one_ (i := 8) (N := none) (bs 9 511) rfl rfl (one_of HT_.out zk) (by decide) (fun K hK => ?_)
  have j8 : w17.cell? ⟨qC, 0, none⟩ = some (.bool false) := (z2_ qD.out 0).trans rfl
  have jo := z1_ qD.out 0
  have jE := qG.out
  have jF := qH.out
  have jG := qM.out
  have jH := qN.out
  have j9 : w17.cell? ⟨qC, 1, none⟩ = some (.slice none 0 0) := (z2_ qD.out 1).trans rfl
  have jp := z1_ qD.out 1
  have jI := qG.out
  have jJ := qH.out
  have jK := qM.out
  have jL := qN.out
  refine skip_ (w1 := ?_) (by rfl) rfl ?_ ?_
  rotate_left
  ·go_simp
   rfl
  refine hK.out _ _ ⟨((z14_ (p := ⟨qC, _, none⟩) qG.out _).trans (((z14_ (p := ⟨qC, _, none⟩) qG.out _).trans (hHeld.1)))), ((z14_ (p := ⟨qC, _, none⟩) qG.out _).trans (((z14_ (p := ⟨qC, _, none⟩) qG.out _).trans (hHeld.2.1)))), ((z14_ (p := ⟨qC, _, none⟩) qH.out _).trans (((z14_ (p := ⟨qC, _, none⟩) qH.out _).trans (hHeld.2.2.1)))), ((z14_ (p := ⟨qC, _, none⟩) qH.out _).trans (((z14_ (p := ⟨qC, _, none⟩) qH.out _).trans (hHeld.2.2.2))))⟩ (fun hHeld => ?_)
  clear hK K
  refine done_ (done_of HT_.out zk) ?_
  try go_wp2
  refine bodyPost_ret (results_cell_row rfl _ _ qC 68 #[.bool qf, .slice q0 qi.length q1] (0, 0) _ rfl (by refine lZ ?_; refine blk_put (cs := #[.bool qf, .slice none 0 0]) ?_ 1 _ rfl; refine lZ ?_; refine blk_put (cs := #[.bool false, .slice none 0 0]) ?_ 0 _ rfl; refine lZ ?_; exact qD.out) Tryd.underlying68 rfl zk) rfl ?_
  exact ⟨_, zE, by (with_reducible repeat (first | apply Kd.V_alloc | apply Kd.V_drewN | apply Kd.V_drew)); exact Kd.V_mono (Kd.V_far (p := ⟨qC, 1, none⟩) (Kd.V_far (p := ⟨qC, 0, none⟩) (Kd.V_mono qv.out (fun k_ hk => (⟨hk, hk.2.2.2⟩ : _ ∧ k_ ≠ qC))) (fun _ hk => hk.2) (.bool qf)) (fun _ hk => hk.2) (.slice q0 qi.length q1)) (fun _ hk => hk.1.1), zB HB⟩
 ·rw [if_neg c3] at H
  have c3b0 : (qK == qL) = false := by simpa using c3
  (try (have c3b1 : decide (qK = qL) = false := by simpa using c3))
  (try (have c3b2 : (qK == qL) = false := by simpa using c3))
  (try (have c3b3 : ¬ (qK = qL) := by simpa using c3))
  clear c3
  replace H := zbs H
  obtain ⟨qa, A210, H⟩ := H
  replace H : (if qa ≥ 0 then ((swageref02_minus.f k qI qJ).bind fun qU => ((swageref02_norm.f k qK qU).bind fun bt502 => (some (bt502.1, bt502.2)))) else ((swageref02_minus.f k qJ qI).bind fun qV => ((swageref02_norm.f k qL qV).bind fun bt509 => (some (bt509.1, bt509.2))))) = some (r1, r2) := H
  have A21 := aM A210
  clear A210
  by_cases c22 : qa ≥ 0
  ·rw [if_pos c22] at H
   have c22b0 := decide_eq_true c22
   clear c22
   replace H := zbs H
   obtain ⟨qU, A230, H⟩ := H
   replace H : ((swageref02_norm.f k qK qU).bind fun bt502 => (some (bt502.1, bt502.2))) = some (r1, r2) := H
   have A23 := aM A230
   clear A230
   replace H := zbs H
   obtain ⟨⟨qg, qj⟩, A240, H⟩ := H
   replace H : (some (qg, qj)) = some (r1, r2) := H
   have A24 := aM A240
   clear A240
   simp only [Option.some.injEq, Prod.mk.injEq] at H
   obtain ⟨rfl, rfl⟩ := H
   go_enter Tryd.func38, Tryd.ntmps38
   try go_wp2_with (first | ((with_reducible refine gate_dst (N := 2) rfl ?_); refine z16_ rfl (N := 2) rfl (cs := #[.bool qK, .slice qO qI.length qP]) (t := 68) zG ?_; intro qE hg w25 hbox hb; have qA := aM (hbox); have qp := aM ((by rw [hg]; exact (z4_ (lB HB)) : w.heap.size ≤ qE)); have qq := aM ((by rw [hg]; exact (z4_ (lB HB)) : w.heap.size ≤ qE)); replace HB := aM (z6_ (lB HB) hb); clear hb hbox hg) | ((with_reducible refine gate_dst (N := 3) rfl ?_); refine z16_ rfl (N := 3) rfl (cs := #[.bool qL, .slice qQ qJ.length qR]) (t := 68) zG ?_; intro qF hg w26 hbox hb; have qB := aM (hbox); have qr := aM ((by rw [hg]; exact (z4_ (zB HB)) : w.heap.size ≤ qF)); have qs := aM ((by rw [hg]; exact (z4_ (zB HB)) : w.heap.size ≤ qF)); replace HB := aM (z6_ (zB HB) hb); have qS := aM ((by rw [hg]; exact Nat.ne_of_lt (z19_ (g := qE) (lK qA)) : qE ≠ qF)); have qT := aM ((by rw [hg]; exact Nat.ne_of_gt (z19_ (g := qE) (lK qA)) : qF ≠ qE)); replace qA := aM (z5_ (g := qE) (lK qA) hb); clear hb hbox hg) | ((with_reducible refine gate_dst (N := 4) rfl ?_); refine z16_ rfl (N := 4) rfl (cs := #[.bool false, .slice none 0 0]) (t := 68) zG ?_; intro qC hg w27 hbox hb; have qD := aM (hbox); have qt := aM ((by rw [hg]; exact (z4_ (zB HB)) : w.heap.size ≤ qC)); have qu := aM ((by rw [hg]; exact (z4_ (zB HB)) : w.heap.size ≤ qC)); replace HB := aM (z6_ (zB HB) hb); have qG := aM ((by rw [hg]; exact Nat.ne_of_lt (z19_ (g := qE) (lK qA)) : qE ≠ qC)); have qM := aM ((by rw [hg]; exact Nat.ne_of_gt (z19_ (g := qE) (lK qA)) : qC ≠ qE)); replace qA := aM (z5_ (g := qE) (lK qA) hb); have qH := aM ((by rw [hg]; exact Nat.ne_of_lt (z19_ (g := qF) (lK qB)) : qF ≠ qC)); have qN := aM ((by rw [hg]; exact Nat.ne_of_gt (z19_ (g := qF) (lK qB)) : qC ≠ qF)); replace qB := aM (z5_ (g := qF) (lK qB) hb); clear hb hbox hg; have jq := qS.out; have jr := qT.out; have js := qG.out; have jt := qM.out; have jM := zc2 qA.out; have jN := fun i_ : Nat => z1_ qA.out i_; have ju := qH.out; have jv := qN.out; have jO := zc2 qB.out; have jP := fun i_ : Nat => z1_ qB.out i_) | ((with_reducible refine gate_callee (f := 58) rfl ?_); refine z13_ (some 22) rfl rfl Tryd.func58 zk rfl #[.slice qO qI.length qP, .slice qQ qJ.length qR] rfl zA ?_; (with_reducible refine (swageref02_size.calls k _ _ qI _ _ qJ qa _ ?side1 ?side2 ?side3 ?side4 A21.out).mono ?_); (case side1 => refine lY ?_; exact (Kd.z8_ qb.out HB.out)); (case side2 => exact qc.out); (case side3 => refine lY ?_; exact (Kd.z8_ qd.out HB.out)); (case side4 => exact qe.out); rintro e w' ⟨rfl, ⟨nd, rfl⟩⟩; refine ⟨_, rfl, ?_⟩; (try (rw [drewN_self w27]; generalize hq_ : World.drewN w27 _ = w27; have n0_ : Aside0 (w27.heap[qE]? = some (.cells #[.bool qK, .slice qO qI.length qP] 68 (0, 0))) := ⟨by rw [← hq_]; exact (lK qA)⟩; have n1_ : Aside0 (w27.heap[qF]? = some (.cells #[.bool qL, .slice qQ qJ.length qR] 68 (0, 0))) := ⟨by rw [← hq_]; exact (lK qB)⟩; have n2_ : Aside0 (w27.heap[qC]? = some (.cells #[.bool false, .slice none 0 0] 68 (0, 0))) := ⟨by rw [← hq_]; exact (lK qD)⟩; have n3_ : Aside0 (Below w.heap.size w w27) := ⟨by rw [← hq_]; exact (zB HB)⟩; clear qA qB qD HB hq_; have qA := n0_; have qB := n1_; have qD := n2_; have HB := n3_; clear n0_ n1_ n2_ n3_))))
   replace qA := aM (blk_drew qA.out)
   replace qB := aM (blk_drew qB.out)
   replace qD := aM (blk_drew qD.out)
   replace HB := aM (below_drew1 HB.out)
   refine start_ (n := 9) (S := fun w' => w'.cell? ⟨qE, 0, none⟩ = some (.bool qK) ∧ w'.cell? ⟨qE, 1, none⟩ = some (.slice qO qI.length qP) ∧ w'.cell? ⟨qF, 0, none⟩ = some (.bool qL) ∧ w'.cell? ⟨qF, 1, none⟩ = some (.slice qQ qJ.length qR)) (ds := []) (bs 9 0) zk rfl rfl ⟨(z2_ qA.out 0).trans rfl, (z2_ qA.out 1).trans rfl, (z2_ qB.out 0).trans rfl, (z2_ qB.out 1).trans rfl⟩ (fun hHeld => ?_); refine with_tabW swageref02_Add.tab4 swageref02_Add.bits4 (fun HT_ HW_ => ?_)
   generalize w27.drew = w33 at qA qB qD HB hHeld ⊢
   refine pQ 0 24 9 1 ?_
   refine pQ 2 26 9 5 ?_
   refine pQ 4 28 9 21 ?_
   refine take_ (i := 1) (N := some 25) (v := ?_) (a' := ?_) (bs 9 23) rfl rfl (take_ofW HT_.out HW_.out zk) (fun _ _ _ h => h) (Or.inl ⟨by rfl, ?_⟩) hHeld ?_ ?_
   rotate_left
   ·rintro w' ⟨s0, s1, s2, s3⟩
    go_simp
    with_reducible rfl
   rotate_left
   ·simp only [Act.put, List.setIfInBounds_toArray, List.set_cons_zero, List.set_cons_succ, i64_w, i32_w]
    rfl
   refine take_ (i := 3) (N := some 27) (v := ?_) (a' := ?_) (bs 9 31) rfl rfl (take_ofW HT_.out HW_.out zk) (fun _ _ _ h => h) (Or.inl ⟨by rfl, ?_⟩) hHeld ?_ ?_
   rotate_left
   ·rintro w' ⟨s0, s1, s2, s3⟩
    go_simp
    with_reducible rfl
   rotate_left
   ·simp only [Act.put, List.setIfInBounds_toArray, List.set_cons_zero, List.set_cons_succ, i64_w, i32_w]
    rfl
   refine take_ (i := 5) (N := some 29) (v := ?_) (a' := ?_) (bs 9 63) rfl rfl (take_ofW HT_.out HW_.out zk) (fun _ _ _ h => h) (Or.inl ⟨by rfl, ?_⟩) hHeld ?_ ?_
   rotate_left
   ·rintro w' ⟨s0, s1, s2, s3⟩
    go_simp
    with_reducible rfl
   rotate_left
   ·simp only [Act.put, List.setIfInBounds_toArray, List.set_cons_zero, List.set_cons_succ, i64_w, i32_w]
    rfl
   refine one_ (i := 6) (N := some 30) (bs 9 127) rfl rfl (one_of HT_.out zk) (by decide) (fun K hK => ?_)
   refine goes_ Tryd.func59 zk rfl #[.slice qO qI.length qP, .slice qQ qJ.length qR] (by rfl) rfl rfl zA ?_
   with_reducible refine (swageref02_minus.calls k _ _ qI _ _ qJ qU _ ?side1 ?side2 ?side3 ?side4 A23.out).mono ?_
   (case side1 => refine lY ?_; exact (Kd.z8_ qb.out HB.out))
   (case side2 => exact qc.out)
   (case side3 => refine lY ?_; exact (Kd.z8_ qd.out HB.out))
   (case side4 => exact qe.out)
   rintro e w34 ⟨v500, rfl, ho0, hb⟩
   refine ⟨_, rfl, ?_⟩
   have qX := aM (Kd.z20_ (Kd.R_newM (M := fun k_ => (w.heap.size ≤ k_)) ho0 (z4_ (zB HB)) (fun k_ h_ => h_)) (z4_ (zB HB)))
   replace qA := aM (z5_ (g := qE) (lK qA) hb)
   replace qB := aM (z5_ (g := qF) (lK qB) hb)
   replace qD := aM (z5_ (g := qC) (lK qD) hb)
   replace HB := aM (z6_ (zB HB) hb)
   (try clear hb)
   (try clear hb2)
   (try clear hk)
   (try clear hi)
   (try clear ho0)
   obtain ⟨q2, q3, eo35⟩ := Kd.R_slice qX.out
   (first | subst eo35 | (injection eo35 with f1_ f2_ f3_; have f4_ := f1_.symm; have f5_ := f3_.symm; clear f1_ f2_ f3_; subst f4_; subst f5_))
   refine hK.out _ _ ⟨(z2_ qA.out 0).trans rfl, (z2_ qA.out 1).trans rfl, (z2_ qB.out 0).trans rfl, (z2_ qB.out 1).trans rfl⟩ (fun hHeld => ?_)
   clear hK K
   refine norm_ (a' := ?_) ?_ ?_
   rotate_left
   ·show Act.put _ (some 30) _ = _
    simp only [Act.put, List.setIfInBounds_toArray, List.set_cons_zero, List.set_cons_succ, i64_w, i32_w]
    rfl
   refine one_ (i := 7) (N := some 31) (bs 9 255) rfl rfl (one_of HT_.out zk) (by decide) (fun K hK => ?_)
   refine goes_ Tryd.func48 zk rfl #[.bool qK, .slice q2 qU.length q3] (by rfl) rfl rfl zA ?_
   with_reducible refine (swageref02_norm.calls k qK (fun k_ => some k_ = (.slice q2 qU.length q3 : Value).ownBlock) _ _ qU qg qj _ ?side1 A24.out).mono ?_
   (case side1 => exact Kd.R_V (Kd.R_tight rfl (Kd.z3_ (Kd.z3_ (Kd.z3_ (qX.out) qA.out (by decide)) qB.out (by decide)) qD.out (by decide))))
   rintro e w36 ⟨v504, rfl, ho0, hb⟩
   refine ⟨_, rfl, ?_⟩
   have qw := aM (Kd.V_lower (Kd.V_mono (ok' := fun k_ => (w.heap.size ≤ k_) ∧ k_ ≠ qE ∧ k_ ≠ qF ∧ k_ ≠ qC) ho0 (fun k_ hk_ => ⟨Or.elim hk_ (fun hs_ => ((Kd.z3_ (Kd.z3_ (Kd.z3_ (qX.out) qA.out (by decide)) qB.out (by decide)) qD.out (by decide)).1 k_ hs_.symm).1.1.1.1) (fun hn_ => (Nat.le_trans (z4_ (zB HB)) hn_)), Or.elim hk_ (fun hs_ => ((Kd.z3_ (Kd.z3_ (Kd.z3_ (qX.out) qA.out (by decide)) qB.out (by decide)) qD.out (by decide)).1 k_ hs_.symm).1.1.2) (fun hn_ => (Kd.freshB (g := qE) (o := .cells #[.bool qK, .slice qO qI.length qP] 68 (0, 0)) (lK qA) k_ hn_)), Or.elim hk_ (fun hs_ => ((Kd.z3_ (Kd.z3_ (Kd.z3_ (qX.out) qA.out (by decide)) qB.out (by decide)) qD.out (by decide)).1 k_ hs_.symm).1.2) (fun hn_ => (Kd.freshB (g := qF) (o := .cells #[.bool qL, .slice qQ qJ.length qR] 68 (0, 0)) (lK qB) k_ hn_)), Or.elim hk_ (fun hs_ => ((Kd.z3_ (Kd.z3_ (Kd.z3_ (qX.out) qA.out (by decide)) qB.out (by decide)) qD.out (by decide)).1 k_ hs_.symm).2) (fun hn_ => (Kd.freshB (g := qC) (o := .cells #[.bool false, .slice none 0 0] 68 (0, 0)) (lK qD) k_ hn_))⟩)) (z4_ (zB HB)))
   replace qX := aM (Kd.z7_ (lR qX) hb)
   replace qA := aM (z5_ (g := qE) (lK qA) hb)
   replace qB := aM (z5_ (g := qF) (lK qB) hb)
   replace qD := aM (z5_ (g := qC) (lK qD) hb)
   replace HB := aM (z6_ (zB HB) hb)
   (try clear hb)
   (try clear hb2)
   (try clear hk)
   (try clear hi)
   (try clear ho0)
   obtain ⟨q4, q5, eo38⟩ := Kd.V_slice qw.out
   (first | subst eo38 | (injection eo38 with f1_ f2_ f3_; have f4_ := f1_.symm; have f5_ := f3_.symm; clear f1_ f2_ f3_; subst f4_; subst f5_))
   refine hK.out _ _ ⟨(z2_ qA.out 0).trans rfl, (z2_ qA.out 1).trans rfl, (z2_ qB.out 0).trans rfl, (z2_ qB.out 1).trans rfl⟩ (fun hHeld => ?_)
   clear hK K
   refine norm_ (a' := ?_) ?_ ?_
   rotate_left
   ·show Act.put _ (some 31) _ = _
    simp only [Act.put, List.setIfInBounds_toArray, List.set_cons_zero, List.set_cons_succ, i64_w, i32_w]
    rfl
   refine one_ (i := 8) (N := none) (bs 9 511) rfl rfl (one_of HT_.out zk) (by decide) (fun K hK => ?_)
   have yA : w36.cell? ⟨qC, 0, none⟩ = some (.bool false) := (z2_ qD.out 0).trans rfl
   have jw := z1_ qD.out 0
   have jQ := qG.out
   have jR := qH.out
   have jS := qM.out
   have jT := qN.out
   have yB : w36.cell? ⟨qC, 1, none⟩ = some (.slice none 0 0) := (z2_ qD.out 1).trans rfl
   have jx := z1_ qD.out 1
   have jU := qG.out
   have jV := qH.out
   have jW := qM.out
   have jX := qN.out
   refine skip_ (w1 := ?_) (by rfl) rfl ?_ ?_
   rotate_left
   ·go_simp
    rfl
   refine hK.out _ _ ⟨((z14_ (p := ⟨qC, _, none⟩) qG.out _).trans (((z14_ (p := ⟨qC, _, none⟩) qG.out _).trans (hHeld.1)))), ((z14_ (p := ⟨qC, _, none⟩) qG.out _).trans (((z14_ (p := ⟨qC, _, none⟩) qG.out _).trans (hHeld.2.1)))), ((z14_ (p := ⟨qC, _, none⟩) qH.out _).trans (((z14_ (p := ⟨qC, _, none⟩) qH.out _).trans (hHeld.2.2.1)))), ((z14_ (p := ⟨qC, _, none⟩) qH.out _).trans (((z14_ (p := ⟨qC, _, none⟩) qH.out _).trans (hHeld.2.2.2))))⟩ (fun hHeld => ?_)
   clear hK K
   refine done_ (done_of HT_.out zk) ?_
   try go_wp2
   refine bodyPost_ret (results_cell_row rfl _ _ qC 68 #[.bool qg, .slice q4 qj.length q5] (0, 0) _ rfl (by refine lZ ?_; refine blk_put (cs := #[.bool qg, .slice none 0 0]) ?_ 1 _ rfl; refine lZ ?_; refine blk_put (cs := #[.bool false, .slice none 0 0]) ?_ 0 _ rfl; refine lZ ?_; exact qD.out) Tryd.underlying68 rfl zk) rfl ?_
   exact ⟨_, zE, by (with_reducible repeat (first | apply Kd.V_alloc | apply Kd.V_drewN | apply Kd.V_drew)); exact Kd.V_mono (Kd.V_far (p := ⟨qC, 1, none⟩) (Kd.V_far (p := ⟨qC, 0, none⟩) (Kd.V_mono qw.out (fun k_ hk => (⟨hk, hk.2.2.2⟩ : _ ∧ k_ ≠ qC))) (fun _ hk => hk.2) (.bool qg)) (fun _ hk => hk.2) (.slice q4 qj.length q5)) (fun _ hk => hk.1.1), zB HB⟩
  ·rw [if_neg c22] at H
   have c22b0 := decide_eq_false c22
   clear c22
   replace H := zbs H
   obtain ⟨qV, A400, H⟩ := H
   replace H : ((swageref02_norm.f k qL qV).bind fun bt509 => (some (bt509.1, bt509.2))) = some (r1, r2) := H
   have A40 := aM A400
   clear A400
   replace H := zbs H
   obtain ⟨⟨qh, qk⟩, A410, H⟩ := H
   replace H : (some (qh, qk)) = some (r1, r2) := H
   have A41 := aM A410
   clear A410
   simp only [Option.some.injEq, Prod.mk.injEq] at H
   obtain ⟨rfl, rfl⟩ := H
   go_enter Tryd.func38, Tryd.ntmps38
   try go_wp2_with (first | ((with_reducible refine gate_dst (N := 2) rfl ?_); refine z16_ rfl (N := 2) rfl (cs := #[.bool qK, .slice qO qI.length qP]) (t := 68) zG ?_; intro qE hg w42 hbox hb; have qA := aM (hbox); have qp := aM ((by rw [hg]; exact (z4_ (lB HB)) : w.heap.size ≤ qE)); have qq := aM ((by rw [hg]; exact (z4_ (lB HB)) : w.heap.size ≤ qE)); replace HB := aM (z6_ (lB HB) hb); clear hb hbox hg) | ((with_reducible refine gate_dst (N := 3) rfl ?_); refine z16_ rfl (N := 3) rfl (cs := #[.bool qL, .slice qQ qJ.length qR]) (t := 68) zG ?_; intro qF hg w43 hbox hb; have qB := aM (hbox); have qr := aM ((by rw [hg]; exact (z4_ (zB HB)) : w.heap.size ≤ qF)); have qs := aM ((by rw [hg]; exact (z4_ (zB HB)) : w.heap.size ≤ qF)); replace HB := aM (z6_ (zB HB) hb); have qS := aM ((by rw [hg]; exact Nat.ne_of_lt (z19_ (g := qE) (lK qA)) : qE ≠ qF)); have qT := aM ((by rw [hg]; exact Nat.ne_of_gt (z19_ (g := qE) (lK qA)) : qF ≠ qE)); replace qA := aM (z5_ (g := qE) (lK qA) hb); clear hb hbox hg) | ((with_reducible refine gate_dst (N := 4) rfl ?_); refine z16_ rfl (N := 4) rfl (cs := #[.bool false, .slice none 0 0]) (t := 68) zG ?_; intro qC hg w44 hbox hb; have qD := aM (hbox); have qt := aM ((by rw [hg]; exact (z4_ (zB HB)) : w.heap.size ≤ qC)); have qu := aM ((by rw [hg]; exact (z4_ (zB HB)) : w.heap.size ≤ qC)); replace HB := aM (z6_ (zB HB) hb); have qG := aM ((by rw [hg]; exact Nat.ne_of_lt (z19_ (g := qE) (lK qA)) : qE ≠ qC)); have qM := aM ((by rw [hg]; exact Nat.ne_of_gt (z19_ (g := qE) (lK qA)) : qC ≠ qE)); replace qA := aM (z5_ (g := qE) (lK qA) hb); have qH := aM ((by rw [hg]; exact Nat.ne_of_lt (z19_ (g := qF) (lK qB)) : qF ≠ qC)); have qN := aM ((by rw [hg]; exact Nat.ne_of_gt (z19_ (g := qF) (lK qB)) : qC ≠ qF)); replace qB := aM (z5_ (g := qF) (lK qB) hb); clear hb hbox hg; have jy := qS.out; have jz := qT.out; have j0 := qG.out; have j1 := qM.out; have jY := zc2 qA.out; have jZ := fun i_ : Nat => z1_ qA.out i_; have j2 := qH.out; have j3 := qN.out; have ja := zc2 qB.out; have jb := fun i_ : Nat => z1_ qB.out i_) | ((with_reducible refine gate_callee (f := 58) rfl ?_); refine z13_ (some 22) rfl rfl Tryd.func58 zk rfl #[.slice qO qI.length qP, .slice qQ qJ.length qR] rfl zA ?_; (with_reducible refine (swageref02_size.calls k _ _ qI _ _ qJ qa _ ?side1 ?side2 ?side3 ?side4 A21.out).mono ?_); (case side1 => refine lY ?_; exact (Kd.z8_ qb.out HB.out)); (case side2 => exact qc.out); (case side3 => refine lY ?_; exact (Kd.z8_ qd.out HB.out)); (case side4 => exact qe.out); rintro e w' ⟨rfl, ⟨nd, rfl⟩⟩; refine ⟨_, rfl, ?_⟩; (try (rw [drewN_self w44]; generalize hq_ : World.drewN w44 _ = w44; have n0_ : Aside0 (w44.heap[qE]? = some (.cells #[.bool qK, .slice qO qI.length qP] 68 (0, 0))) := ⟨by rw [← hq_]; exact (lK qA)⟩; have n1_ : Aside0 (w44.heap[qF]? = some (.cells #[.bool qL, .slice qQ qJ.length qR] 68 (0, 0))) := ⟨by rw [← hq_]; exact (lK qB)⟩; have n2_ : Aside0 (w44.heap[qC]? = some (.cells #[.bool false, .slice none 0 0] 68 (0, 0))) := ⟨by rw [← hq_]; exact (lK qD)⟩; have n3_ : Aside0 (Below w.heap.size w w44) := ⟨by rw [← hq_]; exact (zB HB)⟩; clear qA qB qD HB hq_; have qA := n0_; have qB := n1_; have qD := n2_; have HB := n3_; clear n0_ n1_ n2_ n3_))))
   replace qA := aM (blk_drew qA.out)
   replace qB := aM (blk_drew qB.out)
   replace qD := aM (blk_drew qD.out)
   replace HB := aM (below_drew1 HB.out)
   refine start_ (n := 9) (S := fun w' => w'.cell? ⟨qF, 0, none⟩ = some (.bool qL) ∧ w'.cell? ⟨qF, 1, none⟩ = some (.slice qQ qJ.length qR) ∧ w'.cell? ⟨qE, 0, none⟩ = some (.bool qK) ∧ w'.cell? ⟨qE, 1, none⟩ = some (.slice qO qI.length qP)) (ds := []) (bs 9 0) zk rfl rfl ⟨(z2_ qB.out 0).trans rfl, (z2_ qB.out 1).trans rfl, (z2_ qA.out 0).trans rfl, (z2_ qA.out 1).trans rfl⟩ (fun hHeld => ?_); refine with_tabW swageref02_Add.tab5 swageref02_Add.bits5 (fun HT_ HW_ => ?_)
   generalize w44.drew = w50 at qA qB qD HB hHeld ⊢
   refine pQ 0 32 9 1 ?_
   refine pQ 2 34 9 5 ?_
   refine pQ 4 36 9 21 ?_
   refine take_ (i := 1) (N := some 33) (v := ?_) (a' := ?_) (bs 9 23) rfl rfl (take_ofW HT_.out HW_.out zk) (fun _ _ _ h => h) (Or.inl ⟨by rfl, ?_⟩) hHeld ?_ ?_
   rotate_left
   ·rintro w' ⟨s0, s1, s2, s3⟩
    go_simp
    with_reducible rfl
   rotate_left
   ·simp only [Act.put, List.setIfInBounds_toArray, List.set_cons_zero, List.set_cons_succ, i64_w, i32_w]
    rfl
   refine take_ (i := 3) (N := some 35) (v := ?_) (a' := ?_) (bs 9 31) rfl rfl (take_ofW HT_.out HW_.out zk) (fun _ _ _ h => h) (Or.inl ⟨by rfl, ?_⟩) hHeld ?_ ?_
   rotate_left
   ·rintro w' ⟨s0, s1, s2, s3⟩
    go_simp
    with_reducible rfl
   rotate_left
   ·simp only [Act.put, List.setIfInBounds_toArray, List.set_cons_zero, List.set_cons_succ, i64_w, i32_w]
    rfl
   refine take_ (i := 5) (N := some 37) (v := ?_) (a' := ?_) (bs 9 63) rfl rfl (take_ofW HT_.out HW_.out zk) (fun _ _ _ h => h) (Or.inl ⟨by rfl, ?_⟩) hHeld ?_ ?_
   rotate_left
   ·rintro w' ⟨s0, s1, s2, s3⟩
    go_simp
    with_reducible rfl
   rotate_left
   ·simp only [Act.put, List.setIfInBounds_toArray, List.set_cons_zero, List.set_cons_succ, i64_w, i32_w]
    rfl
   refine one_ (i := 6) (N := some 38) (bs 9 127) rfl rfl (one_of HT_.out zk) (by decide) (fun K hK => ?_)
   refine goes_ Tryd.func59 zk rfl #[.slice qQ qJ.length qR, .slice qO qI.length qP] (by rfl) rfl rfl zA ?_
   with_reducible refine (swageref02_minus.calls k _ _ qJ _ _ qI qV _ ?side1 ?side2 ?side3 ?side4 A40.out).mono ?_
   (case side1 => refine lY ?_; exact (Kd.z8_ qd.out HB.out))
   (case side2 => exact qe.out)
   (case side3 => refine lY ?_; exact (Kd.z8_ qb.out HB.out))
   (case side4 => exact qc.out)
   rintro e w51 ⟨v507, rfl, ho0, hb⟩
   refine ⟨_, rfl, ?_⟩
   have qY := aM (Kd.z20_ (Kd.R_newM (M := fun k_ => (w.heap.size ≤ k_)) ho0 (z4_ (zB HB)) (fun k_ h_ => h_)) (z4_ (zB HB)))
   replace qA := aM (z5_ (g := qE) (lK qA) hb)
   replace qB := aM (z5_ (g := qF) (lK qB) hb)
   replace qD := aM (z5_ (g := qC) (lK qD) hb)
   replace HB := aM (z6_ (zB HB) hb)
   (try clear hb)
   (try clear hb2)
   (try clear hk)
   (try clear hi)
   (try clear ho0)
   obtain ⟨q6, q7, eo52⟩ := Kd.R_slice qY.out
   (first | subst eo52 | (injection eo52 with f1_ f2_ f3_; have f4_ := f1_.symm; have f5_ := f3_.symm; clear f1_ f2_ f3_; subst f4_; subst f5_))
   refine hK.out _ _ ⟨(z2_ qB.out 0).trans rfl, (z2_ qB.out 1).trans rfl, (z2_ qA.out 0).trans rfl, (z2_ qA.out 1).trans rfl⟩ (fun hHeld => ?_)
   clear hK K
   refine norm_ (a' := ?_) ?_ ?_
   rotate_left
   ·show Act.put _ (some 38) _ = _
    simp only [Act.put, List.setIfInBounds_toArray, List.set_cons_zero, List.set_cons_succ, i64_w, i32_w]
    rfl
   refine one_ (i := 7) (N := some 39) (bs 9 255) rfl rfl (one_of HT_.out zk) (by decide) (fun K hK => ?_)
   refine goes_ Tryd.func48 zk rfl #[.bool qL, .slice q6 qV.length q7] (by rfl) rfl rfl zA ?_
   with_reducible refine (swageref02_norm.calls k qL (fun k_ => some k_ = (.slice q6 qV.length q7 : Value).ownBlock) _ _ qV qh qk _ ?side1 A41.out).mono ?_
   (case side1 => exact Kd.R_V (Kd.R_tight rfl (Kd.z3_ (Kd.z3_ (Kd.z3_ (qY.out) qA.out (by decide)) qB.out (by decide)) qD.out (by decide))))
   rintro e w53 ⟨v511, rfl, ho0, hb⟩
   refine ⟨_, rfl, ?_⟩
   have qx := aM (Kd.V_lower (Kd.V_mono (ok' := fun k_ => (w.heap.size ≤ k_) ∧ k_ ≠ qE ∧ k_ ≠ qF ∧ k_ ≠ qC) ho0 (fun k_ hk_ => ⟨Or.elim hk_ (fun hs_ => ((Kd.z3_ (Kd.z3_ (Kd.z3_ (qY.out) qA.out (by decide)) qB.out (by decide)) qD.out (by decide)).1 k_ hs_.symm).1.1.1.1) (fun hn_ => (Nat.le_trans (z4_ (zB HB)) hn_)), Or.elim hk_ (fun hs_ => ((Kd.z3_ (Kd.z3_ (Kd.z3_ (qY.out) qA.out (by decide)) qB.out (by decide)) qD.out (by decide)).1 k_ hs_.symm).1.1.2) (fun hn_ => (Kd.freshB (g := qE) (o := .cells #[.bool qK, .slice qO qI.length qP] 68 (0, 0)) (lK qA) k_ hn_)), Or.elim hk_ (fun hs_ => ((Kd.z3_ (Kd.z3_ (Kd.z3_ (qY.out) qA.out (by decide)) qB.out (by decide)) qD.out (by decide)).1 k_ hs_.symm).1.2) (fun hn_ => (Kd.freshB (g := qF) (o := .cells #[.bool qL, .slice qQ qJ.length qR] 68 (0, 0)) (lK qB) k_ hn_)), Or.elim hk_ (fun hs_ => ((Kd.z3_ (Kd.z3_ (Kd.z3_ (qY.out) qA.out (by decide)) qB.out (by decide)) qD.out (by decide)).1 k_ hs_.symm).2) (fun hn_ => (Kd.freshB (g := qC) (o := .cells #[.bool false, .slice none 0 0] 68 (0, 0)) (lK qD) k_ hn_))⟩)) (z4_ (zB HB)))
   replace qY := aM (Kd.z7_ (lR qY) hb)
   replace qA := aM (z5_ (g := qE) (lK qA) hb)
   replace qB := aM (z5_ (g := qF) (lK qB) hb)
   replace qD := aM (z5_ (g := qC) (lK qD) hb)
   replace HB := aM (z6_ (zB HB) hb)
   (try clear hb)
   (try clear hb2)
   (try clear hk)
   (try clear hi)
   (try clear ho0)
   obtain ⟨q8, q9, eo55⟩ := Kd.V_slice qx.out
   (first | subst eo55 | (injection eo55 with f1_ f2_ f3_; have f4_ := f1_.symm; have f5_ := f3_.symm; clear f1_ f2_ f3_; subst f4_; subst f5_))
   refine hK.out _ _ ⟨(z2_ qB.out 0).trans rfl, (z2_ qB.out 1).trans rfl, (z2_ qA.out 0).trans rfl, (z2_ qA.out 1).trans rfl⟩ (fun hHeld => ?_)
   clear hK K
   refine norm_ (a' := ?_) ?_ ?_
   rotate_left
   ·show Act.put _ (some 39) _ = _
    simp only [Act.put, List.setIfInBounds_toArray, List.set_cons_zero, List.set_cons_succ, i64_w, i32_w]
    rfl
   refine one_ (i := 8) (N := none) (bs 9 511) rfl rfl (one_of HT_.out zk) (by decide) (fun K hK => ?_)
   have yC : w53.cell? ⟨qC, 0, none⟩ = some (.bool false) := (z2_ qD.out 0).trans rfl
   have j4 := z1_ qD.out 0
   have jc := qG.out
   have jd := qH.out
   have je := qM.out
   have jf := qN.out
   have yD : w53.cell? ⟨qC, 1, none⟩ = some (.slice none 0 0) := (z2_ qD.out 1).trans rfl
   have j5 := z1_ qD.out 1
   have jg := qG.out
   have jh := qH.out
   have ji := qM.out
   have jj := qN.out
   refine skip_ (w1 := ?_) (by rfl) rfl ?_ ?_
   rotate_left
   ·go_simp
    rfl
   refine hK.out _ _ ⟨((z14_ (p := ⟨qC, _, none⟩) qH.out _).trans (((z14_ (p := ⟨qC, _, none⟩) qH.out _).trans (hHeld.1)))), ((z14_ (p := ⟨qC, _, none⟩) qH.out _).trans (((z14_ (p := ⟨qC, _, none⟩) qH.out _).trans (hHeld.2.1)))), ((z14_ (p := ⟨qC, _, none⟩) qG.out _).trans (((z14_ (p := ⟨qC, _, none⟩) qG.out _).trans (hHeld.2.2.1)))), ((z14_ (p := ⟨qC, _, none⟩) qG.out _).trans (((z14_ (p := ⟨qC, _, none⟩) qG.out _).trans (hHeld.2.2.2))))⟩ (fun hHeld => ?_)
   clear hK K
   refine done_ (done_of HT_.out zk) ?_
   try go_wp2
   refine bodyPost_ret (results_cell_row rfl _ _ qC 68 #[.bool qh, .slice q8 qk.length q9] (0, 0) _ rfl (by refine lZ ?_; refine blk_put (cs := #[.bool qh, .slice none 0 0]) ?_ 1 _ rfl; refine lZ ?_; refine blk_put (cs := #[.bool false, .slice none 0 0]) ?_ 0 _ rfl; refine lZ ?_; exact qD.out) Tryd.underlying68 rfl zk) rfl ?_
   exact ⟨_, zE, by (with_reducible repeat (first | apply Kd.V_alloc | apply Kd.V_drewN | apply Kd.V_drew)); exact Kd.V_mono (Kd.V_far (p := ⟨qC, 1, none⟩) (Kd.V_far (p := ⟨qC, 0, none⟩) (Kd.V_mono qx.out (fun k_ hk => (⟨hk, hk.2.2.2⟩ : _ ∧ k_ ≠ qC))) (fun _ hk => hk.2) (.bool qh)) (fun _ hk => hk.2) (.slice q8 qk.length q9)) (fun _ hk => hk.1.1), zB HB⟩
def swageref02_Sign.f (qD : Bool) (qA : List Int) : Option (Int) := if (qA.length : Int) = 0 then (some 0) else (if qD = true then (some (-1)) else (some 1))
theorem swageref02_Sign.calls (qD : Bool) (qE : Option Addr) (qF : Nat) (qA : List Int) (r : Int) (w : World) (qG : Kd.C (Kd.int .u32) w qE qA.length qA) (qH : qA.length ≤ qF) (h : swageref02_Sign.f qD qA = some r) :
  Calls Tryd.prog 39 #[.agg #[.bool qD, .slice qE qA.length qF]] w fun e w' => e = .returned (.int .i64 r) ∧ Below w.heap.size w w' := by
 have hu68 := Tryd.underlying68
 have qQ := aM qG
 have qR := aM qH
 clear qG qH
 have HB := aM (Below.refl w.heap.size w)
 have H : (if (qA.length : Int) = 0 then (some 0) else (if qD = true then (some (-1)) else (some 1))) = some r := h
 clear h
 by_cases c2 : (qA.length : Int) = 0
 ·rw [if_pos c2] at H
  have c2b0 : ((qA.length : Int) == 0) = true := beq_iff_eq.mpr c2
  have c2b1 : ((qA.length : Int) != 0) = false := bne_eq_false_iff_eq.mpr c2
  clear c2
  obtain rfl := Option.some.inj H
  go_enter Tryd.func39, Tryd.ntmps39
  go_wp2_with (first | ((with_reducible refine gate_dst (N := 1) rfl ?_); refine z16_ rfl (N := 1) rfl (cs := #[.bool qD, .slice qE qA.length qF]) (t := 68) zG ?_; intro qB hg w3 hbox hb; have qC := aM (hbox); have qI := aM ((by rw [hg]; exact (z4_ (lB HB)) : w.heap.size ≤ qB)); have qJ := aM ((by rw [hg]; exact (z4_ (lB HB)) : w.heap.size ≤ qB)); replace HB := aM (z6_ (lB HB) hb); clear hb hbox hg; have qK := zc2 qC.out; have qL := fun i_ : Nat => z1_ qC.out i_))
  go_ret
  exact ⟨zE, zB HB⟩
 ·rw [if_neg c2] at H
  have c2b0 : ((qA.length : Int) == 0) = false := beq_eq_false_iff_ne.mpr c2
  have c2b1 : ((qA.length : Int) != 0) = true := bne_iff_ne.mpr c2
  have c2b2 : ¬ (qA = []) := fun h_ => c2 (by rw [h_]; rfl)
  by_cases c5 : qD = true
  ·subst c5
   have H1 : (some (-1)) = some r := by rw [if_pos rfl] at H; exact H
   clear H
   have H := H1
   clear H1
   obtain rfl := Option.some.inj H
   go_enter Tryd.func39, Tryd.ntmps39
   go_wp2_with (first | ((with_reducible refine gate_dst (N := 1) rfl ?_); refine z16_ rfl (N := 1) rfl (cs := #[.bool true, .slice qE qA.length qF]) (t := 68) zG ?_; intro qB hg w6 hbox hb; have qC := aM (hbox); have qI := aM ((by rw [hg]; exact (z4_ (lB HB)) : w.heap.size ≤ qB)); have qJ := aM ((by rw [hg]; exact (z4_ (lB HB)) : w.heap.size ≤ qB)); replace HB := aM (z6_ (lB HB) hb); clear hb hbox hg; have qM := zc2 qC.out; have qN := fun i_ : Nat => z1_ qC.out i_))
   go_ret
   exact ⟨zE, zB HB⟩
  ·replace c5 := Bool.eq_false_iff.mpr c5
   subst c5
   have H1 : (some 1) = some r := by rw [if_neg (show ¬ (false = true) by decide)] at H; exact H
   clear H
   have H := H1
   clear H1
   obtain rfl := Option.some.inj H
   go_enter Tryd.func39, Tryd.ntmps39
   go_wp2_with (first | ((with_reducible refine gate_dst (N := 1) rfl ?_); refine z16_ rfl (N := 1) rfl (cs := #[.bool false, .slice qE qA.length qF]) (t := 68) zG ?_; intro qB hg w8 hbox hb; have qC := aM (hbox); have qI := aM ((by rw [hg]; exact (z4_ (lB HB)) : w.heap.size ≤ qB)); have qJ := aM ((by rw [hg]; exact (z4_ (lB HB)) : w.heap.size ≤ qB)); replace HB := aM (z6_ (lB HB) hb); clear hb hbox hg; have qO := zc2 qC.out; have qP := fun i_ : Nat => z1_ qC.out i_))
   go_ret
   exact ⟨zE, zB HB⟩
end Go.Proofs.YtakmkhokbcjapaaDoor.XA
end
section
namespace Go.Proofs.YtakmkhokbcjapaaDoor.XA
open Go.Proofs.YtakmkhokbcjapaaDoor.Lift Go.RowKit Go.Proofs.YtakmkhokbcjapaaDoorW.PrintWords Go.Proofs.YtakmkhokbcjapaaDoorW.PrintLast Go.Proofs.YtakmkhokbcjapaaDoorW.PrintMore
attribute [local go_sem] max2_int min2_int max_two min_two max_three min_three max_four min_four
mutual
def swageref21_Join.l0 : Nat → List (List (S68)) → Int → Int → Int → Int → Option ((List (S68)) × Bool)
 | 0, _, _, _, _, _ => none
 | k + 1, x0, x1, x2, x8, x9 => if x9 < (x0.length : Int) then (if 0 ≤ x9 then (swageref21_Join.l0 k x0 x1 x2 (mx x8 (wrap64 ((wrap64 (x9 * x1)) + ((rd_L9 x0 x9).length : Int)))) (wrap64 (x9 + 1))) else (none)) else (if 0 ≤ (mx x8 x2) then (if (mx x8 x2 : Int).toNat ≤ 8796093022208 then (swageref21_Join.l1 k x0 x1 x2 (List.replicate (mx x8 x2 : Int).toNat z68) 0) else (none)) else (none))
def swageref21_Join.l1 : Nat → List (List (S68)) → Int → Int → List (S68) → Int → Option ((List (S68)) × Bool)
 | 0, _, _, _, _, _ => none
 | k + 1, x0, x1, x2, x10, x11 => if x11 < (x0.length : Int) then (swageref21_Join.l2 k x0 x1 x2 x10 x11 0) else (swageref21_Join.l3 k x2 x10 x2)
def swageref21_Join.l2 : Nat → List (List (S68)) → Int → Int → List (S68) → Int → Int → Option ((List (S68)) × Bool)
 | 0, _, _, _, _, _, _ => none
 | k + 1, x0, x1, x2, x10, x11, x12 => if 0 ≤ x11 then (if x11 < (x0.length : Int) then (if x12 < ((rd_L9 x0 x11).length : Int) then (if 0 ≤ (wrap64 ((wrap64 (x11 * x1)) + x12)) then (if (wrap64 ((wrap64 (x11 * x1)) + x12)) < (x10.length : Int) then (if 0 ≤ x12 then ((swageref02_Add.f k ((rd_T68 x10 (wrap64 ((wrap64 (x11 * x1)) + x12))).f0) ((rd_T68 x10 (wrap64 ((wrap64 (x11 * x1)) + x12))).f1) ((rd_T68 (rd_L9 x0 x11) x12).f0) ((rd_T68 (rd_L9 x0 x11) x12).f1)).bind fun bt522 => (swageref21_Join.l2 k x0 x1 x2 (x10.set ((wrap64 ((wrap64 (x11 * x1)) + x12)) : Int).toNat (⟨bt522.1, bt522.2⟩ : S68)) x11 (wrap64 (x12 + 1)))) else (none)) else (none)) else (none)) else (swageref21_Join.l1 k x0 x1 x2 x10 (wrap64 (x11 + 1)))) else (none)) else (none)
def swageref21_Join.l3 : Nat → Int → List (S68) → Int → Option ((List (S68)) × Bool)
 | 0, _, _, _ => none
 | k + 1, x2, x10, x13 => if x13 < (x10.length : Int) then (if 0 ≤ x13 then ((swageref02_Sign.f ((rd_T68 x10 x13).f0) ((rd_T68 x10 x13).f1)).bind fun qJ => (if qJ = 0 then (swageref21_Join.l3 k x2 x10 (wrap64 (x13 + 1))) else (some (([] : List (S68)), false)))) else (none)) else (if 0 ≤ x2 then (if x2 ≤ (x10.length : Int) then (some ((x10.take (x2 : Int).toNat), true)) else (none)) else (none))
end
def swageref21_Join.f (k : Nat) (l0 : List (List (S68))) (a1 : Int) (a2 : Int) : Option ((List (S68)) × Bool) := swageref21_Join.l0 k l0 a1 a2 0 0
def swageref21_Join.T13 : Bool × List (List Nat × List Nat) := (true, [([], []), ([], []), ([], []), ([1, 2], [1, 2]), ([], []), ([3, 4], [3, 4]), ([], []), ([], []), ([], []), ([7, 8], [7, 8]), ([], []), ([9, 10], [9, 10]), ([6, 11], [6, 11]), ([12], [12]), ([], []), ([], []), ([14, 15], [14, 15]), ([16], [16]), ([], []), ([17, 18], [17, 18]), ([19], [19]), ([13, 20], [13, 20]), ([0, 5, 0, 1, 2, 3, 4, 5, 6, 7, 8, 9, 10, 11, 12, 13, 14, 15, 16, 17, 18, 19, 20, 21], [0, 5]), ([22, 21, 21, 0, 1, 2, 3, 4, 5, 6, 7, 8, 9, 10, 11, 12, 13, 14, 15, 16, 17, 18, 19, 20, 21], [21, 22])])
def swageref21_Join.B13 : List Nat := [0, 0, 0, 6, 0, 30, 0, 0, 0, 384, 0, 1920, 4032, 8128, 0, 0, 49152, 114688, 0, 507904, 1032192, 2097088, 4194303, 8388607]
theorem swageref21_Join.tab13 : rtab .any (opsOf Tryd.f19 13) = swageref21_Join.T13 := by kernel_rfl
theorem swageref21_Join.bits13 : waitsOk swageref21_Join.T13.2 swageref21_Join.B13 = true := by kernel_rfl
theorem swageref21_Join.calls (k : Nat) (A0 : Option Addr) (c0 : Nat) (l0 : List (List (S68))) (a1 : Int) (a2 : Int) (r1 : List (S68)) (r2 : Bool) (w : World) (hr0 : Kd.C (Kd.slice 68 k68) w A0 l0.length l0) (hc0 : l0.length ≤ c0) (h : swageref21_Join.f k l0 a1 a2 = some (r1, r2)) :
  Calls Tryd.prog 19 #[.slice A0 l0.length c0, .int .i64 a1, .int .i64 a2] w fun e w' => ∃ v0_ : Value, e = .returned (.tuple #[v0_, .bool r2]) ∧ Kd.N k68 68 w' w.heap.size (fun k_ => (w.heap.size ≤ k_)) v0_ r1 ∧ Below w.heap.size w w' := by
 have hu68 := Tryd.underlying68
 have HR0 := aM hr0
 have HC0 := aM hc0
 clear hr0 hc0
 have HB := aM (Below.refl w.heap.size w)
 have H : (swageref21_Join.l0 k l0 a1 a2 0 0) = some (r1, r2) := h
 clear h
 have H' := aM H
 clear H
 go_enter Tryd.func19, Tryd.ntmps19
 go_wp2
 go_loopg [8, 9] k (fun kq v8 v9 w' => ∃ (qL : Int) (qH : Int), v8 = .int .i64 qL ∧ v9 = .int .i64 qH ∧ Aside0 (swageref21_Join.l0 kq l0 a1 a2 qL qH = some (r1, r2)) ∧ Aside0 (kq ≤ k) ∧ Aside0 (Below w.heap.size w w'))
 case atStart => exact ⟨(0), (0), zT, zT, H', ⟨Nat.le_refl _⟩, ⟨zB HB⟩⟩
 case round =>
  clear H'
  obtain ⟨qL, qH, rfl, rfl, HA, HK1, HB⟩ := hrel
  cases gk with
  | zero => exact absurd HA.out (by simp [swageref21_Join.l0])
  | succ k1 =>
   have H := HA.out
   clear HA
   simp only [swageref21_Join.l0] at H
   by_cases c4 : qH < (l0.length : Int)
   ·rw [if_pos c4] at H
    have c4b0 := decide_eq_true c4
    clear c4
    by_cases c5 : 0 ≤ qH
    ·rw [if_pos c5] at H
     have c5b0 := decide_eq_true c5
     clear c5
     obtain ⟨ji6, hji6⟩ : ∃ j_ : Int, (mx qL (wrap64 ((wrap64 (qH * a1)) + ((rd_L9 l0 qH).length : Int)))) = j_ := ⟨_, rfl⟩
     replace H : (swageref21_Join.l0 k1 l0 a1 a2 ji6 (wrap64 (qH + 1))) = some (r1, r2) := by first | (rw [hji6] at H; exact H) | (simp only [hji6] at H ⊢; exact H)
     have hji6_ : (if qL < (wrap64 ((wrap64 (qH * a1)) + ((rd_L9 l0 qH).length : Int))) then (wrap64 ((wrap64 (qH * a1)) + ((rd_L9 l0 qH).length : Int))) else qL) = ji6 := hji6
     have H' := aM H
     clear H
     have p514 : 0 ≤ (qH : Int) := of_decide_eq_true za
     have q514 : qH < (l0.length : Int) := of_decide_eq_true za
     obtain ⟨ad514, qr, qs, e514, hx514_0, hl514_0, hi514_0⟩ := at_L9 HR0.out qH p514 q514
     cases e514
     replace hx514_0 := (HB.out.cell (World.block_lt_of_cell? w _ hx514_0)).trans hx514_0
     have qo := aM hi514_0
     have qp := aM hl514_0
     clear hi514_0 hl514_0
     replace p514 := eq_true p514
     replace q514 := eq_true q514
     go_wp2
     go_roundg k1
     case measure => have := HK1.out; omega
     case rel => exact ⟨(ji6), (wrap64 (qH + 1)), (by first | rfl | (simp; done) | (simp only [← hji6] <;> (first | rfl | simp)) | (simp [*]; done)), zT, H', ⟨by have := HK1.out; omega⟩, ⟨zB HB⟩⟩
    ·rw [if_neg c5] at H
     exact absurd H (by simp)
   ·rw [if_neg c4] at H
    have c4b0 := decide_eq_false c4
    clear c4
    obtain ⟨ji7, hji7⟩ : ∃ j_ : Int, (mx qL a2) = j_ := ⟨_, rfl⟩
    replace H : (if 0 ≤ (ji7) then (if (ji7 : Int).toNat ≤ 8796093022208 then (swageref21_Join.l1 k1 l0 a1 a2 (List.replicate (ji7 : Int).toNat z68) 0) else (none)) else (none)) = some (r1, r2) := by first | (rw [hji7] at H; exact H) | (simp only [hji7] at H ⊢; exact H)
    have hji7_ : (if qL < a2 then a2 else qL) = ji7 := hji7
    by_cases c8 : 0 ≤ (ji7)
    ·rw [if_pos c8] at H
     have c8b0 := eq_true c8
     have c8b1 := decide_eq_true c8
     clear c8
     by_cases c9 : (ji7 : Int).toNat ≤ 8796093022208
     ·rw [if_pos c9] at H
      have c9b0 := eq_true c9
      have c9b1 := decide_eq_true c9
      clear c9
      obtain ⟨y515, hy515⟩ : ∃ y_ : List (S68), y_ = (List.replicate (ji7 : Int).toNat z68) := ⟨_, rfl⟩
      replace H : (swageref21_Join.l1 k1 l0 a1 a2 y515 0) = some (r1, r2) := zH hy515 H
      have Ny515 := aM hy515
      clear hy515
      have H' := aM H
      clear H
      go_wp2_with (first | ((with_reducible refine gate_dst (N := 34) rfl ?_); refine Kd.N_make k68 _ 68 rfl (N' := 34) rfl 33 _ _ rfl ji7 rfl rfl Tryd.underlying33 (.agg #[(.bool false), (.slice none 0 0)]) 32 info68 rfl (by decide) (by omega) z68 (ok := fun k_ => wr.heap.size ≤ k_) (okp := fun _ => False) (k68_mkF _ _ z68 (Nat.le_refl _) (Kd.F_nil _ _ _)) (fun _ hk => hk.elim) (Nat.le_refl _) (of_decide_eq_true za) (Nat.le_trans (Nat.mul_le_mul_right _ (of_decide_eq_true za : ji7.toNat ≤ 8796093022208)) (by omega)) (Below.refl _ _) (Nat.le_refl _) ?_; intro v516 w10 ho11 hb hg_ hnew_; clear hg_ hnew_; (first | rw [← Ny515.out] at ho11 | (simp only [Int.reduceToNat] at ho11; rw [← Ny515.out] at ho11)); have qi := aM (Kd.N_lower (Kd.N_mono (ok' := fun k_ => (w.heap.size ≤ k_)) ho11 (fun k_ hk_ => (Nat.le_trans (z4_ (lB HB)) hk_))) (z4_ (lB HB))); replace HB := aM (z6_ (lB HB) hb); clear hb ho11))
      go_loopg [11] k1 (fun kq v11 w' => ∃ (qF : List (S68)) (qB : Int), v11 = .int .i64 qB ∧ Aside0 (swageref21_Join.l1 kq l0 a1 a2 qF qB = some (r1, r2)) ∧ Aside0 (kq ≤ k1) ∧ Aside0 (Kd.N k68 68 w' w.heap.size (fun k_ => (w.heap.size ≤ k_)) v516 qF) ∧ Aside0 (Below w.heap.size w w'))
      case atStart => exact ⟨(y515), (0), zT, H', ⟨Nat.le_refl _⟩, ⟨by (with_reducible repeat (first | apply Kd.N_alloc | apply Kd.N_drewN | apply Kd.N_drew)); exact qi.out⟩, ⟨zB HB⟩⟩
      case round =>
       clear H'
       try clear c4
       try clear c8
       try clear c9
       obtain ⟨qF, qB, rfl, HA, HK2, qA, HB⟩ := hrel
       cases gk with
       | zero => exact absurd HA.out (by simp [swageref21_Join.l1])
       | succ k2 =>
        have H := HA.out
        clear HA
        simp only [swageref21_Join.l1] at H
        by_cases c12 : qB < (l0.length : Int)
        ·rw [if_pos c12] at H
         have c12b0 := decide_eq_true c12
         clear c12
         have H' := aM H
         clear H
         go_wp2
         go_loopg [12] k2 (fun kq v12 w' => ∃ (qC : List (S68)) (qD : Int), v12 = .int .i64 qD ∧ Aside0 (swageref21_Join.l2 kq l0 a1 a2 qC qB qD = some (r1, r2)) ∧ Aside0 (kq ≤ k2) ∧ Aside0 (Kd.N k68 68 w' w.heap.size (fun k_ => (w.heap.size ≤ k_)) v516 qC) ∧ Aside0 (Below w.heap.size w w'))
         case atStart => exact ⟨(qF), (0), zT, H', ⟨Nat.le_refl _⟩, ⟨by (with_reducible repeat (first | apply Kd.N_alloc | apply Kd.N_drewN | apply Kd.N_drew)); exact qA.out⟩, ⟨zB HB⟩⟩
         case round =>
          clear H'
          try clear c4
          try clear c8
          try clear c9
          try clear c12
          obtain ⟨qC, qD, rfl, HA, HK3, qA, HB⟩ := hrel
          cases gk with
          | zero => exact absurd HA.out (by simp [swageref21_Join.l2])
          | succ k3 =>
           have H := HA.out
           clear HA
           simp only [swageref21_Join.l2] at H
           by_cases c13 : 0 ≤ qB
           ·rw [if_pos c13] at H
            have c13b0 := decide_eq_true c13
            clear c13
            by_cases c14 : qB < (l0.length : Int)
            ·rw [if_pos c14] at H
             have c14b0 := decide_eq_true c14
             clear c14
             by_cases c15 : qD < ((rd_L9 l0 qB).length : Int)
             ·rw [if_pos c15] at H
              have c15b0 := decide_eq_true c15
              clear c15
              obtain ⟨ji16, hji16⟩ : ∃ j_ : Int, (wrap64 ((wrap64 (qB * a1)) + qD)) = j_ := ⟨_, rfl⟩
              replace H : (if 0 ≤ (ji16) then (if (ji16) < (qC.length : Int) then (if 0 ≤ qD then ((swageref02_Add.f k3 ((rd_T68 qC (ji16)).f0) ((rd_T68 qC (ji16)).f1) ((rd_T68 (rd_L9 l0 qB) qD).f0) ((rd_T68 (rd_L9 l0 qB) qD).f1)).bind fun bt522 => (swageref21_Join.l2 k3 l0 a1 a2 (qC.set ((ji16) : Int).toNat (⟨bt522.1, bt522.2⟩ : S68)) qB (wrap64 (qD + 1)))) else (none)) else (none)) else (none)) = some (r1, r2) := by first | (rw [hji16] at H; exact H) | (simp only [hji16] at H ⊢; exact H)
              have hji16w : (IntKind.i64.wrap ((wrap64 (qB * a1)) + qD)) = ji16 := (i64_w _).trans hji16
              by_cases c17 : 0 ≤ (ji16)
              ·rw [if_pos c17] at H
               have c17b0 := decide_eq_true c17
               clear c17
               by_cases c18 : (ji16) < (qC.length : Int)
               ·rw [if_pos c18] at H
                have c18b0 := decide_eq_true c18
                clear c18
                by_cases c19 : 0 ≤ qD
                ·rw [if_pos c19] at H
                 have c19b0 := decide_eq_true c19
                 clear c19
                 replace H := zbs H
                 obtain ⟨⟨qM, qN⟩, A200, H⟩ := H
                 replace H : (swageref21_Join.l2 k3 l0 a1 a2 (qC.set ((ji16) : Int).toNat (⟨qM, qN⟩ : S68)) qB (wrap64 (qD + 1))) = some (r1, r2) := H
                 have A20 := aM A200
                 clear A200
                 obtain ⟨y526, hy526⟩ : ∃ y_ : List (S68), y_ = (qC.set ((ji16) : Int).toNat (⟨qM, qN⟩ : S68)) := ⟨_, rfl⟩
                 replace H : (swageref21_Join.l2 k3 l0 a1 a2 y526 qB (wrap64 (qD + 1))) = some (r1, r2) := zH hy526 H
                 have Ny526 := aM hy526
                 clear hy526
                 have H' := aM H
                 clear H
                 have p518 : 0 ≤ (qB : Int) := of_decide_eq_true za
                 have q518 : qB < (l0.length : Int) := of_decide_eq_true za
                 obtain ⟨ad518, qd, qe, e518, hx518_0, hl518_0, hi518_0⟩ := at_L9 HR0.out qB p518 q518
                 cases e518
                 replace hx518_0 := (HB.out.cell (World.block_lt_of_cell? w _ hx518_0)).trans hx518_0
                 have qZ := aM hi518_0
                 have qa := aM hl518_0
                 clear hi518_0 hl518_0
                 replace p518 := eq_true p518
                 replace q518 := eq_true q518
                 try go_wp2
                 replace qA := aM (Kd.N_drew qA.out)
                 replace HB := aM (below_drew1 HB.out)
                 obtain ⟨qu, qf, eo23⟩ := Kd.N_slice qA.out
                 (first | subst eo23 | (injection eo23 with f1_ f2_ f3_; have f4_ := f1_.symm; have f5_ := f3_.symm; clear f1_ f2_ f3_; subst f4_; subst f5_))
                 have p519 : 0 ≤ ((ji16) : Int) := of_decide_eq_true za
                 have q519 : (ji16) < (qC.length : Int) := of_decide_eq_true za
                 obtain ⟨ad519, qV, qW, e519, hx519_0, hx519_1, hl519_1, hi519_1⟩ := at_T68 (Kd.N_reads' qA.out).2.2 (ji16) p519 q519
                 cases e519
                 obtain ⟨ce519, hce519, hMe519, hcc519⟩ := Kd.N_get qA.out z68 (ji16) p519 (by first | exact q519 | exact of_decide_eq_true za | (have e_ := (Kd.N_reads' qA.out).1; omega))
                 obtain ⟨ua519_1, uc519_1, rfl, ul519_1, ge519_1⟩ := k68_openF hMe519
                 have hv519_1 := hcc519 1 _ rfl
                 rw [add_field _ _ 1 (by omega)] at hv519_1
                 replace hv519_1 := Option.some.inj (hv519_1.symm.trans hx519_1)
                 injection hv519_1 with hva_ hvn_ hvc_
                 rw [hva_] at ge519_1
                 rw [hvc_] at ul519_1
                 have qO := aM (show Kd.V (Kd.int .u32) 76 _ w.heap.size _ _ ((rd_T68 qC (ji16)).f1) from Kd.V_mk ul519_1 ge519_1)
                 clear hva_ hvn_ hvc_ ge519_1 ul519_1
                 clear hcc519 hce519
                 have qI := aM hi519_1
                 have qb := aM hl519_1
                 clear hi519_1 hl519_1
                 replace p519 := eq_true p519
                 replace q519 := eq_true q519
                 have p520 : 0 ≤ (qB : Int) := of_decide_eq_true za
                 have q520 : qB < (l0.length : Int) := of_decide_eq_true za
                 obtain ⟨ad520, qt, qg, e520, hx520_0, hl520_0, hi520_0⟩ := at_L9 HR0.out qB p520 q520
                 have hw520_0 := hx520_0
                 obtain rfl : ad518 = ad520 := (by injection e520)
                 replace hx520_0 := (HB.out.cell (World.block_lt_of_cell? w _ hx520_0)).trans hx520_0
                 have qS := aM hi520_0
                 have qq := aM hl520_0
                 clear hi520_0 hl520_0
                 replace p520 := eq_true p520
                 replace q520 := eq_true q520
                 have p521 : 0 ≤ (qD : Int) := of_decide_eq_true za
                 have q521 : qD < ((rd_L9 l0 qB).length : Int) := of_decide_eq_true za
                 obtain ⟨ad521, qX, qY, e521, hx521_0, hx521_1, hl521_1, hi521_1⟩ := at_T68 qS.out qD p521 q521
                 have hw521_1 := hx521_1
                 have hw521_0 := hx521_0
                 cases e521
                 replace hx521_0 := (HB.out.cell (World.block_lt_of_cell? w _ hx521_0)).trans hx521_0
                 replace hx521_1 := (HB.out.cell (World.block_lt_of_cell? w _ hx521_1)).trans hx521_1
                 have qT := aM hi521_1
                 have qc := aM hl521_1
                 clear hi521_1 hl521_1
                 replace p521 := eq_true p521
                 replace q521 := eq_true q521
                 refine start_ (n := 24) (S := fun w' => w'.cell? (ad519.add (((ji16)).toNat * 2)) = some (.bool ((rd_T68 qC (ji16)).f0)) ∧ w'.cell? ⟨(ad519.add (((ji16)).toNat * 2)).block, (ad519.add (((ji16)).toNat * 2)).off + 1, none⟩ = some (.slice qV ((rd_T68 qC (ji16)).f1).length qW) ∧ w'.cell? (ad518.add (qB).toNat) = some (.slice (some ad521) (rd_L9 l0 qB).length qg) ∧ w'.cell? (ad521.add ((qD).toNat * 2)) = some (.bool ((rd_T68 (rd_L9 l0 qB) qD).f0)) ∧ w'.cell? ⟨(ad521.add ((qD).toNat * 2)).block, (ad521.add ((qD).toNat * 2)).off + 1, none⟩ = some (.slice qX ((rd_T68 (rd_L9 l0 qB) qD).f1).length qY)) (ds := [23]) (bs 24 0) zk rfl rfl ⟨hx519_0, hx519_1, ((HB.out.cell (World.block_lt_of_cell? w _ hw520_0)).trans hw520_0), ((HB.out.cell (World.block_lt_of_cell? w _ hw521_0)).trans hw521_0), ((HB.out.cell (World.block_lt_of_cell? w _ hw521_1)).trans hw521_1)⟩ (fun hHeld => ?_); refine with_tabW swageref21_Join.tab13 swageref21_Join.bits13 (fun HT_ HW_ => ?_)
                 generalize wr.drew = w22 at qA HB qO qI qS qT hx519_0 hx519_1 hx520_0 hx521_0 hx521_1 hHeld ⊢
                 refine pQ 0 50 24 1 ?_
                 refine pQ 1 51 24 3 ?_
                 refine pQ 2 52 24 7 ?_
                 refine pQ 3 53 24 15 ?_
                 refine pQ 4 54 24 31 ?_
                 refine pQ 5 55 24 63 ?_
                 refine pQ 6 56 24 127 ?_
                 refine pQ 7 57 24 255 ?_
                 refine pQ 8 58 24 511 ?_
                 refine pQ 9 59 24 1023 ?_
                 refine pQ 10 60 24 2047 ?_
                 refine pQ 11 61 24 4095 ?_
                 refine pQ 12 62 24 8191 ?_
                 refine pQ 14 64 24 24575 ?_
                 refine pQ 15 65 24 57343 ?_
                 refine pQ 16 66 24 122879 ?_
                 refine pQ 18 68 24 385023 ?_
                 refine take_ (i := 13) (N := some 63) (v := ?_) (a' := ?_) (bs 24 393215) rfl rfl (take_ofW HT_.out HW_.out zk) (fun _ _ _ h => h) (Or.inl ⟨by rfl, ?_⟩) hHeld ?_ ?_
                 rotate_left
                 ·rintro w' ⟨s0, s1, s2, s3, s4⟩
                  go_simp
                  with_reducible rfl
                 rotate_left
                 ·simp only [Act.put, List.setIfInBounds_toArray, List.set_cons_zero, List.set_cons_succ, i64_w, i32_w]
                  rfl
                 refine take_ (i := 17) (N := some 67) (v := ?_) (a' := ?_) (bs 24 524287) rfl rfl (take_ofW HT_.out HW_.out zk) (fun _ _ _ h => h) (Or.inl ⟨by rfl, ?_⟩) hHeld ?_ ?_
                 rotate_left
                 ·rintro w' ⟨s0, s1, s2, s3, s4⟩
                  go_simp
                  with_reducible rfl
                 rotate_left
                 ·simp only [Act.put, List.setIfInBounds_toArray, List.set_cons_zero, List.set_cons_succ, i64_w, i32_w]
                  rfl
                 refine pQ 19 69 24 1048575 ?_
                 refine take_ (i := 20) (N := some 70) (v := ?_) (a' := ?_) (bs 24 2097151) rfl rfl (take_ofW HT_.out HW_.out zk) (fun _ _ _ h => h) (Or.inl ⟨by rfl, ?_⟩) hHeld ?_ ?_
                 rotate_left
                 ·rintro w' ⟨s0, s1, s2, s3, s4⟩
                  go_simp
                  with_reducible rfl
                 rotate_left
                 ·simp only [Act.put, List.setIfInBounds_toArray, List.set_cons_zero, List.set_cons_succ, i64_w, i32_w]
                  rfl
                 refine one_ (i := 21) (N := some 71) (bs 24 4194303) rfl rfl (one_of HT_.out zk) (by decide) (fun K hK => ?_)
                 refine goes_ Tryd.func38 zk rfl #[.agg #[.bool ((rd_T68 qC (ji16)).f0), .slice qV ((rd_T68 qC (ji16)).f1).length qW], .agg #[.bool ((rd_T68 (rd_L9 l0 qB) qD).f0), .slice qX ((rd_T68 (rd_L9 l0 qB) qD).f1).length qY]] (by rfl) rfl rfl (by (try simp only [List.map_toArray, List.map_cons, List.map_nil]); first | done | (simp only [hji16]; rfl) | rfl | (simp only [List.length_drop, List.length_take]; rfl)) ?_
                 with_reducible refine (swageref02_Add.calls k3 ((rd_T68 qC (ji16)).f0) _ _ ((rd_T68 qC (ji16)).f1) ((rd_T68 (rd_L9 l0 qB) qD).f0) _ _ ((rd_T68 (rd_L9 l0 qB) qD).f1) qM qN _ ?side1 ?side2 ?side3 ?side4 A20.out).mono ?_
                 (case side1 => repeat (first | exact (by repeat (first | (with_reducible exact qI.out) | (with_reducible refine Kd.C_alloc ?_ _) | (with_reducible refine Kd.C_drewN ?_ _) | (with_reducible refine Kd.C_drew ?_) | exact qI.out)) | (with_reducible refine Kd.C_alloc ?_ _) | (with_reducible refine Kd.C_drewN ?_ _) | (with_reducible refine Kd.C_drew ?_)))
                 (case side2 => exact qb.out)
                 (case side3 => refine lY ?_; exact (Kd.z8_ qT.out HB.out))
                 (case side4 => exact qc.out)
                 rintro e w24 ⟨v524, rfl, ho0, hb⟩
                 have HS0_ := (hb.cell (World.block_lt_of_cell? _ _ (hHeld.1))).trans (hHeld.1)
                 have HS1_ := (hb.cell (World.block_lt_of_cell? _ _ (hHeld.2.1))).trans (hHeld.2.1)
                 refine ⟨_, rfl, ?_⟩
                 replace qO := aM (Kd.V_below (lV qO) hb)
                 have qU := aM (Kd.V_lower (Kd.V_mono (ok' := fun k_ => (w.heap.size ≤ k_) ∧ some k_ ≠ (.slice (some ad519) qC.length qf : Value).ownBlock) ho0 (fun k_ hk_ => ⟨(Nat.le_trans (z4_ (lB HB)) hk_), (Kd.fresh' (Kd.N_lt (lN qA)) k_ hk_)⟩)) (z4_ (lB HB)))
                 replace qA := aM (Kd.N_below (lN qA) hb)
                 replace qI := aM (Kd.z8_ (by repeat (first | (with_reducible exact qI.out) | (with_reducible refine Kd.C_alloc ?_ _) | (with_reducible refine Kd.C_drewN ?_ _) | (with_reducible refine Kd.C_drew ?_) | exact qI.out)) hb)
                 replace HB := aM (z6_ (lB HB) hb)
                 (try clear hb)
                 (try clear hb2)
                 (try clear hk)
                 (try clear hi)
                 (try clear ho0)
                 have p21 : 0 ≤ ((ji16) : Int) := of_decide_eq_true za
                 have q21 : ((ji16) : Int) < ((qC.length : Int) : Int) := of_decide_eq_true za
                 obtain ⟨go21, qv, eo21, qh, gl21, cl21, HG21⟩ := Kd.N_form qA.out (by omega)
                 (first | cases eo21 | (injection eo21 with ea_ en_ ec_; (first | subst ea_ | (injection ea_ with ea_; subst ea_)); subst ec_; clear en_))
                 have GB21 := aM qh
                 have GG21 := aM HG21
                 clear qh gl21 HG21
                 (first | simp only [add_plain] at hx519_0 | skip)
                 (first | simp only [add_plain] at hx519_1 | skip)
                 obtain ⟨ce21, hcl21, hM21, hcc21, hfr21⟩ := Kd.N_elem qA.out z68 ((ji16) : Int) p21 q21
                 obtain ⟨ua21_1, uc21_1, rfl, ul21_1, ge21_1⟩ := k68_openF hM21
                 have hx21_0 : World.cell? _ ⟨go21, ((ji16) : Int).toNat * 2, none⟩ = some (.bool ((rd_T68 qC (ji16)).f0)) := hcc21 0 _ rfl
                 have hx21_1 : World.cell? _ ⟨go21, ((ji16) : Int).toNat * 2 + 1, none⟩ = some (.slice ua21_1 ((rd_T68 qC (ji16)).f1).length uc21_1) := hcc21 1 _ rfl
                 have hf21_0 : World.frozen? _ ⟨go21, ((ji16) : Int).toNat * 2, none⟩ = false := hfr21 0
                 have hf21_1 : World.frozen? _ ⟨go21, ((ji16) : Int).toNat * 2 + 1, none⟩ = false := hfr21 1
                 clear hcl21 hcc21 hfr21 hM21
                 replace p21 := eq_true p21
                 replace q21 := eq_true q21
                 obtain ⟨qk, ql, eo26⟩ := Kd.V_slice qU.out
                 (first | subst eo26 | (injection eo26 with f1_ f2_ f3_; have f4_ := f1_.symm; have f5_ := f3_.symm; clear f1_ f2_ f3_; subst f4_; subst f5_))
                 have HX25 := aM (show Kd.N k68 68 _ w.heap.size (fun k_ => (w.heap.size ≤ k_)) (.slice (some ⟨go21, 0, none⟩) qC.length qf) qC from (Kd.N_mono (qA.out) (fun k_ hk => hk)))
                 obtain ⟨ce25, hcl25, hM25, hcc25, hfr25⟩ := Kd.N_elem HX25.out z68 ((ji16) : Int) (of_decide_eq_true za) (by have h_ : ((ji16) : Int) < ((qC.length : Int) : Int) := of_decide_eq_true za; first | exact h_ | (have e_ := (Kd.N_reads' qA.out).1; omega) | simpa using h_)
                 obtain ⟨ua25_1, uc25_1, rfl, ul25_1, ge25_1⟩ := k68_openF hM25
                 have HP25 := (Kd.N_seg HX25.out ((ji16) : Int) (of_decide_eq_true za) (by have h_ : ((ji16) : Int) < ((qC.length : Int) : Int) := of_decide_eq_true za; first | exact h_ | (have e_ := (Kd.N_reads' qA.out).1; omega) | simpa using h_) (seg := [.bool qM, .slice qk qN.length ql]) (j := 0) hcl25 hcc25 (show 2 ≤ 2 from by decide) (x' := (⟨qM, qN⟩ : S68)) (k68_mkF _ _ (⟨qM, qN⟩ : S68) (Kd.V_reads' (Kd.V_mono (ok' := (fun k_ => ((fun k_ => (w.heap.size ≤ k_))) k_ ∧ k_ ≠ go21)) (qU.out) (fun k_ hk => ⟨hk.1, fun e_ => (hk.2) (by rw [e_]; rfl)⟩))).2.1 (Kd.V_F (Kd.V_mono (ok' := (fun k_ => ((fun k_ => (w.heap.size ≤ k_))) k_ ∧ k_ ≠ go21)) (qU.out) (fun k_ hk => ⟨hk.1, fun e_ => (hk.2) (by rw [e_]; rfl)⟩)))) (fun _ hk => hk)).1
                 rw [← Ny526.out] at HP25
                 have HQ25 := aM HP25
                 clear hcl25 hcc25 hfr25 hM25 HP25
                 refine hK.out _ _ ⟨HS0_, HS1_, ((HB.out.cell (World.block_lt_of_cell? w _ hw520_0)).trans hw520_0), ((HB.out.cell (World.block_lt_of_cell? w _ hw521_0)).trans hw521_0), ((HB.out.cell (World.block_lt_of_cell? w _ hw521_1)).trans hw521_1)⟩ (fun hHeld => ?_)
                 clear hK K
                 refine norm_ (a' := ?_) ?_ ?_
                 rotate_left
                 ·show Act.put _ (some 71) _ = _
                  simp only [Act.put, List.setIfInBounds_toArray, List.set_cons_zero, List.set_cons_succ, i64_w, i32_w]
                  rfl
                 refine pQ 22 72 24 8388607 ?_
                 refine last_ (i := 23) (N := none) (bs 24 16777215) rfl rfl (one_of HT_.out zk) (by decide) (fun K hK => ?_)
                 refine skip_ (w1 := ?_) (by rfl) rfl ?_ ?_
                 rotate_left
                 ·go_simp
                  rfl
                 refine hK.out _ _ ?_
                 clear hK K
                 refine done_ (done_of HT_.out zk) ?_
                 try go_wp2
                 go_roundg k3
                 case measure => have := HK1.out; have := HK2.out; have := HK3.out; omega
                 case rel => exact ⟨(y526), (wrap64 (qD + 1)), zT, H', ⟨by have := HK1.out; have := HK2.out; have := HK3.out; omega⟩, ⟨by (with_reducible repeat (first | apply Kd.N_alloc | apply Kd.N_drewN | apply Kd.N_drew)); exact HQ25.out⟩, ⟨zB HB⟩⟩
                ·rw [if_neg c19] at H
                 exact absurd H (by simp)
               ·rw [if_neg c18] at H
                exact absurd H (by simp)
              ·rw [if_neg c17] at H
               exact absurd H (by simp)
             ·rw [if_neg c15] at H
              have c15b0 := decide_eq_false c15
              clear c15
              have H' := aM H
              clear H
              have p518 : 0 ≤ (qB : Int) := of_decide_eq_true za
              have q518 : qB < (l0.length : Int) := of_decide_eq_true za
              obtain ⟨ad518, qd, qe, e518, hx518_0, hl518_0, hi518_0⟩ := at_L9 HR0.out qB p518 q518
              cases e518
              replace hx518_0 := (HB.out.cell (World.block_lt_of_cell? w _ hx518_0)).trans hx518_0
              have qZ := aM hi518_0
              have qa := aM hl518_0
              clear hi518_0 hl518_0
              replace p518 := eq_true p518
              replace q518 := eq_true q518
              go_wp2
              go_roundg k3
              case measure => have := HK1.out; have := HK2.out; have := HK3.out; omega
              case rel => exact ⟨(qC), (wrap64 (qB + 1)), zT, H', ⟨by have := HK1.out; have := HK2.out; have := HK3.out; omega⟩, ⟨by (with_reducible repeat (first | apply Kd.N_alloc | apply Kd.N_drewN | apply Kd.N_drew)); exact qA.out⟩, ⟨zB HB⟩⟩
            ·rw [if_neg c14] at H
             exact absurd H (by simp)
           ·rw [if_neg c13] at H
            exact absurd H (by simp)
        ·rw [if_neg c12] at H
         have c12b0 := decide_eq_false c12
         clear c12
         have H' := aM H
         clear H
         go_wp2
         go_loopg [13] k2 (fun kq v13 w' => ∃ (qE : Int), v13 = .int .i64 qE ∧ Aside0 (swageref21_Join.l3 kq a2 qF qE = some (r1, r2)) ∧ Aside0 (kq ≤ k2) ∧ Aside0 (Kd.N k68 68 w' w.heap.size (fun k_ => (w.heap.size ≤ k_)) v516 qF) ∧ Aside0 (Below w.heap.size w w'))
         case atStart => exact ⟨(a2), zT, H', ⟨Nat.le_refl _⟩, ⟨by (with_reducible repeat (first | apply Kd.N_alloc | apply Kd.N_drewN | apply Kd.N_drew)); exact qA.out⟩, ⟨zB HB⟩⟩
         case round =>
          clear H'
          try clear c4
          try clear c8
          try clear c9
          try clear c12
          obtain ⟨qE, rfl, HA, HK3, qA, HB⟩ := hrel
          cases gk with
          | zero => exact absurd HA.out (by simp [swageref21_Join.l3])
          | succ k3 =>
           have H := HA.out
           clear HA
           simp only [swageref21_Join.l3] at H
           by_cases c27 : qE < (qF.length : Int)
           ·rw [if_pos c27] at H
            have c27b0 := decide_eq_true c27
            clear c27
            by_cases c28 : 0 ≤ qE
            ·rw [if_pos c28] at H
             have c28b0 := decide_eq_true c28
             clear c28
             replace H := zbs H
             obtain ⟨qJ, A290, H⟩ := H
             replace H : (if qJ = 0 then (swageref21_Join.l3 k3 a2 qF (wrap64 (qE + 1))) else (some (([] : List (S68)), false))) = some (r1, r2) := H
             have A29 := aM A290
             clear A290
             by_cases c30 : qJ = 0
             ·rw [if_pos c30] at H
              have c30b0 : (qJ == 0) = true := beq_iff_eq.mpr c30
              have c30b1 : (qJ != 0) = false := bne_eq_false_iff_eq.mpr c30
              clear c30
              have H' := aM H
              clear H
              obtain ⟨qw, qx, eo31⟩ := Kd.N_slice qA.out
              subst eo31
              have p527 : 0 ≤ (qE : Int) := of_decide_eq_true za
              have q527 : qE < (qF.length : Int) := of_decide_eq_true za
              obtain ⟨ad527, qQ, qR, e527, hx527_0, hx527_1, hl527_1, hi527_1⟩ := at_T68 (Kd.N_reads' qA.out).2.2 qE p527 q527
              cases e527
              obtain ⟨ce527, hce527, hMe527, hcc527⟩ := Kd.N_get qA.out z68 qE p527 (by first | exact q527 | exact of_decide_eq_true za | (have e_ := (Kd.N_reads' qA.out).1; omega))
              obtain ⟨ua527_1, uc527_1, rfl, ul527_1, ge527_1⟩ := k68_openF hMe527
              have hv527_1 := hcc527 1 _ rfl
              rw [add_field _ _ 1 (by omega)] at hv527_1
              replace hv527_1 := Option.some.inj (hv527_1.symm.trans hx527_1)
              injection hv527_1 with hva_ hvn_ hvc_
              rw [hva_] at ge527_1
              rw [hvc_] at ul527_1
              have qK := aM (show Kd.V (Kd.int .u32) 76 _ w.heap.size _ _ ((rd_T68 qF qE).f1) from Kd.V_mk ul527_1 ge527_1)
              clear hva_ hvn_ hvc_ ge527_1 ul527_1
              clear hcc527 hce527
              have qG := aM hi527_1
              have qP := aM hl527_1
              clear hi527_1 hl527_1
              replace p527 := eq_true p527
              replace q527 := eq_true q527
              go_wp2_with (first | ((with_reducible refine gate_callee (f := 39) rfl ?_); refine z13_ (some 84) rfl rfl Tryd.func39 zk rfl #[.agg #[.bool ((rd_T68 qF qE).f0), .slice qQ ((rd_T68 qF qE).f1).length qR]] rfl zA ?_; (with_reducible refine (swageref02_Sign.calls ((rd_T68 qF qE).f0) _ _ ((rd_T68 qF qE).f1) qJ _ ?side1 ?side2 A29.out).mono ?_); (case side1 => repeat (first | exact (by repeat (first | (with_reducible exact qG.out) | (with_reducible refine Kd.C_alloc ?_ _) | (with_reducible refine Kd.C_drewN ?_ _) | (with_reducible refine Kd.C_drew ?_) | exact qG.out)) | (with_reducible refine Kd.C_alloc ?_ _) | (with_reducible refine Kd.C_drewN ?_ _) | (with_reducible refine Kd.C_drew ?_))); (case side2 => exact qP.out); rintro e w32 ⟨rfl, hb⟩; refine ⟨_, rfl, ?_⟩; replace qA := aM (Kd.N_below (lN qA) hb); replace qK := aM (Kd.V_below (lV qK) hb); replace qG := aM (Kd.z8_ (by repeat (first | (with_reducible exact qG.out) | (with_reducible refine Kd.C_alloc ?_ _) | (with_reducible refine Kd.C_drewN ?_ _) | (with_reducible refine Kd.C_drew ?_) | exact qG.out)) hb); replace HB := aM (z6_ (lB HB) hb); (try clear hb)))
              go_roundg k3
              case measure => have := HK1.out; have := HK2.out; have := HK3.out; omega
              case rel => exact ⟨(wrap64 (qE + 1)), zT, H', ⟨by have := HK1.out; have := HK2.out; have := HK3.out; omega⟩, ⟨by (with_reducible repeat (first | apply Kd.N_alloc | apply Kd.N_drewN | apply Kd.N_drew)); exact qA.out⟩, ⟨zB HB⟩⟩
             ·rw [if_neg c30] at H
              have c30b0 : (qJ == 0) = false := beq_eq_false_iff_ne.mpr c30
              have c30b1 : (qJ != 0) = true := bne_iff_ne.mpr c30
              simp only [Option.some.injEq, Prod.mk.injEq] at H
              obtain ⟨rfl, rfl⟩ := H
              obtain ⟨qy, qz, eo33⟩ := Kd.N_slice qA.out
              subst eo33
              have p527 : 0 ≤ (qE : Int) := of_decide_eq_true za
              have q527 : qE < (qF.length : Int) := of_decide_eq_true za
              obtain ⟨ad527, qQ, qR, e527, hx527_0, hx527_1, hl527_1, hi527_1⟩ := at_T68 (Kd.N_reads' qA.out).2.2 qE p527 q527
              cases e527
              obtain ⟨ce527, hce527, hMe527, hcc527⟩ := Kd.N_get qA.out z68 qE p527 (by first | exact q527 | exact of_decide_eq_true za | (have e_ := (Kd.N_reads' qA.out).1; omega))
              obtain ⟨ua527_1, uc527_1, rfl, ul527_1, ge527_1⟩ := k68_openF hMe527
              have hv527_1 := hcc527 1 _ rfl
              rw [add_field _ _ 1 (by omega)] at hv527_1
              replace hv527_1 := Option.some.inj (hv527_1.symm.trans hx527_1)
              injection hv527_1 with hva_ hvn_ hvc_
              rw [hva_] at ge527_1
              rw [hvc_] at ul527_1
              have qK := aM (show Kd.V (Kd.int .u32) 76 _ w.heap.size _ _ ((rd_T68 qF qE).f1) from Kd.V_mk ul527_1 ge527_1)
              clear hva_ hvn_ hvc_ ge527_1 ul527_1
              clear hcc527 hce527
              have qG := aM hi527_1
              have qP := aM hl527_1
              clear hi527_1 hl527_1
              replace p527 := eq_true p527
              replace q527 := eq_true q527
              go_wp2_with (first | ((with_reducible refine gate_callee (f := 39) rfl ?_); refine z13_ (some 84) rfl rfl Tryd.func39 zk rfl #[.agg #[.bool ((rd_T68 qF qE).f0), .slice qQ ((rd_T68 qF qE).f1).length qR]] rfl zA ?_; (with_reducible refine (swageref02_Sign.calls ((rd_T68 qF qE).f0) _ _ ((rd_T68 qF qE).f1) qJ _ ?side1 ?side2 A29.out).mono ?_); (case side1 => repeat (first | exact (by repeat (first | (with_reducible exact qG.out) | (with_reducible refine Kd.C_alloc ?_ _) | (with_reducible refine Kd.C_drewN ?_ _) | (with_reducible refine Kd.C_drew ?_) | exact qG.out)) | (with_reducible refine Kd.C_alloc ?_ _) | (with_reducible refine Kd.C_drewN ?_ _) | (with_reducible refine Kd.C_drew ?_))); (case side2 => exact qP.out); rintro e w34 ⟨rfl, hb⟩; refine ⟨_, rfl, ?_⟩; replace qA := aM (Kd.N_below (lN qA) hb); replace qK := aM (Kd.V_below (lV qK) hb); replace qG := aM (Kd.z8_ (by repeat (first | (with_reducible exact qG.out) | (with_reducible refine Kd.C_alloc ?_ _) | (with_reducible refine Kd.C_drewN ?_ _) | (with_reducible refine Kd.C_drew ?_) | exact qG.out)) hb); replace HB := aM (z6_ (lB HB) hb); (try clear hb)))
              go_ret2
              exact ⟨_, by first | rfl | (simp [errW_none, errW_some] <;> rfl) | (simp only [← hji7]; first | rfl | (simp [errW_none, errW_some] <;> rfl)) | (simp [*, errW_none, errW_some] <;> rfl), by first | exact Kd.S_nil _ _ _ _ _ | exact Kd.N_nil _ _ _ _ _ | exact Kd.V_nil _ _ _ _ _ | exact Kd.Q_nil _ _ _ _ _ | exact Kd.R_nil _ _ _ _ _, zB HB⟩
            ·rw [if_neg c28] at H
             exact absurd H (by simp)
           ·rw [if_neg c27] at H
            have c27b0 := decide_eq_false c27
            clear c27
            by_cases c35 : 0 ≤ a2
            ·rw [if_pos c35] at H
             have c35b0 := eq_true c35
             have c35b1 := decide_eq_true c35
             clear c35
             by_cases c36 : a2 ≤ (qF.length : Int)
             ·rw [if_pos c36] at H
              have c36b0 := eq_true c36
              have c36b1 := decide_eq_true c36
              clear c36
              obtain ⟨y529, hy529⟩ : ∃ y_ : List (S68), y_ = (qF.take (a2 : Int).toNat) := ⟨_, rfl⟩
              replace H : (some (y529, true)) = some (r1, r2) := zH hy529 H
              have Ny529 := aM hy529
              clear hy529
              simp only [Option.some.injEq, Prod.mk.injEq] at H
              obtain ⟨rfl, rfl⟩ := H
              obtain ⟨qm, qn, eo37⟩ := Kd.N_slice qA.out
              subst eo37
              have q38 : (a2 : Int) ≤ ((qF.length : Int) : Int) := of_decide_eq_true za
              obtain ⟨i038, hi038, _, hsz38, _⟩ := info_parts info68
              have hcut38 := cut_to (P := Tryd.prog) 33 68 .i64 Tryd.underlying33 hi038 qm qF.length qn a2 (of_decide_eq_true za) q38 (Kd.N_reads' qA.out).2.1
              have hr38 := Kd.N_take (m := (a2 : Int).toNat) qA.out (by omega)
              have hy38 : y529.length = (a2 : Int).toNat := (by rw [Ny529.out, List.length_take]; omega)
              rw [← Ny529.out] at hr38
              rw [← hy38] at hr38 hcut38
              clear hy38 hi038 hsz38 qA
              have qj := aM hr38
              clear hr38
              replace q38 := eq_true q38
              go_wp2
              go_ret2
              exact ⟨_, by first | rfl | (simp [errW_none, errW_some] <;> rfl) | (simp only [← hji7]; first | rfl | (simp [errW_none, errW_some] <;> rfl)) | (simp [*, errW_none, errW_some] <;> rfl), by (with_reducible repeat (first | apply Kd.N_alloc | apply Kd.N_drewN | apply Kd.N_drew)); exact qj.out, zB HB⟩
             ·rw [if_neg c36] at H
              exact absurd H (by simp)
            ·rw [if_neg c35] at H
             exact absurd H (by simp)
     ·rw [if_neg c9] at H
      exact absurd H (by simp)
    ·rw [if_neg c8] at H
     exact absurd H (by simp)
end Go.Proofs.YtakmkhokbcjapaaDoor.XA
end
