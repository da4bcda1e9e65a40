/- Part 4 of the proof of the law SplitLaid for every input: words, walks and plain laws. No condition. -/
import Derived.Shelf.Strings.Builder1
import Derived.Shelf.Strings.Trim
import Derived.Test.YtakmkhokbcjapaaDoorProg
import Derived.Laws.RangeAny
import Derived.Laws.RangeString
import Derived.Lib.OthersKept
import Derived.LoopIn
import Derived.LoopNIn
import Derived.Maps.AppendAt
import Derived.OwnWalkIn
import Derived.RangeFuncBox
import Derived.RangeFuncLeaves
import Derived.Shelf.Abstract
import Derived.TacticsInMore
import Derived.Test.YtakmkhokbcjapaaDoorKSplitLaid3
section
namespace Go.Proofs.YtakmkhokbcjapaaDoor.XA
open Go.Proofs.YtakmkhokbcjapaaDoor.Lift Go.RowKit Go.Proofs.YtakmkhokbcjapaaDoorW.PrintWords Go.Proofs.YtakmkhokbcjapaaDoorW.PrintLast Go.Proofs.YtakmkhokbcjapaaDoorW.PrintMore
attribute [local go_sem] max2_int min2_int max_two min_two max_three min_three max_four min_four   -- for this text's walks alone
set_option linter.unusedVariables false
set_option linter.unusedSimpArgs false

/-! ### split_Join: function 18 -/
mutual
def split_Join.j0 : Nat → List (List (S39)) → Int → Int → Bool → Option ((List (S39)) × Int)
 | 0, _, _, _, _ => none
 | k + 1, x0, x1, x2, x29 => if x29 = true then (some (([] : List (S39)), 2)) else (if (x0.length : Int) > 15 then (some (([] : List (S39)), 3)) else (split_Join.l0 k x0 x1 x2 x2 x0 (x0.length : Int) 0))
def split_Join.l0 : Nat → List (List (S39)) → Int → Int → Int → List (List (S39)) → Int → Int → Option ((List (S39)) × Int)
 | 0, _, _, _, _, _, _, _ => none
 | k + 1, x0, x1, x2, x8, x34, x35, x36 => if x36 < x35 then (if 0 ≤ x36 then (if x36 < (x34.length : Int) then (if ((rd_L5 x34 x36).length : Int) > 8192 then (some (([] : List (S39)), 3)) else (split_Join.l0 k x0 x1 x2 (mx x8 (wrap64 ((wrap64 (x36 * x1)) + ((rd_L5 x34 x36).length : Int)))) x34 x35 (wrap64 (x36 + 1)))) else (none)) else (none)) else (if 0 ≤ x8 then (if (x8 : Int).toNat ≤ 8796093022208 then (split_Join.l1 k x1 x2 (List.replicate (x8 : Int).toNat z39) x0 (x0.length : Int) 0) else (none)) else (none))
def split_Join.l1 : Nat → Int → Int → List (S39) → List (List (S39)) → Int → Int → Option ((List (S39)) × Int)
 | 0, _, _, _, _, _, _ => none
 | k + 1, x1, x2, x11, x55, x56, x57 => if x57 < x56 then (if 0 ≤ x57 then (if x57 < (x55.length : Int) then (split_Join.l2 k x1 x2 x11 x57 x55 x56 x57 (rd_L5 x55 x57) ((rd_L5 x55 x57).length : Int) 0) else (none)) else (none)) else ((poly_Degree.f k x11).bind fun t369 => (if t369 ≥ x2 then (some (([] : List (S39)), 5)) else (if x2 = 0 then (some (([] : List (S39)), 0)) else (if 0 ≤ x2 then (if x2 ≤ (x11.length : Int) then (some ((x11.take (x2 : Int).toNat), 0)) else (none)) else (none)))))
def split_Join.l2 : Nat → Int → Int → List (S39) → Int → List (List (S39)) → Int → Int → List (S39) → Int → Int → Option ((List (S39)) × Int)
 | 0, _, _, _, _, _, _, _, _, _, _ => none
 | k + 1, x1, x2, x11, x12, x55, x56, x57, x62, x63, x64 => if x64 < x63 then (if 0 ≤ x64 then (if x64 < (x62.length : Int) then (if 0 ≤ (wrap64 ((wrap64 (x12 * x1)) + x64)) then (if (wrap64 ((wrap64 (x12 * x1)) + x64)) < (x11.length : Int) then ((integer_Int_Add.f k ((rd_T39 x11 (wrap64 ((wrap64 (x12 * x1)) + x64))).f0) ((rd_T39 x11 (wrap64 ((wrap64 (x12 * x1)) + x64))).f1) ((rd_T39 x62 x64).f0) ((rd_T39 x62 x64).f1)).bind fun bt364 => (split_Join.l2 k x1 x2 (x11.set ((wrap64 ((wrap64 (x12 * x1)) + x64)) : Int).toNat (⟨bt364.1, bt364.2⟩ : S39)) x12 x55 x56 x57 x62 x63 (wrap64 (x64 + 1)))) else (none)) else (none)) else (none)) else (none)) else (split_Join.l1 k x1 x2 x11 x55 x56 (wrap64 (x57 + 1)))
end
def split_Join.f (k : Nat) (l0 : List (List (S39))) (a1 : Int) (a2 : Int) : Option ((List (S39)) × Int) := if a1 < 1 then (split_Join.j0 k l0 a1 a2 true) else (if a1 > 4096 then (split_Join.j0 k l0 a1 a2 true) else (if a2 < 0 then (split_Join.j0 k l0 a1 a2 true) else (split_Join.j0 k l0 a1 a2 (decide (a2 > 8192)))))
theorem split_Join.mono_l : ∀ k, (∀ y0 y1 y2 y3, LeO (split_Join.j0 k y0 y1 y2 y3) (split_Join.j0 (k + 1) y0 y1 y2 y3)) ∧ (∀ y0 y1 y2 y3 y4 y5 y6, LeO (split_Join.l0 k y0 y1 y2 y3 y4 y5 y6) (split_Join.l0 (k + 1) y0 y1 y2 y3 y4 y5 y6)) ∧ (∀ y0 y1 y2 y3 y4 y5, LeO (split_Join.l1 k y0 y1 y2 y3 y4 y5) (split_Join.l1 (k + 1) y0 y1 y2 y3 y4 y5)) ∧ (∀ y0 y1 y2 y3 y4 y5 y6 y7 y8 y9, LeO (split_Join.l2 k y0 y1 y2 y3 y4 y5 y6 y7 y8 y9) (split_Join.l2 (k + 1) y0 y1 y2 y3 y4 y5 y6 y7 y8 y9))
 | 0 => ⟨fun _ _ _ _ r h => by simp [split_Join.j0] at h, fun _ _ _ _ _ _ _ r h => by simp [split_Join.l0] at h, fun _ _ _ _ _ _ r h => by simp [split_Join.l1] at h, fun _ _ _ _ _ _ _ _ _ _ r h => by simp [split_Join.l2] at h⟩
 | k + 1 => by
  obtain ⟨ih0, ih1, ih2, ih3⟩ := split_Join.mono_l k
  refine ⟨?_, ?_, ?_, ?_⟩
  ·intro y0 y1 y2 y3
   unfold split_Join.j0
   repeat' first
   | (with_reducible exact ih0 _ _ _ _)
   | (with_reducible exact ih1 _ _ _ _ _ _ _)
   | (with_reducible exact ih2 _ _ _ _ _ _)
   | (with_reducible exact ih3 _ _ _ _ _ _ _ _ _ _)
   | (with_reducible exact integer_Int_Add.mono _ _ _ _ _)
   | (with_reducible exact poly_Degree.mono _ _)
   | (with_reducible exact LeO.refl _)
   | (with_reducible exact LeO.none _)
   | (with_reducible refine LeO.ite ?_ ?_)
   | (with_reducible refine LeO.bind ?_ (fun _ => ?_))
   | exact ih0 _ _ _ _
   | exact ih1 _ _ _ _ _ _ _
   | exact ih2 _ _ _ _ _ _
   | exact ih3 _ _ _ _ _ _ _ _ _ _
   | exact integer_Int_Add.mono _ _ _ _ _
   | exact poly_Degree.mono _ _
   | exact LeO.none _
   | refine LeO.ite ?_ ?_
   | refine LeO.bind ?_ (fun _ => ?_)
  ·intro y0 y1 y2 y3 y4 y5 y6
   unfold split_Join.l0
   repeat' first
   | (with_reducible exact ih0 _ _ _ _)
   | (with_reducible exact ih1 _ _ _ _ _ _ _)
   | (with_reducible exact ih2 _ _ _ _ _ _)
   | (with_reducible exact ih3 _ _ _ _ _ _ _ _ _ _)
   | (with_reducible exact integer_Int_Add.mono _ _ _ _ _)
   | (with_reducible exact poly_Degree.mono _ _)
   | (with_reducible exact LeO.refl _)
   | (with_reducible exact LeO.none _)
   | (with_reducible refine LeO.ite ?_ ?_)
   | (with_reducible refine LeO.bind ?_ (fun _ => ?_))
   | exact ih0 _ _ _ _
   | exact ih1 _ _ _ _ _ _ _
   | exact ih2 _ _ _ _ _ _
   | exact ih3 _ _ _ _ _ _ _ _ _ _
   | exact integer_Int_Add.mono _ _ _ _ _
   | exact poly_Degree.mono _ _
   | exact LeO.none _
   | refine LeO.ite ?_ ?_
   | refine LeO.bind ?_ (fun _ => ?_)
  ·intro y0 y1 y2 y3 y4 y5
   unfold split_Join.l1
   repeat' first
   | (with_reducible exact ih0 _ _ _ _)
   | (with_reducible exact ih1 _ _ _ _ _ _ _)
   | (with_reducible exact ih2 _ _ _ _ _ _)
   | (with_reducible exact ih3 _ _ _ _ _ _ _ _ _ _)
   | (with_reducible exact integer_Int_Add.mono _ _ _ _ _)
   | (with_reducible exact poly_Degree.mono _ _)
   | (with_reducible exact LeO.refl _)
   | (with_reducible exact LeO.none _)
   | (with_reducible refine LeO.ite ?_ ?_)
   | (with_reducible refine LeO.bind ?_ (fun _ => ?_))
   | exact ih0 _ _ _ _
   | exact ih1 _ _ _ _ _ _ _
   | exact ih2 _ _ _ _ _ _
   | exact ih3 _ _ _ _ _ _ _ _ _ _
   | exact integer_Int_Add.mono _ _ _ _ _
   | exact poly_Degree.mono _ _
   | exact LeO.none _
   | refine LeO.ite ?_ ?_
   | refine LeO.bind ?_ (fun _ => ?_)
  ·intro y0 y1 y2 y3 y4 y5 y6 y7 y8 y9
   unfold split_Join.l2
   repeat' first
   | (with_reducible exact ih0 _ _ _ _)
   | (with_reducible exact ih1 _ _ _ _ _ _ _)
   | (with_reducible exact ih2 _ _ _ _ _ _)
   | (with_reducible exact ih3 _ _ _ _ _ _ _ _ _ _)
   | (with_reducible exact integer_Int_Add.mono _ _ _ _ _)
   | (with_reducible exact poly_Degree.mono _ _)
   | (with_reducible exact LeO.refl _)
   | (with_reducible exact LeO.none _)
   | (with_reducible refine LeO.ite ?_ ?_)
   | (with_reducible refine LeO.bind ?_ (fun _ => ?_))
   | exact ih0 _ _ _ _
   | exact ih1 _ _ _ _ _ _ _
   | exact ih2 _ _ _ _ _ _
   | exact ih3 _ _ _ _ _ _ _ _ _ _
   | exact integer_Int_Add.mono _ _ _ _ _
   | exact poly_Degree.mono _ _
   | exact LeO.none _
   | refine LeO.ite ?_ ?_
   | refine LeO.bind ?_ (fun _ => ?_)
theorem split_Join.mono : ∀ a0 a1 a2 k, LeO (split_Join.f k a0 a1 a2) (split_Join.f (k + 1) a0 a1 a2) := by
 intro a0 a1 a2 k
 obtain ⟨ih0, ih1, ih2, ih3⟩ := split_Join.mono_l k
 unfold split_Join.f
 repeat' first
   | (with_reducible exact ih0 _ _ _ _)
   | (with_reducible exact ih1 _ _ _ _ _ _ _)
   | (with_reducible exact ih2 _ _ _ _ _ _)
   | (with_reducible exact ih3 _ _ _ _ _ _ _ _ _ _)
   | (with_reducible exact integer_Int_Add.mono _ _ _ _ _)
   | (with_reducible exact poly_Degree.mono _ _)
   | (with_reducible exact LeO.refl _)
   | (with_reducible exact LeO.none _)
   | (with_reducible refine LeO.ite ?_ ?_)
   | (with_reducible refine LeO.bind ?_ (fun _ => ?_))
   | exact ih0 _ _ _ _
   | exact ih1 _ _ _ _ _ _ _
   | exact ih2 _ _ _ _ _ _
   | exact ih3 _ _ _ _ _ _ _ _ _ _
   | exact integer_Int_Add.mono _ _ _ _ _
   | exact poly_Degree.mono _ _
   | exact LeO.none _
   | refine LeO.ite ?_ ?_
   | refine LeO.bind ?_ (fun _ => ?_)
def split_Join.T20 : Bool × List (List Nat × List Nat) := (true, [([], []), ([], []), ([], []), ([1, 2], [1, 2]), ([], []), ([3, 4], [3, 4]), ([], []), ([], []), ([], []), ([7, 8], [7, 8]), ([], []), ([9, 10], [9, 10]), ([6, 11], [6, 11]), ([12], [12]), ([], []), ([13, 14], [13, 14]), ([0, 5, 0, 1, 2, 3, 4, 5, 6, 7, 8, 9, 10, 11, 12, 13, 14, 15], [0, 5]), ([16, 15, 15, 0, 1, 2, 3, 4, 5, 6, 7, 8, 9, 10, 11, 12, 13, 14, 15], [15, 16])])
def split_Join.B20 : List Nat := [0, 0, 0, 6, 0, 30, 0, 0, 0, 384, 0, 1920, 4032, 8128, 0, 32704, 65535, 131071]
theorem split_Join.tab20 : rtab .any (opsOf Tryd.f18 20) = split_Join.T20 := by kernel_rfl
theorem split_Join.bits20 : waitsOk split_Join.T20.2 split_Join.B20 = true := by kernel_rfl
set_option maxHeartbeats 8000000 in
set_option maxRecDepth 100000 in
theorem split_Join.calls (k : Nat) (A0 : Option Addr) (c0 : Nat) (l0 : List (List (S39))) (a1 : Int) (a2 : Int) (r1 : List (S39)) (r2 : Int) (w : World) (hr0 : Kd.C (Kd.slice 39 k39) w A0 l0.length l0) (hc0 : l0.length ≤ c0) (h : split_Join.f k l0 a1 a2 = some (r1, r2)) :
  Calls Tryd.prog 18 #[.slice A0 l0.length c0, .int .i64 a1, .int .i64 a2] w fun e w' => ∃ v0_ : Value, e = .returned (.tuple #[v0_, .int .i64 r2]) ∧ Kd.V k39 39 w' w.heap.size (fun k_ => (w.heap.size ≤ k_)) v0_ r1 ∧ Below w.heap.size w w' := by
 have hu39 := Tryd.underlying39
 have HR0 := Aside0.mk hr0
 have HC0 := Aside0.mk hc0
 clear hr0 hc0
 have HB := Aside0.mk (Below.refl w.heap.size w)
 have H : (if a1 < 1 then (split_Join.j0 k l0 a1 a2 true) else (if a1 > 4096 then (split_Join.j0 k l0 a1 a2 true) else (if a2 < 0 then (split_Join.j0 k l0 a1 a2 true) else (split_Join.j0 k l0 a1 a2 (decide (a2 > 8192)))))) = some (r1, r2) := h
 clear h
 have HC4 := Aside0.mk H
 clear H
 go_enter Tryd.func18, Tryd.ntmps18
 go_upto_region 1 with (fail)
 go_cut [29] (fun v29 wc => ∃ (kq : Nat) (x29_3 : Bool), v29 = .bool x29_3 ∧ Aside0 (split_Join.j0 kq l0 a1 a2 x29_3 = some (r1, r2)) ∧ Aside0 (kq ≤ k) ∧ Aside0 (Below w.heap.size w wc))
 case first =>
  have H := HC4.out
  clear HC4
  by_cases c5 : a1 < 1
  ·rw [if_pos c5] at H
   have c5b0 : decide (a1 < 1) = true := decide_eq_true c5
   clear c5
   (first | rw [c5b0] | (simp only [i64_w, i32_w]; rw [c5b0]) | skip)
   have H' := Aside0.mk H
   clear H
   go_wp2
   go_meet
   case rel => exact ⟨_, (true), (by first | rfl | (simp; done) | (simp [*]; done)), H', ⟨by first | omega | exact Nat.le_refl _⟩, ⟨by repeat (first | (with_reducible first | exact HB.out | apply below_alloc | apply pw_below_drewN | apply below_drew1) | exact HB.out)⟩⟩
  ·rw [if_neg c5] at H
   have c5b0 : decide (a1 < 1) = false := decide_eq_false c5
   clear c5
   (first | rw [c5b0] | (simp only [i64_w, i32_w]; rw [c5b0]) | skip)
   by_cases c6 : a1 > 4096
   ·rw [if_pos c6] at H
    have c6b0 : decide (4096 < a1) = true := decide_eq_true c6
    clear c6
    have H' := Aside0.mk H
    clear H
    go_wp2
    go_meet
    case rel => exact ⟨_, (true), (by first | rfl | (simp; done) | (simp [*]; done)), H', ⟨by first | omega | exact Nat.le_refl _⟩, ⟨by repeat (first | (with_reducible first | exact HB.out | apply below_alloc | apply pw_below_drewN | apply below_drew1) | exact HB.out)⟩⟩
   ·rw [if_neg c6] at H
    have c6b0 : decide (4096 < a1) = false := decide_eq_false c6
    clear c6
    by_cases c7 : a2 < 0
    ·rw [if_pos c7] at H
     have c7b0 : decide (a2 < 0) = true := decide_eq_true c7
     clear c7
     have H' := Aside0.mk H
     clear H
     go_wp2
     go_meet
     case rel => exact ⟨_, (true), (by first | rfl | (simp; done) | (simp [*]; done)), H', ⟨by first | omega | exact Nat.le_refl _⟩, ⟨by repeat (first | (with_reducible first | exact HB.out | apply below_alloc | apply pw_below_drewN | apply below_drew1) | exact HB.out)⟩⟩
    ·rw [if_neg c7] at H
     have c7b0 : decide (a2 < 0) = false := decide_eq_false c7
     clear c7
     have H' := Aside0.mk H
     clear H
     go_wp2
     go_meet
     case rel => exact ⟨_, (decide (a2 > 8192)), (by first | rfl | (simp; done) | (simp [*]; done) | (simp; omega)), H', ⟨by first | omega | exact Nat.le_refl _⟩, ⟨by repeat (first | (with_reducible first | exact HB.out | apply below_alloc | apply pw_below_drewN | apply below_drew1) | exact HB.out)⟩⟩
 case rest =>
  clear HC4
  obtain ⟨kq, x29_3, rfl, HA, HJ3, HB⟩ := hcut
  cases kq with
  | zero => exact absurd HA.out (by simp [split_Join.j0])
  | succ kj3 =>
   have H := HA.out
   clear HA
   simp only [split_Join.j0] at H
   by_cases c8 : x29_3 = true
   ·subst c8
    have H1 : (some (([] : List (S39)), 2)) = some (r1, r2) := by rw [if_pos rfl] at H; exact H
    clear H
    have H := H1
    clear H1
    simp only [Option.some.injEq, Prod.mk.injEq] at H
    obtain ⟨rfl, rfl⟩ := H
    go_wp2
    go_ret2
    exact ⟨_, by first | rfl | (simp [errW_none, errW_some] <;> rfl) | (simp [*, errW_none, errW_some] <;> rfl), Kd.V_nil _ _ _ _ _, by repeat (first | (with_reducible first | exact HB.out | apply below_alloc | apply pw_below_drewN | apply below_drew1) | exact HB.out)⟩
   ·replace c8 := Bool.eq_false_iff.mpr c8
    subst c8
    have H1 : (if (l0.length : Int) > 15 then (some (([] : List (S39)), 3)) else (split_Join.l0 kj3 l0 a1 a2 a2 l0 (l0.length : Int) 0)) = some (r1, r2) := by rw [if_neg (show ¬ (false = true) by decide)] at H; exact H
    clear H
    have H := H1
    clear H1
    by_cases c9 : (l0.length : Int) > 15
    ·rw [if_pos c9] at H
     have c9b0 : decide (15 < (l0.length : Int)) = true := decide_eq_true c9
     have c9b1 : decide (15 < l0.length) = true := decide_eq_true (by omega)
     clear c9
     simp only [Option.some.injEq, Prod.mk.injEq] at H
     obtain ⟨rfl, rfl⟩ := H
     go_wp2
     go_ret2
     exact ⟨_, by first | rfl | (simp [errW_none, errW_some] <;> rfl) | (simp [*, errW_none, errW_some] <;> rfl), Kd.V_nil _ _ _ _ _, by repeat (first | (with_reducible first | exact HB.out | apply below_alloc | apply pw_below_drewN | apply below_drew1) | exact HB.out)⟩
    ·rw [if_neg c9] at H
     have c9b0 : decide (15 < (l0.length : Int)) = false := decide_eq_false c9
     have c9b1 : decide (15 < l0.length) = false := decide_eq_false (by omega)
     clear c9
     have H' := Aside0.mk H
     clear H
     go_wp2
     go_loopg [8, 36] kj3 (fun kq v8 v36 w' => ∃ (x8_2 : Int) (x36_2 : Int), v8 = .int .i64 x8_2 ∧ v36 = .int .i64 x36_2 ∧ Aside0 (split_Join.l0 kq l0 a1 a2 x8_2 l0 (l0.length : Int) x36_2 = some (r1, r2)) ∧ Aside0 (kq ≤ kj3) ∧ Aside0 (Below w.heap.size w w'))
     case atStart => exact ⟨(a2), (0), (by first | rfl | (simp; done) | (simp [*]; done)), (by first | rfl | (simp; done) | (simp [*]; done)), H', ⟨Nat.le_refl _⟩, ⟨by repeat (first | (with_reducible first | exact HB.out | apply below_alloc | apply pw_below_drewN | apply below_drew1) | exact HB.out)⟩⟩
     case round =>
      clear H'
      try clear c8
      try clear c9
      obtain ⟨x8_2, x36_2, rfl, rfl, HA, HK2, HB⟩ := hrel
      cases gk with
      | zero => exact absurd HA.out (by simp [split_Join.l0])
      | succ k2 =>
       have H := HA.out
       clear HA
       simp only [split_Join.l0] at H
       by_cases c10 : x36_2 < (l0.length : Int)
       ·rw [if_pos c10] at H
        have c10b0 : decide (x36_2 < (l0.length : Int)) = true := decide_eq_true c10
        clear c10
        by_cases c11 : 0 ≤ x36_2
        ·rw [if_pos c11] at H
         have c11b0 : decide (0 ≤ x36_2) = true := decide_eq_true c11
         clear c11
         by_cases c12 : x36_2 < (l0.length : Int)
         ·rw [if_pos c12] at H
          have c12b0 : decide (x36_2 < (l0.length : Int)) = true := decide_eq_true c12
          clear c12
          by_cases c13 : ((rd_L5 l0 x36_2).length : Int) > 8192
          ·rw [if_pos c13] at H
           have c13b0 : decide (8192 < ((rd_L5 l0 x36_2).length : Int)) = true := decide_eq_true c13
           have c13b1 : decide (8192 < (rd_L5 l0 x36_2).length) = true := decide_eq_true (by omega)
           clear c13
           simp only [Option.some.injEq, Prod.mk.injEq] at H
           obtain ⟨rfl, rfl⟩ := H
           have p356 : 0 ≤ (x36_2 : Int) := of_decide_eq_true (by first | (with_reducible assumption) | assumption)
           have q356 : x36_2 < (l0.length : Int) := of_decide_eq_true (by first | (with_reducible assumption) | assumption)
           obtain ⟨ad356, A356_0, c356_0, e356, hx356_0, hl356_0, hi356_0⟩ := at_L5 HR0.out x36_2 p356 q356
           cases e356
           replace hx356_0 := (HB.out.cell (World.block_lt_of_cell? w _ hx356_0)).trans hx356_0
           have HR356_0 := Aside0.mk hi356_0
           have HC356_0 := Aside0.mk hl356_0
           clear hi356_0 hl356_0
           replace p356 := eq_true p356
           replace q356 := eq_true q356
           go_wp2
           go_ret2
           exact ⟨_, by first | rfl | (simp [errW_none, errW_some] <;> rfl) | (simp [*, errW_none, errW_some] <;> rfl), Kd.V_nil _ _ _ _ _, by repeat (first | (with_reducible first | exact HB.out | apply below_alloc | apply pw_below_drewN | apply below_drew1) | exact HB.out)⟩
          ·rw [if_neg c13] at H
           have c13b0 : decide (8192 < ((rd_L5 l0 x36_2).length : Int)) = false := decide_eq_false c13
           have c13b1 : decide (8192 < (rd_L5 l0 x36_2).length) = false := decide_eq_false (by omega)
           clear c13
           obtain ⟨ji14, hji14⟩ : ∃ j_ : Int, (mx x8_2 (wrap64 ((wrap64 (x36_2 * a1)) + ((rd_L5 l0 x36_2).length : Int)))) = j_ := ⟨_, rfl⟩
           replace H : (split_Join.l0 k2 l0 a1 a2 ji14 l0 (l0.length : Int) (wrap64 (x36_2 + 1))) = some (r1, r2) := by first | (rw [hji14] at H; exact H) | (simp only [hji14] at H ⊢; exact H)
           have hji14_ : (if x8_2 < (wrap64 ((wrap64 (x36_2 * a1)) + ((rd_L5 l0 x36_2).length : Int))) then (wrap64 ((wrap64 (x36_2 * a1)) + ((rd_L5 l0 x36_2).length : Int))) else x8_2) = ji14 := hji14
           have H' := Aside0.mk H
           clear H
           have p356 : 0 ≤ (x36_2 : Int) := of_decide_eq_true (by first | (with_reducible assumption) | assumption)
           have q356 : x36_2 < (l0.length : Int) := of_decide_eq_true (by first | (with_reducible assumption) | assumption)
           obtain ⟨ad356, A356_0, c356_0, e356, hx356_0, hl356_0, hi356_0⟩ := at_L5 HR0.out x36_2 p356 q356
           cases e356
           replace hx356_0 := (HB.out.cell (World.block_lt_of_cell? w _ hx356_0)).trans hx356_0
           have HR356_0 := Aside0.mk hi356_0
           have HC356_0 := Aside0.mk hl356_0
           clear hi356_0 hl356_0
           replace p356 := eq_true p356
           replace q356 := eq_true q356
           go_wp2
           go_roundg k2
           case measure => have := HJ3.out; have := HK2.out; omega
           case rel => exact ⟨(ji14), (wrap64 (x36_2 + 1)), (by first | rfl | (simp; done) | (simp only [← hji14] <;> (first | rfl | simp)) | (simp [*]; done)), (by first | rfl | (simp; done) | (simp [*]; done)), H', ⟨by have := HJ3.out; have := HK2.out; omega⟩, ⟨by repeat (first | (with_reducible first | exact HB.out | apply below_alloc | apply pw_below_drewN | apply below_drew1) | exact HB.out)⟩⟩
         ·rw [if_neg c12] at H
          exact absurd H (by simp)
        ·rw [if_neg c11] at H
         exact absurd H (by simp)
       ·rw [if_neg c10] at H
        have c10b0 : decide (x36_2 < (l0.length : Int)) = false := decide_eq_false c10
        clear c10
        by_cases c15 : 0 ≤ x8_2
        ·rw [if_pos c15] at H
         have c15b0 := eq_true c15
         have c15b1 : decide (0 ≤ x8_2) = true := decide_eq_true c15
         clear c15
         by_cases c16 : (x8_2 : Int).toNat ≤ 8796093022208
         ·rw [if_pos c16] at H
          have c16b0 := eq_true c16
          have c16b1 : decide ((x8_2 : Int).toNat ≤ 8796093022208) = true := decide_eq_true c16
          clear c16
          obtain ⟨y357, hy357⟩ : ∃ y_ : List (S39), y_ = (List.replicate (x8_2 : Int).toNat z39) := ⟨_, rfl⟩
          replace H : (split_Join.l1 k2 a1 a2 y357 l0 (l0.length : Int) 0) = some (r1, r2) := by first | (rw [hy357]; with_reducible exact H) | (have H2_ := (Option.bind_some _ _).symm.trans H; rw [hy357]; with_reducible exact H2_) | (have H2_ := (Option.bind_some _ _).symm.trans H; with_reducible exact H2_) | with_reducible exact H | (rw [hy357]; exact H) | exact H
          have Ny357 := Aside0.mk hy357
          clear hy357
          have H' := Aside0.mk H
          clear H
          go_wp2_with (first | ((with_reducible refine gate_dst (N := 54) rfl ?_); refine Kd.N_make k39 _ 39 rfl (N' := 54) rfl 24 _ _ rfl x8_2 rfl rfl Tryd.underlying24 (.agg #[(.bool false), (.slice none 0 0)]) 32 info39 rfl (by decide) (by omega) z39 (ok := fun k_ => wr.heap.size ≤ k_) (okp := fun _ => False) (k39_mkF _ _ z39 (Nat.le_refl _) (Kd.F_nil _ _ _)) (fun _ hk => hk.elim) (Nat.le_refl _) (of_decide_eq_true (by first | (with_reducible assumption) | assumption)) (Nat.le_trans (Nat.mul_le_mul_right _ (of_decide_eq_true (by first | (with_reducible assumption) | assumption) : x8_2.toNat ≤ 8796093022208)) (by omega)) (Below.refl _ _) (Nat.le_refl _) ?_; intro v358 w17 ho18 hb hg_ hnew_; clear hg_ hnew_; (first | rw [← Ny357.out] at ho18 | (simp only [Int.reduceToNat] at ho18; rw [← Ny357.out] at ho18)); have n0_ := Aside0.mk (Kd.N_lower (Kd.N_mono (ok' := fun k_ => (w.heap.size ≤ k_)) ho18 (fun k_ hk_ => (Nat.le_trans (below_size (lB HB)) hk_))) (below_size (lB HB))); have n1_ := Aside0.mk (below_step (lB HB) hb); clear HB; have HO359 := n0_; have HB := n1_; clear n0_ n1_; clear hb ho18))
          go_loopg [57] k2 (fun kq v57 w' => ∃ (x11_3 : List (S39)) (x57_3 : Int), v57 = .int .i64 x57_3 ∧ Aside0 (split_Join.l1 kq a1 a2 x11_3 l0 (l0.length : Int) x57_3 = some (r1, r2)) ∧ Aside0 (kq ≤ k2) ∧ Aside0 (Kd.N k39 39 w' w.heap.size (fun k_ => (w.heap.size ≤ k_)) v358 x11_3) ∧ Aside0 (Below w.heap.size w w'))
          case atStart => exact ⟨(y357), (0), (by first | rfl | (simp; done) | (simp [*]; done)), H', ⟨Nat.le_refl _⟩, ⟨by (with_reducible repeat (first | apply Kd.N_alloc | apply Kd.N_drewN | apply Kd.N_drew)); exact HO359.out⟩, ⟨by repeat (first | (with_reducible first | exact HB.out | apply below_alloc | apply pw_below_drewN | apply below_drew1) | exact HB.out)⟩⟩
          case round =>
           clear H'
           try clear c8
           try clear c9
           try clear c10
           try clear c15
           try clear c16
           obtain ⟨x11_3, x57_3, rfl, HA, HK3, HO_11, HB⟩ := hrel
           cases gk with
           | zero => exact absurd HA.out (by simp [split_Join.l1])
           | succ k3 =>
            have H := HA.out
            clear HA
            simp only [split_Join.l1] at H
            by_cases c19 : x57_3 < (l0.length : Int)
            ·rw [if_pos c19] at H
             have c19b0 : decide (x57_3 < (l0.length : Int)) = true := decide_eq_true c19
             clear c19
             by_cases c20 : 0 ≤ x57_3
             ·rw [if_pos c20] at H
              have c20b0 : decide (0 ≤ x57_3) = true := decide_eq_true c20
              clear c20
              by_cases c21 : x57_3 < (l0.length : Int)
              ·rw [if_pos c21] at H
               have c21b0 : decide (x57_3 < (l0.length : Int)) = true := decide_eq_true c21
               clear c21
               have H' := Aside0.mk H
               clear H
               have p360 : 0 ≤ (x57_3 : Int) := of_decide_eq_true (by first | (with_reducible assumption) | assumption)
               have q360 : x57_3 < (l0.length : Int) := of_decide_eq_true (by first | (with_reducible assumption) | assumption)
               obtain ⟨ad360, A360_0, c360_0, e360, hx360_0, hl360_0, hi360_0⟩ := at_L5 HR0.out x57_3 p360 q360
               cases e360
               replace hx360_0 := (HB.out.cell (World.block_lt_of_cell? w _ hx360_0)).trans hx360_0
               have HR360_0 := Aside0.mk hi360_0
               have HC360_0 := Aside0.mk hl360_0
               clear hi360_0 hl360_0
               replace p360 := eq_true p360
               replace q360 := eq_true q360
               go_wp2
               go_loopg [64] k3 (fun kq v64 w' => ∃ (x11_4 : List (S39)) (x64_4 : Int), v64 = .int .i64 x64_4 ∧ Aside0 (split_Join.l2 kq a1 a2 x11_4 x57_3 l0 (l0.length : Int) x57_3 (rd_L5 l0 x57_3) ((rd_L5 l0 x57_3).length : Int) x64_4 = some (r1, r2)) ∧ Aside0 (kq ≤ k3) ∧ Aside0 (Kd.N k39 39 w' w.heap.size (fun k_ => (w.heap.size ≤ k_)) v358 x11_4) ∧ Aside0 (Below w.heap.size w w'))
               case atStart => exact ⟨(x11_3), (0), (by first | rfl | (simp; done) | (simp [*]; done)), H', ⟨Nat.le_refl _⟩, ⟨by (with_reducible repeat (first | apply Kd.N_alloc | apply Kd.N_drewN | apply Kd.N_drew)); exact HO_11.out⟩, ⟨by repeat (first | (with_reducible first | exact HB.out | apply below_alloc | apply pw_below_drewN | apply below_drew1) | exact HB.out)⟩⟩
               case round =>
                clear H'
                try clear c8
                try clear c9
                try clear c10
                try clear c15
                try clear c16
                try clear c19
                try clear c20
                try clear c21
                obtain ⟨x11_4, x64_4, rfl, HA, HK4, HO_11, HB⟩ := hrel
                cases gk with
                | zero => exact absurd HA.out (by simp [split_Join.l2])
                | succ k4 =>
                 have H := HA.out
                 clear HA
                 simp only [split_Join.l2] at H
                 by_cases c22 : x64_4 < ((rd_L5 l0 x57_3).length : Int)
                 ·rw [if_pos c22] at H
                  have c22b0 : decide (x64_4 < ((rd_L5 l0 x57_3).length : Int)) = true := decide_eq_true c22
                  clear c22
                  by_cases c23 : 0 ≤ x64_4
                  ·rw [if_pos c23] at H
                   have c23b0 : decide (0 ≤ x64_4) = true := decide_eq_true c23
                   clear c23
                   by_cases c24 : x64_4 < ((rd_L5 l0 x57_3).length : Int)
                   ·rw [if_pos c24] at H
                    have c24b0 : decide (x64_4 < ((rd_L5 l0 x57_3).length : Int)) = true := decide_eq_true c24
                    clear c24
                    obtain ⟨ji25, hji25⟩ : ∃ j_ : Int, (wrap64 ((wrap64 (x57_3 * a1)) + x64_4)) = j_ := ⟨_, rfl⟩
                    replace H : (if 0 ≤ (ji25) then (if (ji25) < (x11_4.length : Int) then ((integer_Int_Add.f k4 ((rd_T39 x11_4 (ji25)).f0) ((rd_T39 x11_4 (ji25)).f1) ((rd_T39 (rd_L5 l0 x57_3) x64_4).f0) ((rd_T39 (rd_L5 l0 x57_3) x64_4).f1)).bind fun bt364 => (split_Join.l2 k4 a1 a2 (x11_4.set ((ji25) : Int).toNat (⟨bt364.1, bt364.2⟩ : S39)) x57_3 l0 (l0.length : Int) x57_3 (rd_L5 l0 x57_3) ((rd_L5 l0 x57_3).length : Int) (wrap64 (x64_4 + 1)))) else (none)) else (none)) = some (r1, r2) := by first | (rw [hji25] at H; exact H) | (simp only [hji25] at H ⊢; exact H)
                    have hji25w : (IntKind.i64.wrap ((wrap64 (x57_3 * a1)) + x64_4)) = ji25 := (i64_w _).trans hji25
                    by_cases c26 : 0 ≤ (ji25)
                    ·rw [if_pos c26] at H
                     have c26b0 : decide (0 ≤ (ji25)) = true := decide_eq_true c26
                     clear c26
                     by_cases c27 : (ji25) < (x11_4.length : Int)
                     ·rw [if_pos c27] at H
                      have c27b0 : decide ((ji25) < (x11_4.length : Int)) = true := decide_eq_true c27
                      clear c27
                      replace H := Option.bind_eq_some_iff.mp H
                      obtain ⟨⟨t364, t365⟩, A280, H⟩ := H
                      replace H : (split_Join.l2 k4 a1 a2 (x11_4.set ((ji25) : Int).toNat (⟨t364, t365⟩ : S39)) x57_3 l0 (l0.length : Int) x57_3 (rd_L5 l0 x57_3) ((rd_L5 l0 x57_3).length : Int) (wrap64 (x64_4 + 1))) = some (r1, r2) := H
                      have A28 := Aside0.mk A280
                      clear A280
                      obtain ⟨y368, hy368⟩ : ∃ y_ : List (S39), y_ = (x11_4.set ((ji25) : Int).toNat (⟨t364, t365⟩ : S39)) := ⟨_, rfl⟩
                      replace H : (split_Join.l2 k4 a1 a2 y368 x57_3 l0 (l0.length : Int) x57_3 (rd_L5 l0 x57_3) ((rd_L5 l0 x57_3).length : Int) (wrap64 (x64_4 + 1))) = some (r1, r2) := by first | (rw [hy368]; with_reducible exact H) | (have H2_ := (Option.bind_some _ _).symm.trans H; rw [hy368]; with_reducible exact H2_) | (have H2_ := (Option.bind_some _ _).symm.trans H; with_reducible exact H2_) | with_reducible exact H | (rw [hy368]; exact H) | exact H
                      have Ny368 := Aside0.mk hy368
                      clear hy368
                      have H' := Aside0.mk H
                      clear H
                      have p361 : 0 ≤ (x64_4 : Int) := of_decide_eq_true (by first | (with_reducible assumption) | assumption)
                      have q361 : x64_4 < ((rd_L5 l0 x57_3).length : Int) := of_decide_eq_true (by first | (with_reducible assumption) | assumption)
                      obtain ⟨ad361, A361_1, c361_1, e361, hx361_0, hx361_1, hl361_1, hi361_1⟩ := at_T39 HR360_0.out x64_4 p361 q361
                      cases e361
                      replace hx361_0 := (HB.out.cell (World.block_lt_of_cell? w _ hx361_0)).trans hx361_0
                      replace hx361_1 := (HB.out.cell (World.block_lt_of_cell? w _ hx361_1)).trans hx361_1
                      have HR361_1 := Aside0.mk hi361_1
                      have HC361_1 := Aside0.mk hl361_1
                      clear hi361_1 hl361_1
                      replace p361 := eq_true p361
                      replace q361 := eq_true q361
                      try go_wp2_with (first | ((with_reducible refine gate_dst (N := 15) rfl ?_); refine box_event ?hg (N := 15) ?hd (cs := #[.bool false, .slice none 0 0]) (t := 39) ?hr ?_; (case hd => rfl); (case hg => rfl); (case hr => first | (go_simp; done) | (go_simp; rfl)); intro gb362 hg w30 hbox hb; have n0_ := Aside0.mk (Kd.N_below (Kd.N_elderB (lN HO_11) gb362 (Nat.le_of_eq hg.symm)) hb); have n1_ := Aside0.mk (below_step (lB HB) hb); have n2_ := Aside0.mk (hbox); have n3_ := Aside0.mk ((by rw [hg]; exact (below_size (lB HB)) : w.heap.size ≤ gb362)); have n4_ := Aside0.mk ((by rw [hg]; exact (below_size (lB HB)) : w.heap.size ≤ gb362)); clear HO_11 HB; have HO_11 := n0_; have HB := n1_; have BK362 := n2_; have GW362 := n3_; have GE362 := n4_; clear n0_ n1_ n2_ n3_ n4_; clear hb hbox hg; have hcz31_0 : w30.cell? ⟨gb362, 0, none⟩ = some (.bool false) := (blk_cell BK362.out 0).trans rfl; have hcz31_1 : w30.cell? ⟨gb362, 1, none⟩ = some (.slice none 0 0) := (blk_cell BK362.out 1).trans rfl; have hfz31_0 := blk_frozen BK362.out 0; have hfz31_1 := blk_frozen BK362.out 1))
                      have n0_ : Aside0 (Kd.N k39 39 ((w30.setCell ⟨gb362, 0, none⟩ (.bool ((rd_T39 (rd_L5 l0 x57_3) x64_4).f0))).setCell ⟨gb362, 1, none⟩ (.slice A361_1 ((rd_T39 (rd_L5 l0 x57_3) x64_4).f1).length c361_1)) w.heap.size (fun k_ => (w.heap.size ≤ k_) ∧ k_ ≠ gb362) v358 x11_4) := ⟨by (with_reducible repeat (first | apply Kd.N_alloc | apply Kd.N_drewN | apply Kd.N_drew)); exact Kd.N_mono (Kd.N_far (p := ⟨gb362, 1, none⟩) (Kd.N_far (p := ⟨gb362, 0, none⟩) (Kd.N_mono HO_11.out (fun k_ hk => (⟨hk, hk.2⟩ : _ ∧ k_ ≠ gb362))) (fun _ hk => hk.2) (.bool ((rd_T39 (rd_L5 l0 x57_3) x64_4).f0))) (fun _ hk => hk.2) (.slice A361_1 ((rd_T39 (rd_L5 l0 x57_3) x64_4).f1).length c361_1)) (fun _ hk => ⟨hk.1.1, hk.1.2⟩)⟩
                      have n1_ : Aside0 (((w30.setCell ⟨gb362, 0, none⟩ (.bool ((rd_T39 (rd_L5 l0 x57_3) x64_4).f0))).setCell ⟨gb362, 1, none⟩ (.slice A361_1 ((rd_T39 (rd_L5 l0 x57_3) x64_4).f1).length c361_1)).heap[gb362]? = some (.cells #[.bool ((rd_T39 (rd_L5 l0 x57_3) x64_4).f0), .slice A361_1 ((rd_T39 (rd_L5 l0 x57_3) x64_4).f1).length c361_1] 39 (0, 0))) := ⟨by (with_reducible repeat (first | refine blk_drewN ?_ _ | refine blk_drew ?_ | refine blk_alloc ?_ _)); refine blk_put (cs := #[.bool ((rd_T39 (rd_L5 l0 x57_3) x64_4).f0), .slice none 0 0]) ?_ 1 _ rfl; (with_reducible repeat (first | refine blk_drewN ?_ _ | refine blk_drew ?_ | refine blk_alloc ?_ _)); refine blk_put (cs := #[.bool false, .slice none 0 0]) ?_ 0 _ rfl; (with_reducible repeat (first | refine blk_drewN ?_ _ | refine blk_drew ?_ | refine blk_alloc ?_ _)); exact BK362.out⟩
                      have n2_ : Aside0 (Below w.heap.size w ((w30.setCell ⟨gb362, 0, none⟩ (.bool ((rd_T39 (rd_L5 l0 x57_3) x64_4).f0))).setCell ⟨gb362, 1, none⟩ (.slice A361_1 ((rd_T39 (rd_L5 l0 x57_3) x64_4).f1).length c361_1))) := ⟨by repeat (first | (with_reducible first | exact HB.out | apply below_alloc | apply pw_below_drewN | apply below_drew1 | refine below_set ?_ GE362.out) | exact HB.out)⟩
                      (try clear HO_11)
                      (try clear BK362)
                      (try clear HB)
                      generalize ((w30.setCell ⟨gb362, 0, none⟩ (.bool ((rd_T39 (rd_L5 l0 x57_3) x64_4).f0))).setCell ⟨gb362, 1, none⟩ (.slice A361_1 ((rd_T39 (rd_L5 l0 x57_3) x64_4).f1).length c361_1)) = w32 at n0_ n1_ n2_ ⊢
                      have HO_11 := n0_
                      have BK362 := n1_
                      have HB := n2_
                      clear n0_ n1_ n2_
                      have n0_ := Aside0.mk (Kd.N_drew HO_11.out)
                      have n1_ := Aside0.mk (blk_drew BK362.out)
                      have n2_ := Aside0.mk (below_drew1 HB.out)
                      clear HO_11
                      clear BK362
                      clear HB
                      have HO_11 := n0_
                      have BK362 := n1_
                      have HB := n2_
                      clear n0_ n1_ n2_
                      obtain ⟨Ao34, co34, eo34⟩ := Kd.N_slice HO_11.out
                      (first | subst eo34 | (injection eo34 with f1_ f2_ f3_; have f4_ := f1_.symm; have f5_ := f3_.symm; clear f1_ f2_ f3_; subst f4_; subst f5_))
                      have p363 : 0 ≤ ((ji25) : Int) := of_decide_eq_true (by first | (with_reducible assumption) | assumption)
                      have q363 : (ji25) < (x11_4.length : Int) := of_decide_eq_true (by first | (with_reducible assumption) | assumption)
                      obtain ⟨ad363, A363_1, c363_1, e363, hx363_0, hx363_1, hl363_1, hi363_1⟩ := at_T39 (Kd.N_reads' HO_11.out).2.2 (ji25) p363 q363
                      cases e363
                      obtain ⟨ce363, hce363, hMe363, hcc363⟩ := Kd.N_get HO_11.out z39 (ji25) p363 (by first | exact q363 | exact of_decide_eq_true (by first | (with_reducible assumption) | assumption) | (have e_ := (Kd.N_reads' HO_11.out).1; omega))
                      obtain ⟨ua363_1, uc363_1, rfl, ul363_1, ge363_1⟩ := k39_openF hMe363
                      have hv363_1 := hcc363 1 _ rfl
                      rw [add_field _ _ 1 (by omega)] at hv363_1
                      replace hv363_1 := Option.some.inj (hv363_1.symm.trans hx363_1)
                      injection hv363_1 with hva_ hvn_ hvc_
                      rw [hva_] at ge363_1
                      rw [hvc_] at ul363_1
                      have HL363_1 := Aside0.mk (show Kd.V (Kd.int .u32) 76 _ w.heap.size _ _ ((rd_T39 x11_4 (ji25)).f1) from Kd.V_mk ul363_1 ge363_1)
                      clear hva_ hvn_ hvc_ ge363_1 ul363_1
                      clear hcc363 hce363
                      have HR363_1 := Aside0.mk hi363_1
                      have HC363_1 := Aside0.mk hl363_1
                      clear hi363_1 hl363_1
                      replace p363 := eq_true p363
                      replace q363 := eq_true q363
                      refine start_ (n := 18) (S := fun w' => w'.cell? ⟨gb362, 0, none⟩ = some (.bool ((rd_T39 (rd_L5 l0 x57_3) x64_4).f0)) ∧ w'.cell? ⟨gb362, 1, none⟩ = some (.slice A361_1 ((rd_T39 (rd_L5 l0 x57_3) x64_4).f1).length c361_1) ∧ w'.cell? (ad363.add (((ji25)).toNat * 2)) = some (.bool ((rd_T39 x11_4 (ji25)).f0)) ∧ w'.cell? ⟨(ad363.add (((ji25)).toNat * 2)).block, (ad363.add (((ji25)).toNat * 2)).off + 1, none⟩ = some (.slice A363_1 ((rd_T39 x11_4 (ji25)).f1).length c363_1)) (ds := [17]) #[false, false, false, false, false, false, false, false, false, false, false, false, false, false, false, false, false, false] (by kernel_rfl) rfl rfl ⟨(blk_cell BK362.out 0).trans rfl, (blk_cell BK362.out 1).trans rfl, hx363_0, hx363_1⟩ (fun hHeld => ?_); refine with_tabW split_Join.tab20 split_Join.bits20 (fun HT_ HW_ => ?_)
                      generalize w32.drew = w33 at HO_11 BK362 HB HL363_1 HR363_1 hx363_0 hx363_1 hHeld ⊢
                      refine pure_ (i := 0) (N := some 69) (v := ?_) (a' := ?_) #[true, false, false, false, false, false, false, false, false, false, false, false, false, false, false, false, false, false] rfl rfl (any_of HT_.out (by kernel_rfl)) (fun _ _ _ h => h) (Or.inl ⟨by rfl, ?_⟩) ?_ ?_
                      rotate_left
                      ·intro w'
                       go_simp
                       with_reducible rfl
                      rotate_left
                      ·simp only [Act.put, List.setIfInBounds_toArray, List.set_cons_zero, List.set_cons_succ, i64_w, i32_w]
                       rfl
                      refine pure_ (i := 1) (N := some 70) (v := ?_) (a' := ?_) #[true, true, false, false, false, false, false, false, false, false, false, false, false, false, false, false, false, false] rfl rfl (any_of HT_.out (by kernel_rfl)) (fun _ _ _ h => h) (Or.inl ⟨by rfl, ?_⟩) ?_ ?_
                      rotate_left
                      ·intro w'
                       go_simp
                       with_reducible rfl
                      rotate_left
                      ·simp only [Act.put, List.setIfInBounds_toArray, List.set_cons_zero, List.set_cons_succ, i64_w, i32_w]
                       rfl
                      refine pure_ (i := 2) (N := some 71) (v := ?_) (a' := ?_) #[true, true, true, false, false, false, false, false, false, false, false, false, false, false, false, false, false, false] rfl rfl (any_of HT_.out (by kernel_rfl)) (fun _ _ _ h => h) (Or.inl ⟨by rfl, ?_⟩) ?_ ?_
                      rotate_left
                      ·intro w'
                       go_simp
                       with_reducible rfl
                      rotate_left
                      ·simp only [Act.put, List.setIfInBounds_toArray, List.set_cons_zero, List.set_cons_succ, i64_w, i32_w]
                       rfl
                      refine pure_ (i := 3) (N := some 72) (v := ?_) (a' := ?_) #[true, true, true, true, false, false, false, false, false, false, false, false, false, false, false, false, false, false] rfl rfl (any_of HT_.out (by kernel_rfl)) (fun _ _ _ h => h) (Or.inl ⟨by rfl, ?_⟩) ?_ ?_
                      rotate_left
                      ·intro w'
                       go_simp
                       with_reducible rfl
                      rotate_left
                      ·simp only [Act.put, List.setIfInBounds_toArray, List.set_cons_zero, List.set_cons_succ, i64_w, i32_w]
                       rfl
                      refine pure_ (i := 4) (N := some 73) (v := ?_) (a' := ?_) #[true, true, true, true, true, false, false, false, false, false, false, false, false, false, false, false, false, false] rfl rfl (any_of HT_.out (by kernel_rfl)) (fun _ _ _ h => h) (Or.inl ⟨by rfl, ?_⟩) ?_ ?_
                      rotate_left
                      ·intro w'
                       go_simp
                       with_reducible rfl
                      rotate_left
                      ·simp only [Act.put, List.setIfInBounds_toArray, List.set_cons_zero, List.set_cons_succ, i64_w, i32_w]
                       rfl
                      refine pure_ (i := 5) (N := some 74) (v := ?_) (a' := ?_) #[true, true, true, true, true, true, false, false, false, false, false, false, false, false, false, false, false, false] rfl rfl (any_of HT_.out (by kernel_rfl)) (fun _ _ _ h => h) (Or.inl ⟨by rfl, ?_⟩) ?_ ?_
                      rotate_left
                      ·intro w'
                       go_simp
                       with_reducible rfl
                      rotate_left
                      ·simp only [Act.put, List.setIfInBounds_toArray, List.set_cons_zero, List.set_cons_succ, i64_w, i32_w]
                       rfl
                      refine pure_ (i := 6) (N := some 75) (v := ?_) (a' := ?_) #[true, true, true, true, true, true, true, false, false, false, false, false, false, false, false, false, false, false] rfl rfl (any_of HT_.out (by kernel_rfl)) (fun _ _ _ h => h) (Or.inl ⟨by rfl, ?_⟩) ?_ ?_
                      rotate_left
                      ·intro w'
                       go_simp
                       with_reducible rfl
                      rotate_left
                      ·simp only [Act.put, List.setIfInBounds_toArray, List.set_cons_zero, List.set_cons_succ, i64_w, i32_w]
                       rfl
                      refine pure_ (i := 7) (N := some 76) (v := ?_) (a' := ?_) #[true, true, true, true, true, true, true, true, false, false, false, false, false, false, false, false, false, false] rfl rfl (any_of HT_.out (by kernel_rfl)) (fun _ _ _ h => h) (Or.inl ⟨by rfl, ?_⟩) ?_ ?_
                      rotate_left
                      ·intro w'
                       go_simp
                       with_reducible rfl
                      rotate_left
                      ·simp only [Act.put, List.setIfInBounds_toArray, List.set_cons_zero, List.set_cons_succ, i64_w, i32_w]
                       rfl
                      refine pure_ (i := 8) (N := some 77) (v := ?_) (a' := ?_) #[true, true, true, true, true, true, true, true, true, false, false, false, false, false, false, false, false, false] rfl rfl (any_of HT_.out (by kernel_rfl)) (fun _ _ _ h => h) (Or.inl ⟨by rfl, ?_⟩) ?_ ?_
                      rotate_left
                      ·intro w'
                       go_simp
                       with_reducible rfl
                      rotate_left
                      ·simp only [Act.put, List.setIfInBounds_toArray, List.set_cons_zero, List.set_cons_succ, i64_w, i32_w]
                       rfl
                      refine pure_ (i := 9) (N := some 78) (v := ?_) (a' := ?_) #[true, true, true, true, true, true, true, true, true, true, false, false, false, false, false, false, false, false] rfl rfl (any_of HT_.out (by kernel_rfl)) (fun _ _ _ h => h) (Or.inl ⟨by rfl, ?_⟩) ?_ ?_
                      rotate_left
                      ·intro w'
                       go_simp
                       with_reducible rfl
                      rotate_left
                      ·simp only [Act.put, List.setIfInBounds_toArray, List.set_cons_zero, List.set_cons_succ, i64_w, i32_w]
                       rfl
                      refine pure_ (i := 10) (N := some 79) (v := ?_) (a' := ?_) #[true, true, true, true, true, true, true, true, true, true, true, false, false, false, false, false, false, false] rfl rfl (any_of HT_.out (by kernel_rfl)) (fun _ _ _ h => h) (Or.inl ⟨by rfl, ?_⟩) ?_ ?_
                      rotate_left
                      ·intro w'
                       go_simp
                       with_reducible rfl
                      rotate_left
                      ·simp only [Act.put, List.setIfInBounds_toArray, List.set_cons_zero, List.set_cons_succ, i64_w, i32_w]
                       rfl
                      refine pure_ (i := 11) (N := some 80) (v := ?_) (a' := ?_) #[true, true, true, true, true, true, true, true, true, true, true, true, false, false, false, false, false, false] rfl rfl (any_of HT_.out (by kernel_rfl)) (fun _ _ _ h => h) (Or.inl ⟨by rfl, ?_⟩) ?_ ?_
                      rotate_left
                      ·intro w'
                       go_simp
                       with_reducible rfl
                      rotate_left
                      ·simp only [Act.put, List.setIfInBounds_toArray, List.set_cons_zero, List.set_cons_succ, i64_w, i32_w]
                       rfl
                      refine pure_ (i := 12) (N := some 81) (v := ?_) (a' := ?_) #[true, true, true, true, true, true, true, true, true, true, true, true, true, false, false, false, false, false] rfl rfl (any_of HT_.out (by kernel_rfl)) (fun _ _ _ h => h) (Or.inl ⟨by rfl, ?_⟩) ?_ ?_
                      rotate_left
                      ·intro w'
                       go_simp
                       with_reducible rfl
                      rotate_left
                      ·simp only [Act.put, List.setIfInBounds_toArray, List.set_cons_zero, List.set_cons_succ, i64_w, i32_w]
                       rfl
                      refine take_ (i := 13) (N := some 82) (v := ?_) (a' := ?_) #[true, true, true, true, true, true, true, true, true, true, true, true, true, true, false, false, false, false] rfl rfl (take_ofW HT_.out HW_.out (by kernel_rfl)) (fun _ _ _ h => h) (Or.inl ⟨by rfl, ?_⟩) hHeld ?_ ?_
                      rotate_left
                      ·rintro w' ⟨s0, s1, s2, s3⟩
                       go_simp
                       with_reducible rfl
                      rotate_left
                      ·simp only [Act.put, List.setIfInBounds_toArray, List.set_cons_zero, List.set_cons_succ, i64_w, i32_w]
                       rfl
                      refine take_ (i := 14) (N := some 83) (v := ?_) (a' := ?_) #[true, true, true, true, true, true, true, true, true, true, true, true, true, true, true, false, false, false] rfl rfl (take_ofW HT_.out HW_.out (by kernel_rfl)) (fun _ _ _ h => h) (Or.inl ⟨by rfl, ?_⟩) hHeld ?_ ?_
                      rotate_left
                      ·rintro w' ⟨s0, s1, s2, s3⟩
                       go_simp
                       with_reducible rfl
                      rotate_left
                      ·simp only [Act.put, List.setIfInBounds_toArray, List.set_cons_zero, List.set_cons_succ, i64_w, i32_w]
                       rfl
                      refine one_ (i := 15) (N := some 84) #[true, true, true, true, true, true, true, true, true, true, true, true, true, true, true, true, false, false] rfl rfl (one_of HT_.out (by kernel_rfl)) (by decide) (fun K hK => ?_)
                      refine goes_ Tryd.func36 (by kernel_rfl) rfl #[.agg #[.bool ((rd_T39 x11_4 (ji25)).f0), .slice A363_1 ((rd_T39 x11_4 (ji25)).f1).length c363_1], .agg #[.bool ((rd_T39 (rd_L5 l0 x57_3) x64_4).f0), .slice A361_1 ((rd_T39 (rd_L5 l0 x57_3) x64_4).f1).length c361_1]] (by rfl) rfl rfl (by (try simp only [List.map_toArray, List.map_cons, List.map_nil]); first | done | (simp only [hji25]; rfl) | rfl | (simp only [List.length_drop, List.length_take]; rfl)) ?_
                      with_reducible refine (integer_Int_Add.calls k4 ((rd_T39 x11_4 (ji25)).f0) _ _ ((rd_T39 x11_4 (ji25)).f1) ((rd_T39 (rd_L5 l0 x57_3) x64_4).f0) _ _ ((rd_T39 (rd_L5 l0 x57_3) x64_4).f1) t364 t365 _ ?side1 ?side2 ?side3 ?side4 A28.out).mono ?_
                      (case side1 => repeat (first | exact (by repeat (first | (with_reducible exact HR363_1.out) | (with_reducible refine Kd.C_alloc ?_ _) | (with_reducible refine Kd.C_drewN ?_ _) | (with_reducible refine Kd.C_drew ?_) | exact HR363_1.out)) | (with_reducible refine Kd.C_alloc ?_ _) | (with_reducible refine Kd.C_drewN ?_ _) | (with_reducible refine Kd.C_drew ?_)))
                      (case side2 => exact HC363_1.out)
                      (case side3 => repeat (first | exact (Kd.C_below HR361_1.out HB.out) | (with_reducible refine Kd.C_alloc ?_ _) | (with_reducible refine Kd.C_drewN ?_ _) | (with_reducible refine Kd.C_drew ?_)))
                      (case side4 => exact HC361_1.out)
                      rintro e w35 ⟨v366, rfl, ho0, hb⟩
                      have HS2_ := (hb.cell (World.block_lt_of_cell? _ _ (hHeld.2.2.1))).trans (hHeld.2.2.1)
                      have HS3_ := (hb.cell (World.block_lt_of_cell? _ _ (hHeld.2.2.2))).trans (hHeld.2.2.2)
                      refine ⟨_, rfl, ?_⟩
                      have n0_ := Aside0.mk (Kd.N_below (lN HO_11) hb)
                      have n1_ := Aside0.mk (Kd.V_below (lV HL363_1) hb)
                      have n2_ := Aside0.mk (Kd.V_lower (Kd.V_mono (ok' := fun k_ => (w.heap.size ≤ k_) ∧ some k_ ≠ (.slice (some ad363) x11_4.length co34 : Value).ownBlock ∧ k_ ≠ gb362) ho0 (fun k_ hk_ => ⟨(Nat.le_trans (below_size (by repeat (first | (with_reducible first | exact HB.out | apply below_alloc | apply pw_below_drewN | apply below_drew1 | refine below_set ?_ GE362.out) | exact HB.out))) hk_), (Kd.fresh' (Kd.N_lt (lN HO_11)) k_ hk_), (Kd.freshB (g := gb362) (o := .cells #[.bool ((rd_T39 (rd_L5 l0 x57_3) x64_4).f0), .slice A361_1 ((rd_T39 (rd_L5 l0 x57_3) x64_4).f1).length c361_1] 39 (0, 0)) (lK BK362) k_ hk_)⟩)) (below_size (by repeat (first | (with_reducible first | exact HB.out | apply below_alloc | apply pw_below_drewN | apply below_drew1 | refine below_set ?_ GE362.out) | exact HB.out))))
                      have n3_ := Aside0.mk (blk_below (g := gb362) (o := .cells #[.bool ((rd_T39 (rd_L5 l0 x57_3) x64_4).f0), .slice A361_1 ((rd_T39 (rd_L5 l0 x57_3) x64_4).f1).length c361_1] 39 (0, 0)) (lK BK362) hb)
                      have n4_ := Aside0.mk (Kd.C_below (by repeat (first | (with_reducible exact HR363_1.out) | (with_reducible refine Kd.C_alloc ?_ _) | (with_reducible refine Kd.C_drewN ?_ _) | (with_reducible refine Kd.C_drew ?_) | exact HR363_1.out)) hb)
                      have n5_ := Aside0.mk (below_step (by repeat (first | (with_reducible first | exact HB.out | apply below_alloc | apply pw_below_drewN | apply below_drew1 | refine below_set ?_ GE362.out) | exact HB.out)) hb)
                      clear HO_11
                      clear HL363_1
                      clear BK362
                      clear HR363_1
                      clear HB
                      have HO_11 := n0_
                      have HL363_1 := n1_
                      have HO367 := n2_
                      have BK362 := n3_
                      have HR363_1 := n4_
                      have HB := n5_
                      clear n0_ n1_ n2_ n3_ n4_ n5_
                      (try clear hb)
                      (try clear hb2)
                      (try clear hk)
                      (try clear hi)
                      (try clear ho0)
                      have p29 : 0 ≤ ((ji25) : Int) := of_decide_eq_true (by first | (with_reducible assumption) | assumption)
                      have q29 : ((ji25) : Int) < ((x11_4.length : Int) : Int) := of_decide_eq_true (by first | (with_reducible assumption) | assumption)
                      obtain ⟨go29, co29, eo29, gb29, gl29, cl29, HG29⟩ := Kd.N_form HO_11.out (by omega)
                      (first | cases eo29 | (injection eo29 with ea_ en_ ec_; (first | subst ea_ | (injection ea_ with ea_; subst ea_)); subst ec_; clear en_))
                      have GB29 := Aside0.mk gb29
                      have GG29 := Aside0.mk HG29
                      clear gb29 gl29 HG29
                      (first | simp only [add_plain] at hx363_0 | skip)
                      (first | simp only [add_plain] at hx363_1 | skip)
                      obtain ⟨ce29, hcl29, hM29, hcc29, hfr29⟩ := Kd.N_elem HO_11.out z39 ((ji25) : Int) p29 q29
                      obtain ⟨ua29_1, uc29_1, rfl, ul29_1, ge29_1⟩ := k39_openF hM29
                      have hx29_0 : World.cell? _ ⟨go29, ((ji25) : Int).toNat * 2, none⟩ = some (.bool ((rd_T39 x11_4 (ji25)).f0)) := hcc29 0 _ rfl
                      have hx29_1 : World.cell? _ ⟨go29, ((ji25) : Int).toNat * 2 + 1, none⟩ = some (.slice ua29_1 ((rd_T39 x11_4 (ji25)).f1).length uc29_1) := hcc29 1 _ rfl
                      have hf29_0 : World.frozen? _ ⟨go29, ((ji25) : Int).toNat * 2, none⟩ = false := hfr29 0
                      have hf29_1 : World.frozen? _ ⟨go29, ((ji25) : Int).toNat * 2 + 1, none⟩ = false := hfr29 1
                      clear hcl29 hcc29 hfr29 hM29
                      replace p29 := eq_true p29
                      replace q29 := eq_true q29
                      obtain ⟨Ao37, co37, eo37⟩ := Kd.V_slice HO367.out
                      (first | subst eo37 | (injection eo37 with f1_ f2_ f3_; have f4_ := f1_.symm; have f5_ := f3_.symm; clear f1_ f2_ f3_; subst f4_; subst f5_))
                      have HX36 := Aside0.mk (show Kd.N k39 39 _ w.heap.size (fun k_ => (w.heap.size ≤ k_) ∧ k_ ≠ gb362) (.slice (some ⟨go29, 0, none⟩) x11_4.length co34) x11_4 from (Kd.N_mono (HO_11.out) (fun k_ hk => ⟨hk.1, hk.2⟩)))
                      obtain ⟨ce36, hcl36, hM36, hcc36, hfr36⟩ := Kd.N_elem HX36.out z39 ((ji25) : Int) (of_decide_eq_true (by first | (with_reducible assumption) | assumption)) (by have h_ : ((ji25) : Int) < ((x11_4.length : Int) : Int) := of_decide_eq_true (by first | (with_reducible assumption) | assumption); first | exact h_ | (have e_ := (Kd.N_reads' HO_11.out).1; omega) | simpa using h_)
                      obtain ⟨ua36_1, uc36_1, rfl, ul36_1, ge36_1⟩ := k39_openF hM36
                      have HP36 := (Kd.N_seg HX36.out ((ji25) : Int) (of_decide_eq_true (by first | (with_reducible assumption) | assumption)) (by have h_ : ((ji25) : Int) < ((x11_4.length : Int) : Int) := of_decide_eq_true (by first | (with_reducible assumption) | assumption); first | exact h_ | (have e_ := (Kd.N_reads' HO_11.out).1; omega) | simpa using h_) (seg := [.bool t364, .slice Ao37 t365.length co37]) (j := 0) hcl36 hcc36 (show 2 ≤ 2 from by decide) (x' := (⟨t364, t365⟩ : S39)) (k39_mkF _ _ (⟨t364, t365⟩ : S39) (Kd.V_reads' (Kd.V_mono (ok' := (fun k_ => ((fun k_ => (w.heap.size ≤ k_) ∧ k_ ≠ gb362)) k_ ∧ k_ ≠ go29)) (HO367.out) (fun k_ hk => ⟨⟨hk.1, hk.2.2⟩, fun e_ => (hk.2.1) (by rw [e_]; rfl)⟩))).2.1 (Kd.V_F (Kd.V_mono (ok' := (fun k_ => ((fun k_ => (w.heap.size ≤ k_) ∧ k_ ≠ gb362)) k_ ∧ k_ ≠ go29)) (HO367.out) (fun k_ hk => ⟨⟨hk.1, hk.2.2⟩, fun e_ => (hk.2.1) (by rw [e_]; rfl)⟩)))) (fun _ hk => hk)).1
                      rw [← Ny368.out] at HP36
                      have HQ36 := Aside0.mk HP36
                      clear hcl36 hcc36 hfr36 hM36 HP36
                      refine hK.out _ _ ⟨(blk_cell BK362.out 0).trans rfl, (blk_cell BK362.out 1).trans rfl, HS2_, HS3_⟩ (fun hHeld => ?_)
                      clear hK K
                      refine norm_ (a' := ?_) ?_ ?_
                      rotate_left
                      ·show Act.put _ (some 84) _ = _
                       simp only [Act.put, List.setIfInBounds_toArray, List.set_cons_zero, List.set_cons_succ, i64_w, i32_w]
                       rfl
                      refine pure_ (i := 16) (N := some 85) (v := ?_) (a' := ?_) #[true, true, true, true, true, true, true, true, true, true, true, true, true, true, true, true, true, false] rfl rfl (any_of HT_.out (by kernel_rfl)) (fun _ _ _ h => h) (Or.inl ⟨by rfl, ?_⟩) ?_ ?_
                      rotate_left
                      ·intro w'
                       go_simp
                       with_reducible rfl
                      rotate_left
                      ·simp only [Act.put, List.setIfInBounds_toArray, List.set_cons_zero, List.set_cons_succ, i64_w, i32_w]
                       rfl
                      refine last_ (i := 17) (N := none) #[true, true, true, true, true, true, true, true, true, true, true, true, true, true, true, true, true, true] rfl rfl (one_of HT_.out (by kernel_rfl)) (by decide) (fun K hK => ?_)
                      refine skip_ (w1 := ?_) (by rfl) rfl ?_ ?_
                      rotate_left
                      ·go_simp
                       rfl
                      refine hK.out _ _ ?_
                      clear hK K
                      refine done_ (done_of HT_.out (by kernel_rfl)) ?_
                      try go_wp2
                      go_roundg k4
                      case measure => have := HJ3.out; have := HK2.out; have := HK3.out; have := HK4.out; omega
                      case rel => exact ⟨(y368), (wrap64 (x64_4 + 1)), (by first | rfl | (simp; done) | (simp [*]; done)), H', ⟨by have := HJ3.out; have := HK2.out; have := HK3.out; have := HK4.out; omega⟩, ⟨by (with_reducible repeat (first | apply Kd.N_alloc | apply Kd.N_drewN | apply Kd.N_drew)); exact Kd.N_mono HQ36.out (fun _ hk => hk.1)⟩, ⟨by repeat (first | (with_reducible first | exact HB.out | apply below_alloc | apply pw_below_drewN | apply below_drew1 | refine below_set ?_ GB29.out | refine below_set ?_ GB29.out | refine below_set ?_ GE362.out) | exact HB.out)⟩⟩
                     ·rw [if_neg c27] at H
                      exact absurd H (by simp)
                    ·rw [if_neg c26] at H
                     exact absurd H (by simp)
                   ·rw [if_neg c24] at H
                    exact absurd H (by simp)
                  ·rw [if_neg c23] at H
                   exact absurd H (by simp)
                 ·rw [if_neg c22] at H
                  have c22b0 : decide (x64_4 < ((rd_L5 l0 x57_3).length : Int)) = false := decide_eq_false c22
                  clear c22
                  have H' := Aside0.mk H
                  clear H
                  go_wp2
                  go_roundg k4
                  case measure => have := HJ3.out; have := HK2.out; have := HK3.out; have := HK4.out; omega
                  case rel => exact ⟨(x11_4), (wrap64 (x57_3 + 1)), (by first | rfl | (simp; done) | (simp [*]; done)), H', ⟨by have := HJ3.out; have := HK2.out; have := HK3.out; have := HK4.out; omega⟩, ⟨by (with_reducible repeat (first | apply Kd.N_alloc | apply Kd.N_drewN | apply Kd.N_drew)); exact HO_11.out⟩, ⟨by repeat (first | (with_reducible first | exact HB.out | apply below_alloc | apply pw_below_drewN | apply below_drew1) | exact HB.out)⟩⟩
              ·rw [if_neg c21] at H
               exact absurd H (by simp)
             ·rw [if_neg c20] at H
              exact absurd H (by simp)
            ·rw [if_neg c19] at H
             have c19b0 : decide (x57_3 < (l0.length : Int)) = false := decide_eq_false c19
             clear c19
             replace H := Option.bind_eq_some_iff.mp H
             obtain ⟨t369, A380, H⟩ := H
             replace H : (if t369 ≥ a2 then (some (([] : List (S39)), 5)) else (if a2 = 0 then (some (([] : List (S39)), 0)) else (if 0 ≤ a2 then (if a2 ≤ (x11_3.length : Int) then (some ((x11_3.take (a2 : Int).toNat), 0)) else (none)) else (none)))) = some (r1, r2) := H
             have A38 := Aside0.mk A380
             clear A380
             by_cases c39 : t369 ≥ a2
             ·rw [if_pos c39] at H
              have c39b0 : decide (a2 ≤ t369) = true := decide_eq_true c39
              clear c39
              simp only [Option.some.injEq, Prod.mk.injEq] at H
              obtain ⟨rfl, rfl⟩ := H
              obtain ⟨Ao40, co40, eo40⟩ := Kd.N_slice HO_11.out
              subst eo40
              go_wp2_with (first | ((with_reducible refine gate_callee (f := 37) rfl ?_); refine goesL_ (some 89) rfl rfl Tryd.func37 (by kernel_rfl) rfl #[.slice Ao40 x11_3.length co40] rfl (by (try simp only [List.map_toArray, List.map_cons, List.map_nil]); first | done | rfl | (simp only [List.length_drop, List.length_take]; rfl)) ?_; (with_reducible refine (poly_Degree.calls k3 _ _ x11_3 t369 _ ?side1 ?side2 A38.out).mono ?_); (case side1 => repeat (first | exact (Kd.N_reads' HO_11.out).2.2 | (with_reducible refine Kd.C_alloc ?_ _) | (with_reducible refine Kd.C_drewN ?_ _) | (with_reducible refine Kd.C_drew ?_))); (case side2 => exact (Kd.N_reads' HO_11.out).2.1); rintro e w41 ⟨rfl, hb⟩; refine ⟨_, rfl, ?_⟩; have n0_ := Aside0.mk (Kd.N_below (lN HO_11) hb); have n1_ := Aside0.mk (below_step (lB HB) hb); clear HO_11 HB; have HO_11 := n0_; have HB := n1_; clear n0_ n1_; (try clear hb); (try clear hb2); (try clear hk); (try clear hi)))
              go_ret2
              exact ⟨_, by first | rfl | (simp [errW_none, errW_some] <;> rfl) | (simp [*, errW_none, errW_some] <;> rfl), Kd.V_nil _ _ _ _ _, by repeat (first | (with_reducible first | exact HB.out | apply below_alloc | apply pw_below_drewN | apply below_drew1) | exact HB.out)⟩
             ·rw [if_neg c39] at H
              have c39b0 : decide (a2 ≤ t369) = false := decide_eq_false c39
              clear c39
              by_cases c42 : a2 = 0
              ·rw [if_pos c42] at H
               have c42b0 : (a2 == 0) = true := beq_iff_eq.mpr c42
               have c42b1 : (a2 != 0) = false := bne_eq_false_iff_eq.mpr c42
               clear c42
               simp only [Option.some.injEq, Prod.mk.injEq] at H
               obtain ⟨rfl, rfl⟩ := H
               obtain ⟨Ao43, co43, eo43⟩ := Kd.N_slice HO_11.out
               subst eo43
               go_wp2_with (first | ((with_reducible refine gate_callee (f := 37) rfl ?_); refine goesL_ (some 89) rfl rfl Tryd.func37 (by kernel_rfl) rfl #[.slice Ao43 x11_3.length co43] rfl (by (try simp only [List.map_toArray, List.map_cons, List.map_nil]); first | done | rfl | (simp only [List.length_drop, List.length_take]; rfl)) ?_; (with_reducible refine (poly_Degree.calls k3 _ _ x11_3 t369 _ ?side1 ?side2 A38.out).mono ?_); (case side1 => repeat (first | exact (Kd.N_reads' HO_11.out).2.2 | (with_reducible refine Kd.C_alloc ?_ _) | (with_reducible refine Kd.C_drewN ?_ _) | (with_reducible refine Kd.C_drew ?_))); (case side2 => exact (Kd.N_reads' HO_11.out).2.1); rintro e w44 ⟨rfl, hb⟩; refine ⟨_, rfl, ?_⟩; have n0_ := Aside0.mk (Kd.N_below (lN HO_11) hb); have n1_ := Aside0.mk (below_step (lB HB) hb); clear HO_11 HB; have HO_11 := n0_; have HB := n1_; clear n0_ n1_; (try clear hb); (try clear hb2); (try clear hk); (try clear hi)))
               go_ret2
               exact ⟨_, by first | rfl | (simp [errW_none, errW_some] <;> rfl) | (simp [*, errW_none, errW_some] <;> rfl), Kd.V_nil _ _ _ _ _, by repeat (first | (with_reducible first | exact HB.out | apply below_alloc | apply pw_below_drewN | apply below_drew1) | exact HB.out)⟩
              ·rw [if_neg c42] at H
               have c42b0 : (a2 == 0) = false := beq_eq_false_iff_ne.mpr c42
               have c42b1 : (a2 != 0) = true := bne_iff_ne.mpr c42
               by_cases c45 : 0 ≤ a2
               ·rw [if_pos c45] at H
                have c45b0 := eq_true c45
                have c45b1 : decide (0 ≤ a2) = true := decide_eq_true c45
                clear c45
                by_cases c46 : a2 ≤ (x11_3.length : Int)
                ·rw [if_pos c46] at H
                 have c46b0 := eq_true c46
                 have c46b1 : decide (a2 ≤ (x11_3.length : Int)) = true := decide_eq_true c46
                 clear c46
                 obtain ⟨y370, hy370⟩ : ∃ y_ : List (S39), y_ = (x11_3.take (a2 : Int).toNat) := ⟨_, rfl⟩
                 replace H : (some (y370, 0)) = some (r1, r2) := by first | (rw [hy370]; with_reducible exact H) | (have H2_ := (Option.bind_some _ _).symm.trans H; rw [hy370]; with_reducible exact H2_) | (have H2_ := (Option.bind_some _ _).symm.trans H; with_reducible exact H2_) | with_reducible exact H | (rw [hy370]; exact H) | exact H
                 have Ny370 := Aside0.mk hy370
                 clear hy370
                 simp only [Option.some.injEq, Prod.mk.injEq] at H
                 obtain ⟨rfl, rfl⟩ := H
                 obtain ⟨Ao47, co47, eo47⟩ := Kd.N_slice HO_11.out
                 subst eo47
                 go_wp2_with (first | ((with_reducible refine gate_callee (f := 37) rfl ?_); refine goesL_ (some 89) rfl rfl Tryd.func37 (by kernel_rfl) rfl #[.slice Ao47 x11_3.length co47] rfl (by (try simp only [List.map_toArray, List.map_cons, List.map_nil]); first | done | rfl | (simp only [List.length_drop, List.length_take]; rfl)) ?_; (with_reducible refine (poly_Degree.calls k3 _ _ x11_3 t369 _ ?side1 ?side2 A38.out).mono ?_); (case side1 => repeat (first | exact (Kd.N_reads' HO_11.out).2.2 | (with_reducible refine Kd.C_alloc ?_ _) | (with_reducible refine Kd.C_drewN ?_ _) | (with_reducible refine Kd.C_drew ?_))); (case side2 => exact (Kd.N_reads' HO_11.out).2.1); rintro e w48 ⟨rfl, hb⟩; refine ⟨_, rfl, ?_⟩; have n0_ := Aside0.mk (Kd.N_below (lN HO_11) hb); have n1_ := Aside0.mk (below_step (lB HB) hb); clear HO_11 HB; have HO_11 := n0_; have HB := n1_; clear n0_ n1_; (try clear hb); (try clear hb2); (try clear hk); (try clear hi); have q49 : (a2 : Int) ≤ ((x11_3.length : Int) : Int) := of_decide_eq_true (by first | (with_reducible assumption) | assumption); obtain ⟨i049, hi049, _, hsz49, _⟩ := info_parts info39; have hroom49 : x11_3.length ≤ co47 := (Kd.N_reads' HO_11.out).2.1; have hC49 : Kd.F k39 _ _ Ao47 x11_3.length x11_3 := (Kd.V_at (base := w.heap.size) (Kd.N_V HO_11.out)).2.2; have hcut49 := cut_to (P := Tryd.prog) 24 39 .i64 Tryd.underlying24 hi049 Ao47 x11_3.length co47 a2 (of_decide_eq_true (by first | (with_reducible assumption) | assumption)) q49 hroom49; have hr49 := Kd.F_take (m := (a2 : Int).toNat) hC49 (by omega); have hy49 : y370.length = (a2 : Int).toNat := (by rw [Ny370.out, List.length_take]; omega); rw [← Ny370.out] at hr49; rw [← hy49] at hcut49; have HO374 := Aside0.mk (show Kd.V k39 39 _ w.heap.size _ (.slice Ao47 y370.length co47) y370 from Kd.V_mk (by omega) hr49); have HC374 := Aside0.mk (show y370.length ≤ co47 from by omega); have hcapq := eq_true (show ((a2 : Int) ≤ (co47 : Int)) from by omega); clear hr49 hC49 hroom49 hi049 hsz49; have KY49 := Aside0.mk hy49; clear hy49; replace q49 := eq_true q49))
                 go_ret2
                 exact ⟨_, by first | rfl | (simp [errW_none, errW_some] <;> rfl) | (simp [*, errW_none, errW_some] <;> rfl), by (with_reducible repeat (first | apply Kd.V_alloc | apply Kd.V_drewN | apply Kd.V_drew)); exact Go.Proofs.YtakmkhokbcjapaaDoor.Own.V_of_cap HO374.out (by rw [KY49.out]; rfl), by repeat (first | (with_reducible first | exact HB.out | apply below_alloc | apply pw_below_drewN | apply below_drew1) | exact HB.out)⟩
                ·rw [if_neg c46] at H
                 exact absurd H (by simp)
               ·rw [if_neg c45] at H
                exact absurd H (by simp)
         ·rw [if_neg c16] at H
          exact absurd H (by simp)
        ·rw [if_neg c15] at H
         exact absurd H (by simp)

end Go.Proofs.YtakmkhokbcjapaaDoor.XA
end

section
namespace Go.Proofs.YtakmkhokbcjapaaDoor.XA
open Go.Proofs.YtakmkhokbcjapaaDoor.Lift Go.RowKit Go.Proofs.YtakmkhokbcjapaaDoorW.PrintWords Go.Proofs.YtakmkhokbcjapaaDoorW.PrintLast Go.Proofs.YtakmkhokbcjapaaDoorW.PrintMore
attribute [local go_sem] max2_int min2_int max_two min_two max_three min_three max_four min_four   -- for this text's walks alone
set_option linter.unusedVariables false
set_option linter.unusedSimpArgs false

/-! ### split_right: function 40 -/
mutual
def split_right.l0 : Nat → Int → Int → Int → Int → Int → Option (Bool)
 | 0, _, _, _, _, _ => none
 | k + 1, x2, x3, x16, x90016000, x90016001 => if x16 < 2 then (if x16 = 0 then (if x90016000 < 0 then (some false) else (if x90016000 > 4096 then (some false) else (split_right.l0 k x2 x3 (0 + 1) x90016000 x90016001))) else (if x16 = 1 then (if x90016001 < 0 then (some false) else (if x90016001 > 4096 then (some false) else (split_right.l0 k x2 x3 (1 + 1) x90016000 x90016001))) else (none))) else (split_right.l1 k 0 x2 x3)
def split_right.l1 : Nat → Int → Int → Int → Option (Bool)
 | 0, _, _, _ => none
 | k + 1, x29, x90029000, x90029001 => if x29 < 2 then (if x29 = 0 then (if x90029000 < 1 then (some false) else (if x90029000 > 8 then (some false) else (split_right.l1 k (0 + 1) x90029000 x90029001))) else (if x29 = 1 then (if x90029001 < 1 then (some false) else (if x90029001 > 8 then (some false) else (split_right.l1 k (1 + 1) x90029000 x90029001))) else (none))) else (some true)
end
def split_right.f (k : Nat) (a0 : Int) (a1 : Int) (a2 : Int) (a3 : Int) : Option (Bool) := split_right.l0 k a2 a3 0 a0 a1
theorem split_right.mono_l : ∀ k, (∀ y0 y1 y2 y3 y4, LeO (split_right.l0 k y0 y1 y2 y3 y4) (split_right.l0 (k + 1) y0 y1 y2 y3 y4)) ∧ (∀ y0 y1 y2, LeO (split_right.l1 k y0 y1 y2) (split_right.l1 (k + 1) y0 y1 y2))
 | 0 => ⟨fun _ _ _ _ _ r h => by simp [split_right.l0] at h, fun _ _ _ r h => by simp [split_right.l1] at h⟩
 | k + 1 => by
  obtain ⟨ih0, ih1⟩ := split_right.mono_l k
  refine ⟨?_, ?_⟩
  ·intro y0 y1 y2 y3 y4
   unfold split_right.l0
   repeat' first
   | (with_reducible exact ih0 _ _ _ _ _)
   | (with_reducible exact ih1 _ _ _)
   | (with_reducible exact LeO.refl _)
   | (with_reducible exact LeO.none _)
   | (with_reducible refine LeO.ite ?_ ?_)
   | (with_reducible refine LeO.bind ?_ (fun _ => ?_))
   | exact ih0 _ _ _ _ _
   | exact ih1 _ _ _
   | exact LeO.none _
   | refine LeO.ite ?_ ?_
   | refine LeO.bind ?_ (fun _ => ?_)
  ·intro y0 y1 y2
   unfold split_right.l1
   repeat' first
   | (with_reducible exact ih0 _ _ _ _ _)
   | (with_reducible exact ih1 _ _ _)
   | (with_reducible exact LeO.refl _)
   | (with_reducible exact LeO.none _)
   | (with_reducible refine LeO.ite ?_ ?_)
   | (with_reducible refine LeO.bind ?_ (fun _ => ?_))
   | exact ih0 _ _ _ _ _
   | exact ih1 _ _ _
   | exact LeO.none _
   | refine LeO.ite ?_ ?_
   | refine LeO.bind ?_ (fun _ => ?_)
theorem split_right.mono : ∀ a0 a1 a2 a3 k, LeO (split_right.f k a0 a1 a2 a3) (split_right.f (k + 1) a0 a1 a2 a3) := by
 intro a0 a1 a2 a3 k
 obtain ⟨ih0, ih1⟩ := split_right.mono_l k
 unfold split_right.f
 repeat' first
   | (with_reducible exact ih0 _ _ _ _ _)
   | (with_reducible exact ih1 _ _ _)
   | (with_reducible exact LeO.refl _)
   | (with_reducible exact LeO.none _)
   | (with_reducible refine LeO.ite ?_ ?_)
   | (with_reducible refine LeO.bind ?_ (fun _ => ?_))
   | exact ih0 _ _ _ _ _
   | exact ih1 _ _ _
   | exact LeO.none _
   | refine LeO.ite ?_ ?_
   | refine LeO.bind ?_ (fun _ => ?_)
set_option maxHeartbeats 8000000 in
set_option maxRecDepth 100000 in
theorem split_right.calls (k : Nat) (a0 : Int) (a1 : Int) (a2 : Int) (a3 : Int) (r : Bool) (w : World) (h : split_right.f k a0 a1 a2 a3 = some r) :
  Calls Tryd.prog 40 #[.int .i64 a0, .int .i64 a1, .int .i64 a2, .int .i64 a3] w fun e w' => e = .returned (.bool r) ∧ Drawn0 w w' := by
 have hu101 := Tryd.underlying101
 have H : (split_right.l0 k a2 a3 0 a0 a1) = some r := h
 clear h
 have H' := Aside0.mk H
 clear H
 have hix101_0 : ∀ (p0 p1 : Int) (W : World), Sem.run Tryd.prog (Instr.index 101 (.agg #[.int .i64 p0, .int .i64 p1]) (.int .i64 0)) W = .ok (.int .i64 p0) W := fun _ _ _ => by kernel_rfl
 have hix101_1 : ∀ (p0 p1 : Int) (W : World), Sem.run Tryd.prog (Instr.index 101 (.agg #[.int .i64 p0, .int .i64 p1]) (.int .i64 1)) W = .ok (.int .i64 p1) W := fun _ _ _ => by kernel_rfl
 go_enter Tryd.func40, Tryd.ntmps40
 go_wp2
 go_loopg [16] k (fun kq v16 w' => ∃ (x16_1 : Int), v16 = .int .i64 x16_1 ∧ Aside0 (split_right.l0 kq a2 a3 x16_1 a0 a1 = some r) ∧ Aside0 (kq ≤ k) ∧ Drawn0 w w')
 case atStart => exact ⟨(0), (by first | rfl | (simp; done) | (simp [*]; done)), H', ⟨Nat.le_refl _⟩, by repeat (first | exact Drawn0.refl _ | apply Drawn0.step)⟩
 case round =>
  clear H'
  obtain ⟨x16_1, rfl, HA, HK1, ⟨m1, rfl⟩⟩ := hrel
  cases gk with
  | zero => exact absurd HA.out (by simp [split_right.l0])
  | succ k1 =>
   have H := HA.out
   clear HA
   simp only [split_right.l0] at H
   by_cases c5 : x16_1 < 2
   ·rw [if_pos c5] at H
    have c5b0 : decide (x16_1 < 2) = true := decide_eq_true c5
    clear c5
    by_cases c6 : x16_1 = 0
    ·rw [if_pos c6] at H
     (first | rw [c6] | skip)
     by_cases c7 : a0 < 0
     ·rw [if_pos c7] at H
      have c7b0 : decide (a0 < 0) = true := decide_eq_true c7
      clear c7
      obtain rfl := Option.some.inj H
      go_wp2
      go_ret
      exact ⟨by first | rfl | (simp; done) | (simp [*]; done), by repeat (first | exact Drawn0.refl _ | apply Drawn0.step)⟩
     ·rw [if_neg c7] at H
      have c7b0 : decide (a0 < 0) = false := decide_eq_false c7
      clear c7
      by_cases c8 : a0 > 4096
      ·rw [if_pos c8] at H
       have c8b0 : decide (4096 < a0) = true := decide_eq_true c8
       clear c8
       obtain rfl := Option.some.inj H
       go_wp2
       go_ret
       exact ⟨by first | rfl | (simp; done) | (simp [*]; done), by repeat (first | exact Drawn0.refl _ | apply Drawn0.step)⟩
      ·rw [if_neg c8] at H
       have c8b0 : decide (4096 < a0) = false := decide_eq_false c8
       clear c8
       have H' := Aside0.mk H
       clear H
       go_wp2
       go_roundg k1
       case measure => have := HK1.out; omega
       case rel => exact ⟨(0 + 1), (by first | rfl | (simp; done) | (simp [*]; done)), H', ⟨by have := HK1.out; omega⟩, by repeat (first | exact Drawn0.refl _ | apply Drawn0.step)⟩
    ·rw [if_neg c6] at H
     by_cases c9 : x16_1 = 1
     ·rw [if_pos c9] at H
      (first | rw [c9] | skip)
      by_cases c10 : a1 < 0
      ·rw [if_pos c10] at H
       have c10b0 : decide (a1 < 0) = true := decide_eq_true c10
       clear c10
       obtain rfl := Option.some.inj H
       go_wp2
       go_ret
       exact ⟨by first | rfl | (simp; done) | (simp [*]; done), by repeat (first | exact Drawn0.refl _ | apply Drawn0.step)⟩
      ·rw [if_neg c10] at H
       have c10b0 : decide (a1 < 0) = false := decide_eq_false c10
       clear c10
       by_cases c11 : a1 > 4096
       ·rw [if_pos c11] at H
        have c11b0 : decide (4096 < a1) = true := decide_eq_true c11
        clear c11
        obtain rfl := Option.some.inj H
        go_wp2
        go_ret
        exact ⟨by first | rfl | (simp; done) | (simp [*]; done), by repeat (first | exact Drawn0.refl _ | apply Drawn0.step)⟩
       ·rw [if_neg c11] at H
        have c11b0 : decide (4096 < a1) = false := decide_eq_false c11
        clear c11
        have H' := Aside0.mk H
        clear H
        go_wp2
        go_roundg k1
        case measure => have := HK1.out; omega
        case rel => exact ⟨(1 + 1), (by first | rfl | (simp; done) | (simp [*]; done)), H', ⟨by have := HK1.out; omega⟩, by repeat (first | exact Drawn0.refl _ | apply Drawn0.step)⟩
     ·rw [if_neg c9] at H
      exact absurd H (by simp)
   ·rw [if_neg c5] at H
    have c5b0 : decide (x16_1 < 2) = false := decide_eq_false c5
    clear c5
    have H' := Aside0.mk H
    clear H
    go_wp2
    go_loopg [29] k1 (fun kq v29 w' => ∃ (x29_2 : Int), v29 = .int .i64 x29_2 ∧ Aside0 (split_right.l1 kq x29_2 a2 a3 = some r) ∧ Aside0 (kq ≤ k1) ∧ Drawn0 w w')
    case atStart => exact ⟨(0), (by first | rfl | (simp; done) | (simp [*]; done)), H', ⟨Nat.le_refl _⟩, by repeat (first | exact Drawn0.refl _ | apply Drawn0.step)⟩
    case round =>
     clear H'
     try clear c5
     obtain ⟨x29_2, rfl, HA, HK2, ⟨m2, rfl⟩⟩ := hrel
     cases gk with
     | zero => exact absurd HA.out (by simp [split_right.l1])
     | succ k2 =>
      have H := HA.out
      clear HA
      simp only [split_right.l1] at H
      by_cases c12 : x29_2 < 2
      ·rw [if_pos c12] at H
       have c12b0 : decide (x29_2 < 2) = true := decide_eq_true c12
       clear c12
       by_cases c13 : x29_2 = 0
       ·rw [if_pos c13] at H
        (first | rw [c13] | skip)
        by_cases c14 : a2 < 1
        ·rw [if_pos c14] at H
         have c14b0 : decide (a2 < 1) = true := decide_eq_true c14
         clear c14
         obtain rfl := Option.some.inj H
         go_wp2
         go_ret
         exact ⟨by first | rfl | (simp; done) | (simp [*]; done), by repeat (first | exact Drawn0.refl _ | apply Drawn0.step)⟩
        ·rw [if_neg c14] at H
         have c14b0 : decide (a2 < 1) = false := decide_eq_false c14
         clear c14
         by_cases c15 : a2 > 8
         ·rw [if_pos c15] at H
          have c15b0 : decide (8 < a2) = true := decide_eq_true c15
          clear c15
          obtain rfl := Option.some.inj H
          go_wp2
          go_ret
          exact ⟨by first | rfl | (simp; done) | (simp [*]; done), by repeat (first | exact Drawn0.refl _ | apply Drawn0.step)⟩
         ·rw [if_neg c15] at H
          have c15b0 : decide (8 < a2) = false := decide_eq_false c15
          clear c15
          have H' := Aside0.mk H
          clear H
          go_wp2
          go_roundg k2
          case measure => have := HK1.out; have := HK2.out; omega
          case rel => exact ⟨(0 + 1), (by first | rfl | (simp; done) | (simp [*]; done)), H', ⟨by have := HK1.out; have := HK2.out; omega⟩, by repeat (first | exact Drawn0.refl _ | apply Drawn0.step)⟩
       ·rw [if_neg c13] at H
        by_cases c16 : x29_2 = 1
        ·rw [if_pos c16] at H
         (first | rw [c16] | skip)
         by_cases c17 : a3 < 1
         ·rw [if_pos c17] at H
          have c17b0 : decide (a3 < 1) = true := decide_eq_true c17
          clear c17
          obtain rfl := Option.some.inj H
          go_wp2
          go_ret
          exact ⟨by first | rfl | (simp; done) | (simp [*]; done), by repeat (first | exact Drawn0.refl _ | apply Drawn0.step)⟩
         ·rw [if_neg c17] at H
          have c17b0 : decide (a3 < 1) = false := decide_eq_false c17
          clear c17
          by_cases c18 : a3 > 8
          ·rw [if_pos c18] at H
           have c18b0 : decide (8 < a3) = true := decide_eq_true c18
           clear c18
           obtain rfl := Option.some.inj H
           go_wp2
           go_ret
           exact ⟨by first | rfl | (simp; done) | (simp [*]; done), by repeat (first | exact Drawn0.refl _ | apply Drawn0.step)⟩
          ·rw [if_neg c18] at H
           have c18b0 : decide (8 < a3) = false := decide_eq_false c18
           clear c18
           have H' := Aside0.mk H
           clear H
           go_wp2
           go_roundg k2
           case measure => have := HK1.out; have := HK2.out; omega
           case rel => exact ⟨(1 + 1), (by first | rfl | (simp; done) | (simp [*]; done)), H', ⟨by have := HK1.out; have := HK2.out; omega⟩, by repeat (first | exact Drawn0.refl _ | apply Drawn0.step)⟩
        ·rw [if_neg c16] at H
         exact absurd H (by simp)
      ·rw [if_neg c12] at H
       have c12b0 : decide (x29_2 < 2) = false := decide_eq_false c12
       clear c12
       obtain rfl := Option.some.inj H
       go_wp2
       go_ret
       exact ⟨by first | rfl | (simp; done) | (simp [*]; done), by repeat (first | exact Drawn0.refl _ | apply Drawn0.step)⟩

end Go.Proofs.YtakmkhokbcjapaaDoor.XA
end

section
namespace Go.Proofs.YtakmkhokbcjapaaDoor.XA
open Go.Proofs.YtakmkhokbcjapaaDoor.Lift Go.RowKit Go.Proofs.YtakmkhokbcjapaaDoorW.PrintWords Go.Proofs.YtakmkhokbcjapaaDoorW.PrintLast Go.Proofs.YtakmkhokbcjapaaDoorW.PrintMore
attribute [local go_sem] max2_int min2_int max_two min_two max_three min_three max_four min_four   -- for this text's walks alone
set_option linter.unusedVariables false
set_option linter.unusedSimpArgs false

/-! ### split_up: function 41 -/
def split_up.f (a0 : Int) (a1 : Int) : Option (Int) := if a1 = 0 then (none) else (some (wrap64 (Int.tdiv (wrap64 ((wrap64 (a0 + a1)) - 1)) a1)))
set_option maxHeartbeats 8000000 in
set_option maxRecDepth 100000 in
theorem split_up.calls (a0 : Int) (a1 : Int) (r : Int) (w : World) (h : split_up.f a0 a1 = some r) :
  Calls Tryd.prog 41 #[.int .i64 a0, .int .i64 a1] w fun e w' => e = .returned (.int .i64 r) ∧ Drawn0 w w' := by
 have H : (if a1 = 0 then (none) else (some (wrap64 (Int.tdiv (wrap64 ((wrap64 (a0 + a1)) - 1)) a1)))) = some r := h
 clear h
 by_cases c3 : a1 = 0
 ·rw [if_pos c3] at H
  exact absurd H (by simp)
 ·rw [if_neg c3] at H
  have c3b0 : (a1 == 0) = false := beq_eq_false_iff_ne.mpr c3
  have c3b1 : (a1 != 0) = true := bne_iff_ne.mpr c3
  obtain rfl := Option.some.inj H
  go_enter Tryd.func41, Tryd.ntmps41
  go_wp2
  go_ret
  exact ⟨by first | rfl | (simp; done) | (simp [*]; done), by repeat (first | exact Drawn0.refl _ | apply Drawn0.step)⟩

/-! ### split_Block: function 20 -/
def split_Block.f (k : Nat) (a0 : Int) (a1 : Int) (a2 : Int) (a3 : Int) : Option (Int × Int) := (split_right.f k a0 a1 a2 a3).bind fun t375 => (if t375 = true then ((split_up.f a0 a2).bind fun t376 => ((split_up.f a1 a3).bind fun t377 => (some (mx t376 t377, 0)))) else (some (0, 2)))
theorem split_Block.mono : ∀ a0 a1 a2 a3 k, LeO (split_Block.f k a0 a1 a2 a3) (split_Block.f (k + 1) a0 a1 a2 a3) := by
 intro a0 a1 a2 a3 k
 unfold split_Block.f
 repeat' first
   | (with_reducible exact split_right.mono _ _ _ _ _)
   | (with_reducible exact LeO.refl _)
   | (with_reducible exact LeO.none _)
   | (with_reducible refine LeO.ite ?_ ?_)
   | (with_reducible refine LeO.bind ?_ (fun _ => ?_))
   | exact split_right.mono _ _ _ _ _
   | exact LeO.none _
   | refine LeO.ite ?_ ?_
   | refine LeO.bind ?_ (fun _ => ?_)
set_option maxHeartbeats 8000000 in
set_option maxRecDepth 100000 in
theorem split_Block.calls (k : Nat) (a0 : Int) (a1 : Int) (a2 : Int) (a3 : Int) (r1 : Int) (r2 : Int) (w : World) (h : split_Block.f k a0 a1 a2 a3 = some (r1, r2)) :
  Calls Tryd.prog 20 #[.int .i64 a0, .int .i64 a1, .int .i64 a2, .int .i64 a3] w fun e w' => e = .returned (.tuple #[.int .i64 r1, .int .i64 r2]) ∧ Below w.heap.size w w' := by
 have HB := Aside0.mk (Below.refl w.heap.size w)
 have H : ((split_right.f k a0 a1 a2 a3).bind fun t375 => (if t375 = true then ((split_up.f a0 a2).bind fun t376 => ((split_up.f a1 a3).bind fun t377 => (some (mx t376 t377, 0)))) else (some (0, 2)))) = some (r1, r2) := h
 clear h
 replace H := Option.bind_eq_some_iff.mp H
 obtain ⟨t375, A50, H⟩ := H
 replace H : (if t375 = true then ((split_up.f a0 a2).bind fun t376 => ((split_up.f a1 a3).bind fun t377 => (some (mx t376 t377, 0)))) else (some (0, 2))) = some (r1, r2) := H
 have A5 := Aside0.mk A50
 clear A50
 by_cases c6 : t375 = true
 ·subst c6
  have H1 : ((split_up.f a0 a2).bind fun t376 => ((split_up.f a1 a3).bind fun t377 => (some (mx t376 t377, 0)))) = some (r1, r2) := by rw [if_pos rfl] at H; exact H
  clear H
  have H := H1
  clear H1
  replace H := Option.bind_eq_some_iff.mp H
  obtain ⟨t376, A70, H⟩ := H
  replace H : ((split_up.f a1 a3).bind fun t377 => (some (mx t376 t377, 0))) = some (r1, r2) := H
  have A7 := Aside0.mk A70
  clear A70
  replace H := Option.bind_eq_some_iff.mp H
  obtain ⟨t377, A80, H⟩ := H
  replace H : (some (mx t376 t377, 0)) = some (r1, r2) := H
  have A8 := Aside0.mk A80
  clear A80
  obtain ⟨ji9, hji9⟩ : ∃ j_ : Int, (mx t376 t377) = j_ := ⟨_, rfl⟩
  replace H : (some (ji9, 0)) = some (r1, r2) := by first | (rw [hji9] at H; exact H) | (simp only [hji9] at H ⊢; exact H)
  (try rw [hji9] at A5)
  (try rw [hji9] at A7)
  (try rw [hji9] at A8)
  have hji9_ : (if t376 < t377 then t377 else t376) = ji9 := hji9
  simp only [Option.some.injEq, Prod.mk.injEq] at H
  obtain ⟨rfl, rfl⟩ := H
  go_enter Tryd.func20, Tryd.ntmps20
  go_wp2_with (first | ((with_reducible refine gate_callee (f := 40) rfl ?_); refine goesL_ (some 14) rfl rfl Tryd.func40 (by kernel_rfl) rfl #[.int .i64 a0, .int .i64 a1, .int .i64 a2, .int .i64 a3] rfl (by (try simp only [List.map_toArray, List.map_cons, List.map_nil]); first | done | rfl | (simp only [List.length_drop, List.length_take]; rfl)) ?_; (with_reducible refine (split_right.calls k a0 a1 a2 a3 true _ A5.out).mono ?_); rintro e w' ⟨rfl, ⟨nd, rfl⟩⟩; refine ⟨_, rfl, ?_⟩) | ((with_reducible refine gate_callee (f := 41) rfl ?_); refine goesL_ (some 18) rfl rfl Tryd.func41 (by kernel_rfl) rfl #[.int .i64 a0, .int .i64 a2] rfl (by (try simp only [List.map_toArray, List.map_cons, List.map_nil]); first | done | rfl | (simp only [List.length_drop, List.length_take]; rfl)) ?_; (with_reducible refine (split_up.calls a0 a2 t376 _ A7.out).mono ?_); rintro e w' ⟨rfl, ⟨nd, rfl⟩⟩; refine ⟨_, rfl, ?_⟩) | ((with_reducible refine gate_callee (f := 41) rfl ?_); refine goesL_ (some 21) rfl rfl Tryd.func41 (by kernel_rfl) rfl #[.int .i64 a1, .int .i64 a3] rfl (by (try simp only [List.map_toArray, List.map_cons, List.map_nil]); first | done | rfl | (simp only [List.length_drop, List.length_take]; rfl)) ?_; (with_reducible refine (split_up.calls a1 a3 t377 _ A8.out).mono ?_); rintro e w' ⟨rfl, ⟨nd, rfl⟩⟩; refine ⟨_, rfl, ?_⟩))
  go_ret2
  exact ⟨by first | rfl | (simp [errW_none, errW_some] <;> rfl) | (simp only [← hji9]; first | rfl | (simp [errW_none, errW_some] <;> rfl)) | (simp [*, errW_none, errW_some] <;> rfl), by repeat (first | (with_reducible first | exact HB.out | apply below_alloc | apply pw_below_drewN | apply below_drew1) | exact HB.out)⟩
 ·replace c6 := Bool.eq_false_iff.mpr c6
  subst c6
  have H1 : (some (0, 2)) = some (r1, r2) := by rw [if_neg (show ¬ (false = true) by decide)] at H; exact H
  clear H
  have H := H1
  clear H1
  simp only [Option.some.injEq, Prod.mk.injEq] at H
  obtain ⟨rfl, rfl⟩ := H
  go_enter Tryd.func20, Tryd.ntmps20
  go_wp2_with (first | ((with_reducible refine gate_callee (f := 40) rfl ?_); refine goesL_ (some 14) rfl rfl Tryd.func40 (by kernel_rfl) rfl #[.int .i64 a0, .int .i64 a1, .int .i64 a2, .int .i64 a3] rfl (by (try simp only [List.map_toArray, List.map_cons, List.map_nil]); first | done | rfl | (simp only [List.length_drop, List.length_take]; rfl)) ?_; (with_reducible refine (split_right.calls k a0 a1 a2 a3 false _ A5.out).mono ?_); rintro e w' ⟨rfl, ⟨nd, rfl⟩⟩; refine ⟨_, rfl, ?_⟩))
  go_ret2
  exact ⟨by first | rfl | (simp [errW_none, errW_some] <;> rfl) | (simp [*, errW_none, errW_some] <;> rfl), by repeat (first | (with_reducible first | exact HB.out | apply below_alloc | apply pw_below_drewN | apply below_drew1) | exact HB.out)⟩

end Go.Proofs.YtakmkhokbcjapaaDoor.XA
end

section
namespace Go.Proofs.YtakmkhokbcjapaaDoor.XA
open Go.Proofs.YtakmkhokbcjapaaDoor.Lift Go.RowKit Go.Proofs.YtakmkhokbcjapaaDoorW.PrintWords Go.Proofs.YtakmkhokbcjapaaDoorW.PrintLast Go.Proofs.YtakmkhokbcjapaaDoorW.PrintMore
attribute [local go_sem] max2_int min2_int max_two min_two max_three min_three max_four min_four   -- for this text's walks alone
set_option linter.unusedVariables false
set_option linter.unusedSimpArgs false

/-! ### swageref02_norm: function 48 -/
def swageref02_norm.l0 : Nat → Bool → List Int → Int → Option (Bool × List Int)
 | 0, _, _, _ => none
 | k + 1, x0, x1, x5 => if x5 > 0 then (if 0 ≤ (wrap64 (x5 - 1)) then (if (wrap64 (x5 - 1)) < (x1.length : Int) then (if (rd x1 (wrap64 (x5 - 1))) = 0 then (swageref02_norm.l0 k x0 x1 (wrap64 (x5 - 1))) else (if x0 = true then (if 0 ≤ x5 then (if x5 ≤ (x1.length : Int) then (some (true, (x1.take (x5 : Int).toNat))) else (none)) else (none)) else (if 0 ≤ x5 then (if x5 ≤ (x1.length : Int) then (some (false, (x1.take (x5 : Int).toNat))) else (none)) else (none)))) else (none)) else (none)) else (if x0 = true then (if 0 ≤ x5 then (if x5 ≤ (x1.length : Int) then (some (false, (x1.take (x5 : Int).toNat))) else (none)) else (none)) else (if 0 ≤ x5 then (if x5 ≤ (x1.length : Int) then (some (false, (x1.take (x5 : Int).toNat))) else (none)) else (none)))
def swageref02_norm.f (k : Nat) (a0 : Bool) (l1 : List Int) : Option (Bool × List Int) := swageref02_norm.l0 k a0 l1 (l1.length : Int)
theorem swageref02_norm.mono_l : ∀ k, (∀ y0 y1 y2, LeO (swageref02_norm.l0 k y0 y1 y2) (swageref02_norm.l0 (k + 1) y0 y1 y2))
 | 0 => fun _ _ _ r h => by simp [swageref02_norm.l0] at h
 | k + 1 => by
  have ih0 := swageref02_norm.mono_l k
  ·intro y0 y1 y2
   unfold swageref02_norm.l0
   repeat' first
   | (with_reducible exact ih0 _ _ _)
   | (with_reducible exact LeO.refl _)
   | (with_reducible exact LeO.none _)
   | (with_reducible refine LeO.ite ?_ ?_)
   | (with_reducible refine LeO.bind ?_ (fun _ => ?_))
   | exact ih0 _ _ _
   | exact LeO.none _
   | refine LeO.ite ?_ ?_
   | refine LeO.bind ?_ (fun _ => ?_)
theorem swageref02_norm.mono : ∀ a0 a1 k, LeO (swageref02_norm.f k a0 a1) (swageref02_norm.f (k + 1) a0 a1) := by
 intro a0 a1 k
 have ih0 := swageref02_norm.mono_l k
 unfold swageref02_norm.f
 repeat' first
   | (with_reducible exact ih0 _ _ _)
   | (with_reducible exact LeO.refl _)
   | (with_reducible exact LeO.none _)
   | (with_reducible refine LeO.ite ?_ ?_)
   | (with_reducible refine LeO.bind ?_ (fun _ => ?_))
   | exact ih0 _ _ _
   | exact LeO.none _
   | refine LeO.ite ?_ ?_
   | refine LeO.bind ?_ (fun _ => ?_)
set_option maxHeartbeats 8000000 in
set_option maxRecDepth 100000 in
theorem swageref02_norm.calls (k : Nat) (a0 : Bool) (P1_ : Nat → Prop) (A1 : Option Addr) (c1 : Nat) (l1 : List Int) (r1 : Bool) (r2 : List Int) (w : World) (hs1 : Kd.V (Kd.int .u32) 76 w w.heap.size (fun k_ => P1_ k_) (.slice A1 l1.length c1) l1) (h : swageref02_norm.f k a0 l1 = some (r1, r2)) :
  Calls Tryd.prog 48 #[.bool a0, .slice A1 l1.length c1] w fun e w' => ∃ v1_ : Value, e = .returned (.agg #[.bool r1, v1_]) ∧ Kd.V (Kd.int .u32) 76 w' w.heap.size (fun k_ => (P1_ k_ ∨ w.heap.size ≤ k_)) v1_ r2 ∧ Below w.heap.size w w' := by
 have hu68 := Tryd.underlying68
 have HO1 := Aside0.mk (show Kd.V (Kd.int .u32) 76 w w.heap.size (fun k_ => (P1_ k_ ∨ w.heap.size ≤ k_)) (.slice A1 l1.length c1) l1 from Kd.V_mono hs1 (fun k_ hk => .inl hk))
 have HB := Aside0.mk (Below.refl w.heap.size w)
 have H : (swageref02_norm.l0 k a0 l1 (l1.length : Int)) = some (r1, r2) := h
 clear h
 have H' := Aside0.mk H
 clear H
 go_enter Tryd.func48, Tryd.ntmps48
 go_wp2_with (first | ((with_reducible refine gate_dst (N := 4) rfl ?_); refine box_event ?hg (N := 4) ?hd (cs := #[.bool false, .slice none 0 0]) (t := 68) ?hr ?_; (case hd => rfl); (case hg => rfl); (case hr => first | (go_simp; done) | (go_simp; rfl)); intro gb164 hg w3 hbox hb; have n0_ := Aside0.mk (Kd.V_below (Kd.V_elderB (lV HO1) gb164 (Nat.le_of_eq hg.symm)) hb); have n1_ := Aside0.mk (below_step (lB HB) hb); have n2_ := Aside0.mk (hbox); have n3_ := Aside0.mk ((by rw [hg]; exact (below_size (lB HB)) : w.heap.size ≤ gb164)); have n4_ := Aside0.mk ((by rw [hg]; exact (below_size (lB HB)) : w.heap.size ≤ gb164)); clear HO1 HB; have HO1 := n0_; have HB := n1_; have BK164 := n2_; have GW164 := n3_; have GE164 := n4_; clear n0_ n1_ n2_ n3_ n4_; clear hb hbox hg))
 go_loopg [5] k (fun kq v5 w' => ∃ (x5_1 : Int), v5 = .int .i64 x5_1 ∧ Aside0 (swageref02_norm.l0 kq a0 l1 x5_1 = some (r1, r2)) ∧ Aside0 (kq ≤ k) ∧ Aside0 (Kd.V (Kd.int .u32) 76 w' w.heap.size (fun k_ => (P1_ k_ ∨ w.heap.size ≤ k_) ∧ k_ ≠ gb164) (.slice A1 l1.length c1) l1) ∧ Aside0 (w'.heap[gb164]? = some (.cells #[.bool false, (.slice none 0 0)] 68 (0, 0))) ∧ Aside0 (Below w.heap.size w w'))
 case atStart => exact ⟨((l1.length : Int)), (by first | rfl | (simp; done) | (simp [*]; done)), H', ⟨Nat.le_refl _⟩, ⟨by (with_reducible repeat (first | apply Kd.V_alloc | apply Kd.V_drewN | apply Kd.V_drew)); exact HO1.out⟩, ⟨by (with_reducible repeat (first | refine blk_drewN ?_ _ | refine blk_drew ?_ | refine blk_alloc ?_ _)); exact BK164.out⟩, ⟨by repeat (first | (with_reducible first | exact HB.out | apply below_alloc | apply pw_below_drewN | apply below_drew1 | refine below_set ?_ GE164.out) | exact HB.out)⟩⟩
 case round =>
  clear H'
  try clear c1
  obtain ⟨x5_1, rfl, HA, HK1, HO_1, BK164, HB⟩ := hrel
  cases gk with
  | zero => exact absurd HA.out (by simp [swageref02_norm.l0])
  | succ k1 =>
   have H := HA.out
   clear HA
   simp only [swageref02_norm.l0] at H
   by_cases c4 : x5_1 > 0
   ·rw [if_pos c4] at H
    have c4b0 : decide (0 < x5_1) = true := decide_eq_true c4
    clear c4
    obtain ⟨ji5, hji5⟩ : ∃ j_ : Int, (wrap64 (x5_1 - 1)) = j_ := ⟨_, rfl⟩
    replace H : (if 0 ≤ (ji5) then (if (ji5) < (l1.length : Int) then (if (rd l1 (ji5)) = 0 then (swageref02_norm.l0 k1 a0 l1 ji5) else (if a0 = true then (if 0 ≤ x5_1 then (if x5_1 ≤ (l1.length : Int) then (some (true, (l1.take (x5_1 : Int).toNat))) else (none)) else (none)) else (if 0 ≤ x5_1 then (if x5_1 ≤ (l1.length : Int) then (some (false, (l1.take (x5_1 : Int).toNat))) else (none)) else (none)))) else (none)) else (none)) = some (r1, r2) := by first | (rw [hji5] at H; exact H) | (simp only [hji5] at H ⊢; exact H)
    have hji5w : (IntKind.i64.wrap (x5_1 - 1)) = ji5 := (i64_w _).trans hji5
    by_cases c6 : 0 ≤ (ji5)
    ·rw [if_pos c6] at H
     have c6b0 : decide (0 ≤ (ji5)) = true := decide_eq_true c6
     clear c6
     by_cases c7 : (ji5) < (l1.length : Int)
     ·rw [if_pos c7] at H
      have c7b0 : decide ((ji5) < (l1.length : Int)) = true := decide_eq_true c7
      clear c7
      by_cases c8 : (rd l1 (ji5)) = 0
      ·rw [if_pos c8] at H
       have c8b0 : ((rd l1 (ji5)) == 0) = true := beq_iff_eq.mpr c8
       have c8b1 : ((rd l1 (ji5)) != 0) = false := bne_eq_false_iff_eq.mpr c8
       clear c8
       have H' := Aside0.mk H
       clear H
       have p165 : 0 ≤ ((ji5) : Int) := of_decide_eq_true (by first | (with_reducible assumption) | assumption)
       have q165 : (ji5) < (l1.length : Int) := of_decide_eq_true (by first | (with_reducible assumption) | assumption)
       obtain ⟨ad165, e165, hx165_0⟩ := Kd.at_int (Kd.V_reads' HO_1.out).2.2 (ji5) p165 q165
       cases e165
       replace p165 := eq_true p165
       replace q165 := eq_true q165
       go_wp2
       go_roundg k1
       case measure => have := HK1.out; omega
       case rel => exact ⟨(ji5), (by first | rfl | (simp; done) | (simp only [← hji5] <;> (first | rfl | simp)) | (simp [*]; done)), H', ⟨by have := HK1.out; omega⟩, ⟨by (with_reducible repeat (first | apply Kd.V_alloc | apply Kd.V_drewN | apply Kd.V_drew)); exact HO_1.out⟩, ⟨by (with_reducible repeat (first | refine blk_drewN ?_ _ | refine blk_drew ?_ | refine blk_alloc ?_ _)); exact BK164.out⟩, ⟨by repeat (first | (with_reducible first | exact HB.out | apply below_alloc | apply pw_below_drewN | apply below_drew1 | refine below_set ?_ GE164.out) | exact HB.out)⟩⟩
      ·rw [if_neg c8] at H
       have c8b0 : ((rd l1 (ji5)) == 0) = false := beq_eq_false_iff_ne.mpr c8
       have c8b1 : ((rd l1 (ji5)) != 0) = true := bne_iff_ne.mpr c8
       by_cases c9 : a0 = true
       ·subst c9
        have H1 : (if 0 ≤ x5_1 then (if x5_1 ≤ (l1.length : Int) then (some (true, (l1.take (x5_1 : Int).toNat))) else (none)) else (none)) = some (r1, r2) := by rw [if_pos rfl] at H; exact H
        clear H
        have H := H1
        clear H1
        by_cases c10 : 0 ≤ x5_1
        ·rw [if_pos c10] at H
         have c10b0 := eq_true c10
         have c10b1 : decide (0 ≤ x5_1) = true := decide_eq_true c10
         clear c10
         by_cases c11 : x5_1 ≤ (l1.length : Int)
         ·rw [if_pos c11] at H
          have c11b0 := eq_true c11
          have c11b1 : decide (x5_1 ≤ (l1.length : Int)) = true := decide_eq_true c11
          clear c11
          obtain ⟨y166, hy166⟩ : ∃ y_ : List Int, y_ = (l1.take (x5_1 : Int).toNat) := ⟨_, rfl⟩
          replace H : (some (true, y166)) = some (r1, r2) := by first | (rw [hy166]; with_reducible exact H) | (have H2_ := (Option.bind_some _ _).symm.trans H; rw [hy166]; with_reducible exact H2_) | (have H2_ := (Option.bind_some _ _).symm.trans H; with_reducible exact H2_) | with_reducible exact H | (rw [hy166]; exact H) | exact H
          have Ny166 := Aside0.mk hy166
          clear hy166
          simp only [Option.some.injEq, Prod.mk.injEq] at H
          obtain ⟨rfl, rfl⟩ := H
          have p165 : 0 ≤ ((ji5) : Int) := of_decide_eq_true (by first | (with_reducible assumption) | assumption)
          have q165 : (ji5) < (l1.length : Int) := of_decide_eq_true (by first | (with_reducible assumption) | assumption)
          obtain ⟨ad165, e165, hx165_0⟩ := Kd.at_int (Kd.V_reads' HO_1.out).2.2 (ji5) p165 q165
          cases e165
          replace p165 := eq_true p165
          replace q165 := eq_true q165
          have q12 : (x5_1 : Int) ≤ ((l1.length : Int) : Int) := of_decide_eq_true (by first | (with_reducible assumption) | assumption)
          obtain ⟨i012, hi012, _, hsz12, _⟩ := info_parts info76
          have hroom12 : l1.length ≤ c1 := (Kd.V_reads' HO_1.out).2.1
          have hC12 : Kd.F (Kd.int .u32) _ _ (some ad165) l1.length l1 := (Kd.V_at (base := w.heap.size) HO_1.out).2.2
          have hcut12 := cut_to (P := Tryd.prog) 37 76 .i64 Tryd.underlying37 hi012 (some ad165) l1.length c1 x5_1 (of_decide_eq_true (by first | (with_reducible assumption) | assumption)) q12 hroom12
          have hr12 := Kd.F_take (m := (x5_1 : Int).toNat) hC12 (by omega)
          have hy12 : y166.length = (x5_1 : Int).toNat := (by rw [Ny166.out, List.length_take]; omega)
          rw [← Ny166.out] at hr12
          rw [← hy12] at hcut12
          have HO170 := Aside0.mk (show Kd.V (Kd.int .u32) 76 _ w.heap.size _ (.slice (some ad165) y166.length c1) y166 from Kd.V_mk (by omega) hr12)
          have HC170 := Aside0.mk (show y166.length ≤ c1 from by omega)
          clear hr12 hC12 hroom12 hi012 hsz12
          have KY12 := Aside0.mk hy12
          clear hy12
          replace q12 := eq_true q12
          have hcz13_0 : wr.cell? ⟨gb164, 0, none⟩ = some (.bool false) := (blk_cell BK164.out 0).trans rfl
          have hcz13_1 : wr.cell? ⟨gb164, 1, none⟩ = some (.slice none 0 0) := (blk_cell BK164.out 1).trans rfl
          have hfz13_0 := blk_frozen BK164.out 0
          have hfz13_1 := blk_frozen BK164.out 1
          go_wp2
          refine bodyPost_ret (results_cell_row rfl _ _ gb164 68 #[.bool true, .slice (some ad165) y166.length c1] (0, 0) _ rfl (by (with_reducible repeat (first | refine blk_drewN ?_ _ | refine blk_drew ?_ | refine blk_alloc ?_ _)); refine blk_put (cs := #[.bool true, .slice none 0 0]) ?_ 1 _ rfl; (with_reducible repeat (first | refine blk_drewN ?_ _ | refine blk_drew ?_ | refine blk_alloc ?_ _)); refine blk_put (cs := #[.bool false, .slice none 0 0]) ?_ 0 _ rfl; (with_reducible repeat (first | refine blk_drewN ?_ _ | refine blk_drew ?_ | refine blk_alloc ?_ _)); exact BK164.out) Tryd.underlying68 rfl (by kernel_rfl)) rfl ?_
          exact ⟨_, by first | rfl | (simp [errW_none, errW_some] <;> rfl) | (simp only [← hji5]; first | rfl | (simp [errW_none, errW_some] <;> rfl)) | (simp [*, errW_none, errW_some] <;> rfl), by (with_reducible repeat (first | apply Kd.V_alloc | apply Kd.V_drewN | apply Kd.V_drew)); exact Kd.V_mono (Kd.V_far (p := ⟨gb164, 1, none⟩) (Kd.V_far (p := ⟨gb164, 0, none⟩) (Kd.V_mono HO170.out (fun k_ hk => (⟨hk, hk.2⟩ : _ ∧ k_ ≠ gb164))) (fun _ hk => hk.2) (.bool true)) (fun _ hk => hk.2) (.slice (some ad165) y166.length c1)) (fun _ hk => hk.1.1), by repeat (first | (with_reducible first | exact HB.out | apply below_alloc | apply pw_below_drewN | apply below_drew1 | refine below_set ?_ GE164.out) | exact HB.out)⟩
         ·rw [if_neg c11] at H
          exact absurd H (by simp)
        ·rw [if_neg c10] at H
         exact absurd H (by simp)
       ·replace c9 := Bool.eq_false_iff.mpr c9
        subst c9
        have H1 : (if 0 ≤ x5_1 then (if x5_1 ≤ (l1.length : Int) then (some (false, (l1.take (x5_1 : Int).toNat))) else (none)) else (none)) = some (r1, r2) := by rw [if_neg (show ¬ (false = true) by decide)] at H; exact H
        clear H
        have H := H1
        clear H1
        by_cases c14 : 0 ≤ x5_1
        ·rw [if_pos c14] at H
         have c14b0 := eq_true c14
         have c14b1 : decide (0 ≤ x5_1) = true := decide_eq_true c14
         clear c14
         by_cases c15 : x5_1 ≤ (l1.length : Int)
         ·rw [if_pos c15] at H
          have c15b0 := eq_true c15
          have c15b1 : decide (x5_1 ≤ (l1.length : Int)) = true := decide_eq_true c15
          clear c15
          obtain ⟨y171, hy171⟩ : ∃ y_ : List Int, y_ = (l1.take (x5_1 : Int).toNat) := ⟨_, rfl⟩
          replace H : (some (false, y171)) = some (r1, r2) := by first | (rw [hy171]; with_reducible exact H) | (have H2_ := (Option.bind_some _ _).symm.trans H; rw [hy171]; with_reducible exact H2_) | (have H2_ := (Option.bind_some _ _).symm.trans H; with_reducible exact H2_) | with_reducible exact H | (rw [hy171]; exact H) | exact H
          have Ny171 := Aside0.mk hy171
          clear hy171
          simp only [Option.some.injEq, Prod.mk.injEq] at H
          obtain ⟨rfl, rfl⟩ := H
          have p165 : 0 ≤ ((ji5) : Int) := of_decide_eq_true (by first | (with_reducible assumption) | assumption)
          have q165 : (ji5) < (l1.length : Int) := of_decide_eq_true (by first | (with_reducible assumption) | assumption)
          obtain ⟨ad165, e165, hx165_0⟩ := Kd.at_int (Kd.V_reads' HO_1.out).2.2 (ji5) p165 q165
          cases e165
          replace p165 := eq_true p165
          replace q165 := eq_true q165
          have q16 : (x5_1 : Int) ≤ ((l1.length : Int) : Int) := of_decide_eq_true (by first | (with_reducible assumption) | assumption)
          obtain ⟨i016, hi016, _, hsz16, _⟩ := info_parts info76
          have hroom16 : l1.length ≤ c1 := (Kd.V_reads' HO_1.out).2.1
          have hC16 : Kd.F (Kd.int .u32) _ _ (some ad165) l1.length l1 := (Kd.V_at (base := w.heap.size) HO_1.out).2.2
          have hcut16 := cut_to (P := Tryd.prog) 37 76 .i64 Tryd.underlying37 hi016 (some ad165) l1.length c1 x5_1 (of_decide_eq_true (by first | (with_reducible assumption) | assumption)) q16 hroom16
          have hr16 := Kd.F_take (m := (x5_1 : Int).toNat) hC16 (by omega)
          have hy16 : y171.length = (x5_1 : Int).toNat := (by rw [Ny171.out, List.length_take]; omega)
          rw [← Ny171.out] at hr16
          rw [← hy16] at hcut16
          have HO175 := Aside0.mk (show Kd.V (Kd.int .u32) 76 _ w.heap.size _ (.slice (some ad165) y171.length c1) y171 from Kd.V_mk (by omega) hr16)
          have HC175 := Aside0.mk (show y171.length ≤ c1 from by omega)
          clear hr16 hC16 hroom16 hi016 hsz16
          have KY16 := Aside0.mk hy16
          clear hy16
          replace q16 := eq_true q16
          have hcz17_0 : wr.cell? ⟨gb164, 0, none⟩ = some (.bool false) := (blk_cell BK164.out 0).trans rfl
          have hcz17_1 : wr.cell? ⟨gb164, 1, none⟩ = some (.slice none 0 0) := (blk_cell BK164.out 1).trans rfl
          have hfz17_0 := blk_frozen BK164.out 0
          have hfz17_1 := blk_frozen BK164.out 1
          go_wp2
          refine bodyPost_ret (results_cell_row rfl _ _ gb164 68 #[.bool false, .slice (some ad165) y171.length c1] (0, 0) _ rfl (by (with_reducible repeat (first | refine blk_drewN ?_ _ | refine blk_drew ?_ | refine blk_alloc ?_ _)); refine blk_put (cs := #[.bool false, .slice none 0 0]) ?_ 1 _ rfl; (with_reducible repeat (first | refine blk_drewN ?_ _ | refine blk_drew ?_ | refine blk_alloc ?_ _)); refine blk_put (cs := #[.bool false, .slice none 0 0]) ?_ 0 _ rfl; (with_reducible repeat (first | refine blk_drewN ?_ _ | refine blk_drew ?_ | refine blk_alloc ?_ _)); exact BK164.out) Tryd.underlying68 rfl (by kernel_rfl)) rfl ?_
          exact ⟨_, by first | rfl | (simp [errW_none, errW_some] <;> rfl) | (simp only [← hji5]; first | rfl | (simp [errW_none, errW_some] <;> rfl)) | (simp [*, errW_none, errW_some] <;> rfl), by (with_reducible repeat (first | apply Kd.V_alloc | apply Kd.V_drewN | apply Kd.V_drew)); exact Kd.V_mono (Kd.V_far (p := ⟨gb164, 1, none⟩) (Kd.V_far (p := ⟨gb164, 0, none⟩) (Kd.V_mono HO175.out (fun k_ hk => (⟨hk, hk.2⟩ : _ ∧ k_ ≠ gb164))) (fun _ hk => hk.2) (.bool false)) (fun _ hk => hk.2) (.slice (some ad165) y171.length c1)) (fun _ hk => hk.1.1), by repeat (first | (with_reducible first | exact HB.out | apply below_alloc | apply pw_below_drewN | apply below_drew1 | refine below_set ?_ GE164.out) | exact HB.out)⟩
         ·rw [if_neg c15] at H
          exact absurd H (by simp)
        ·rw [if_neg c14] at H
         exact absurd H (by simp)
     ·rw [if_neg c7] at H
      exact absurd H (by simp)
    ·rw [if_neg c6] at H
     exact absurd H (by simp)
   ·rw [if_neg c4] at H
    have c4b0 : decide (0 < x5_1) = false := decide_eq_false c4
    clear c4
    by_cases c18 : a0 = true
    ·subst c18
     have H1 : (if 0 ≤ x5_1 then (if x5_1 ≤ (l1.length : Int) then (some (false, (l1.take (x5_1 : Int).toNat))) else (none)) else (none)) = some (r1, r2) := by rw [if_pos rfl] at H; exact H
     clear H
     have H := H1
     clear H1
     by_cases c19 : 0 ≤ x5_1
     ·rw [if_pos c19] at H
      have c19b0 := eq_true c19
      have c19b1 : decide (0 ≤ x5_1) = true := decide_eq_true c19
      clear c19
      by_cases c20 : x5_1 ≤ (l1.length : Int)
      ·rw [if_pos c20] at H
       have c20b0 := eq_true c20
       have c20b1 : decide (x5_1 ≤ (l1.length : Int)) = true := decide_eq_true c20
       clear c20
       obtain ⟨y176, hy176⟩ : ∃ y_ : List Int, y_ = (l1.take (x5_1 : Int).toNat) := ⟨_, rfl⟩
       replace H : (some (false, y176)) = some (r1, r2) := by first | (rw [hy176]; with_reducible exact H) | (have H2_ := (Option.bind_some _ _).symm.trans H; rw [hy176]; with_reducible exact H2_) | (have H2_ := (Option.bind_some _ _).symm.trans H; with_reducible exact H2_) | with_reducible exact H | (rw [hy176]; exact H) | exact H
       have Ny176 := Aside0.mk hy176
       clear hy176
       simp only [Option.some.injEq, Prod.mk.injEq] at H
       obtain ⟨rfl, rfl⟩ := H
       have q21 : (x5_1 : Int) ≤ ((l1.length : Int) : Int) := of_decide_eq_true (by first | (with_reducible assumption) | assumption)
       obtain ⟨i021, hi021, _, hsz21, _⟩ := info_parts info76
       have hroom21 : l1.length ≤ c1 := (Kd.V_reads' HO_1.out).2.1
       have hC21 : Kd.F (Kd.int .u32) _ _ A1 l1.length l1 := (Kd.V_at (base := w.heap.size) HO_1.out).2.2
       have hcut21 := cut_to (P := Tryd.prog) 37 76 .i64 Tryd.underlying37 hi021 A1 l1.length c1 x5_1 (of_decide_eq_true (by first | (with_reducible assumption) | assumption)) q21 hroom21
       have hr21 := Kd.F_take (m := (x5_1 : Int).toNat) hC21 (by omega)
       have hy21 : y176.length = (x5_1 : Int).toNat := (by rw [Ny176.out, List.length_take]; omega)
       rw [← Ny176.out] at hr21
       rw [← hy21] at hcut21
       have HO180 := Aside0.mk (show Kd.V (Kd.int .u32) 76 _ w.heap.size _ (.slice A1 y176.length c1) y176 from Kd.V_mk (by omega) hr21)
       have HC180 := Aside0.mk (show y176.length ≤ c1 from by omega)
       clear hr21 hC21 hroom21 hi021 hsz21
       have KY21 := Aside0.mk hy21
       clear hy21
       replace q21 := eq_true q21
       have hcz22_0 : wr.cell? ⟨gb164, 0, none⟩ = some (.bool false) := (blk_cell BK164.out 0).trans rfl
       have hcz22_1 : wr.cell? ⟨gb164, 1, none⟩ = some (.slice none 0 0) := (blk_cell BK164.out 1).trans rfl
       have hfz22_0 := blk_frozen BK164.out 0
       have hfz22_1 := blk_frozen BK164.out 1
       go_wp2
       refine bodyPost_ret (results_cell_row rfl _ _ gb164 68 #[.bool false, .slice A1 y176.length c1] (0, 0) _ rfl (by (with_reducible repeat (first | refine blk_drewN ?_ _ | refine blk_drew ?_ | refine blk_alloc ?_ _)); refine blk_put (cs := #[.bool false, .slice none 0 0]) ?_ 1 _ rfl; (with_reducible repeat (first | refine blk_drewN ?_ _ | refine blk_drew ?_ | refine blk_alloc ?_ _)); refine blk_put (cs := #[.bool false, .slice none 0 0]) ?_ 0 _ rfl; (with_reducible repeat (first | refine blk_drewN ?_ _ | refine blk_drew ?_ | refine blk_alloc ?_ _)); exact BK164.out) Tryd.underlying68 rfl (by kernel_rfl)) rfl ?_
       exact ⟨_, by first | rfl | (simp [errW_none, errW_some] <;> rfl) | (simp [*, errW_none, errW_some] <;> rfl), by (with_reducible repeat (first | apply Kd.V_alloc | apply Kd.V_drewN | apply Kd.V_drew)); exact Kd.V_mono (Kd.V_far (p := ⟨gb164, 1, none⟩) (Kd.V_far (p := ⟨gb164, 0, none⟩) (Kd.V_mono HO180.out (fun k_ hk => (⟨hk, hk.2⟩ : _ ∧ k_ ≠ gb164))) (fun _ hk => hk.2) (.bool false)) (fun _ hk => hk.2) (.slice A1 y176.length c1)) (fun _ hk => hk.1.1), by repeat (first | (with_reducible first | exact HB.out | apply below_alloc | apply pw_below_drewN | apply below_drew1 | refine below_set ?_ GE164.out) | exact HB.out)⟩
      ·rw [if_neg c20] at H
       exact absurd H (by simp)
     ·rw [if_neg c19] at H
      exact absurd H (by simp)
    ·replace c18 := Bool.eq_false_iff.mpr c18
     subst c18
     have H1 : (if 0 ≤ x5_1 then (if x5_1 ≤ (l1.length : Int) then (some (false, (l1.take (x5_1 : Int).toNat))) else (none)) else (none)) = some (r1, r2) := by rw [if_neg (show ¬ (false = true) by decide)] at H; exact H
     clear H
     have H := H1
     clear H1
     by_cases c23 : 0 ≤ x5_1
     ·rw [if_pos c23] at H
      have c23b0 := eq_true c23
      have c23b1 : decide (0 ≤ x5_1) = true := decide_eq_true c23
      clear c23
      by_cases c24 : x5_1 ≤ (l1.length : Int)
      ·rw [if_pos c24] at H
       have c24b0 := eq_true c24
       have c24b1 : decide (x5_1 ≤ (l1.length : Int)) = true := decide_eq_true c24
       clear c24
       obtain ⟨y181, hy181⟩ : ∃ y_ : List Int, y_ = (l1.take (x5_1 : Int).toNat) := ⟨_, rfl⟩
       replace H : (some (false, y181)) = some (r1, r2) := by first | (rw [hy181]; with_reducible exact H) | (have H2_ := (Option.bind_some _ _).symm.trans H; rw [hy181]; with_reducible exact H2_) | (have H2_ := (Option.bind_some _ _).symm.trans H; with_reducible exact H2_) | with_reducible exact H | (rw [hy181]; exact H) | exact H
       have Ny181 := Aside0.mk hy181
       clear hy181
       simp only [Option.some.injEq, Prod.mk.injEq] at H
       obtain ⟨rfl, rfl⟩ := H
       have q25 : (x5_1 : Int) ≤ ((l1.length : Int) : Int) := of_decide_eq_true (by first | (with_reducible assumption) | assumption)
       obtain ⟨i025, hi025, _, hsz25, _⟩ := info_parts info76
       have hroom25 : l1.length ≤ c1 := (Kd.V_reads' HO_1.out).2.1
       have hC25 : Kd.F (Kd.int .u32) _ _ A1 l1.length l1 := (Kd.V_at (base := w.heap.size) HO_1.out).2.2
       have hcut25 := cut_to (P := Tryd.prog) 37 76 .i64 Tryd.underlying37 hi025 A1 l1.length c1 x5_1 (of_decide_eq_true (by first | (with_reducible assumption) | assumption)) q25 hroom25
       have hr25 := Kd.F_take (m := (x5_1 : Int).toNat) hC25 (by omega)
       have hy25 : y181.length = (x5_1 : Int).toNat := (by rw [Ny181.out, List.length_take]; omega)
       rw [← Ny181.out] at hr25
       rw [← hy25] at hcut25
       have HO185 := Aside0.mk (show Kd.V (Kd.int .u32) 76 _ w.heap.size _ (.slice A1 y181.length c1) y181 from Kd.V_mk (by omega) hr25)
       have HC185 := Aside0.mk (show y181.length ≤ c1 from by omega)
       clear hr25 hC25 hroom25 hi025 hsz25
       have KY25 := Aside0.mk hy25
       clear hy25
       replace q25 := eq_true q25
       have hcz26_0 : wr.cell? ⟨gb164, 0, none⟩ = some (.bool false) := (blk_cell BK164.out 0).trans rfl
       have hcz26_1 : wr.cell? ⟨gb164, 1, none⟩ = some (.slice none 0 0) := (blk_cell BK164.out 1).trans rfl
       have hfz26_0 := blk_frozen BK164.out 0
       have hfz26_1 := blk_frozen BK164.out 1
       go_wp2
       refine bodyPost_ret (results_cell_row rfl _ _ gb164 68 #[.bool false, .slice A1 y181.length c1] (0, 0) _ rfl (by (with_reducible repeat (first | refine blk_drewN ?_ _ | refine blk_drew ?_ | refine blk_alloc ?_ _)); refine blk_put (cs := #[.bool false, .slice none 0 0]) ?_ 1 _ rfl; (with_reducible repeat (first | refine blk_drewN ?_ _ | refine blk_drew ?_ | refine blk_alloc ?_ _)); refine blk_put (cs := #[.bool false, .slice none 0 0]) ?_ 0 _ rfl; (with_reducible repeat (first | refine blk_drewN ?_ _ | refine blk_drew ?_ | refine blk_alloc ?_ _)); exact BK164.out) Tryd.underlying68 rfl (by kernel_rfl)) rfl ?_
       exact ⟨_, by first | rfl | (simp [errW_none, errW_some] <;> rfl) | (simp [*, errW_none, errW_some] <;> rfl), by (with_reducible repeat (first | apply Kd.V_alloc | apply Kd.V_drewN | apply Kd.V_drew)); exact Kd.V_mono (Kd.V_far (p := ⟨gb164, 1, none⟩) (Kd.V_far (p := ⟨gb164, 0, none⟩) (Kd.V_mono HO185.out (fun k_ hk => (⟨hk, hk.2⟩ : _ ∧ k_ ≠ gb164))) (fun _ hk => hk.2) (.bool false)) (fun _ hk => hk.2) (.slice A1 y181.length c1)) (fun _ hk => hk.1.1), by repeat (first | (with_reducible first | exact HB.out | apply below_alloc | apply pw_below_drewN | apply below_drew1 | refine below_set ?_ GE164.out) | exact HB.out)⟩
      ·rw [if_neg c24] at H
       exact absurd H (by simp)
     ·rw [if_neg c23] at H
      exact absurd H (by simp)

end Go.Proofs.YtakmkhokbcjapaaDoor.XA
end

section
namespace Go.Proofs.YtakmkhokbcjapaaDoor.XA
open Go.Proofs.YtakmkhokbcjapaaDoor.Lift Go.RowKit Go.Proofs.YtakmkhokbcjapaaDoorW.PrintWords Go.Proofs.YtakmkhokbcjapaaDoorW.PrintLast Go.Proofs.YtakmkhokbcjapaaDoorW.PrintMore
attribute [local go_sem] max2_int min2_int max_two min_two max_three min_three max_four min_four   -- for this text's walks alone
set_option linter.unusedVariables false
set_option linter.unusedSimpArgs false

/-! ### swageref02_Of: function 30 -/
mutual
def swageref02_Of.j0 : Nat → Int → Int → Option (Bool × List Int)
 | 0, _, _ => none
 | k + 1, x0, x3 => swageref02_Of.l0 k x0 x3 ([] : List Int)
def swageref02_Of.l0 : Nat → Int → Int → List Int → Option (Bool × List Int)
 | 0, _, _, _ => none
 | k + 1, x0, x3, x4 => if x3 > 0 then (if x4.length < 35184372088832 then (swageref02_Of.l0 k x0 (IntKind.u64.wrap (Int.tdiv x3 65536)) (x4 ++ [(Int.tmod x3 65536) % 4294967296])) else (none)) else ((swageref02_norm.f k (decide (x0 < 0)) x4).bind fun bt190 => (some (bt190.1, bt190.2)))
end
def swageref02_Of.f (k : Nat) (a0 : Int) : Option (Bool × List Int) := if a0 < 0 then (swageref02_Of.j0 k a0 (IntKind.u64.wrap (-(IntKind.u64.wrap (a0))))) else (swageref02_Of.j0 k a0 (IntKind.u64.wrap (a0)))
theorem swageref02_Of.mono_l : ∀ k, (∀ y0 y1, LeO (swageref02_Of.j0 k y0 y1) (swageref02_Of.j0 (k + 1) y0 y1)) ∧ (∀ y0 y1 y2, LeO (swageref02_Of.l0 k y0 y1 y2) (swageref02_Of.l0 (k + 1) y0 y1 y2))
 | 0 => ⟨fun _ _ r h => by simp [swageref02_Of.j0] at h, fun _ _ _ r h => by simp [swageref02_Of.l0] at h⟩
 | k + 1 => by
  obtain ⟨ih0, ih1⟩ := swageref02_Of.mono_l k
  refine ⟨?_, ?_⟩
  ·intro y0 y1
   unfold swageref02_Of.j0
   repeat' first
   | (with_reducible exact ih0 _ _)
   | (with_reducible exact ih1 _ _ _)
   | (with_reducible exact swageref02_norm.mono _ _ _)
   | (with_reducible exact LeO.refl _)
   | (with_reducible exact LeO.none _)
   | (with_reducible refine LeO.ite ?_ ?_)
   | (with_reducible refine LeO.bind ?_ (fun _ => ?_))
   | exact ih0 _ _
   | exact ih1 _ _ _
   | exact swageref02_norm.mono _ _ _
   | exact LeO.none _
   | refine LeO.ite ?_ ?_
   | refine LeO.bind ?_ (fun _ => ?_)
  ·intro y0 y1 y2
   unfold swageref02_Of.l0
   repeat' first
   | (with_reducible exact ih0 _ _)
   | (with_reducible exact ih1 _ _ _)
   | (with_reducible exact swageref02_norm.mono _ _ _)
   | (with_reducible exact LeO.refl _)
   | (with_reducible exact LeO.none _)
   | (with_reducible refine LeO.ite ?_ ?_)
   | (with_reducible refine LeO.bind ?_ (fun _ => ?_))
   | exact ih0 _ _
   | exact ih1 _ _ _
   | exact swageref02_norm.mono _ _ _
   | exact LeO.none _
   | refine LeO.ite ?_ ?_
   | refine LeO.bind ?_ (fun _ => ?_)
theorem swageref02_Of.mono : ∀ a0 k, LeO (swageref02_Of.f k a0) (swageref02_Of.f (k + 1) a0) := by
 intro a0 k
 obtain ⟨ih0, ih1⟩ := swageref02_Of.mono_l k
 unfold swageref02_Of.f
 repeat' first
   | (with_reducible exact ih0 _ _)
   | (with_reducible exact ih1 _ _ _)
   | (with_reducible exact swageref02_norm.mono _ _ _)
   | (with_reducible exact LeO.refl _)
   | (with_reducible exact LeO.none _)
   | (with_reducible refine LeO.ite ?_ ?_)
   | (with_reducible refine LeO.bind ?_ (fun _ => ?_))
   | exact ih0 _ _
   | exact ih1 _ _ _
   | exact swageref02_norm.mono _ _ _
   | exact LeO.none _
   | refine LeO.ite ?_ ?_
   | refine LeO.bind ?_ (fun _ => ?_)
set_option maxHeartbeats 8000000 in
set_option maxRecDepth 100000 in
theorem swageref02_Of.calls (k : Nat) (a0 : Int) (r1 : Bool) (r2 : List Int) (w : World) (h : swageref02_Of.f k a0 = some (r1, r2)) :
  Calls Tryd.prog 30 #[.int .i64 a0] w fun e w' => ∃ v1_ : Value, e = .returned (.agg #[.bool r1, v1_]) ∧ Kd.V (Kd.int .u32) 76 w' w.heap.size (fun k_ => (w.heap.size ≤ k_)) v1_ r2 ∧ Below w.heap.size w w' := by
 have hu68 := Tryd.underlying68
 have HB := Aside0.mk (Below.refl w.heap.size w)
 have H : (if a0 < 0 then (swageref02_Of.j0 k a0 (IntKind.u64.wrap (-(IntKind.u64.wrap (a0))))) else (swageref02_Of.j0 k a0 (IntKind.u64.wrap (a0)))) = some (r1, r2) := h
 clear h
 have HC2 := Aside0.mk H
 clear H
 go_enter Tryd.func30, Tryd.ntmps30
 go_upto_if 8 with (first | ((with_reducible refine gate_dst (N := 2) rfl ?_); refine box_event ?hg (N := 2) ?hd (cs := #[.bool false, .slice none 0 0]) (t := 68) ?hr ?_; (case hd => rfl); (case hg => rfl); (case hr => first | (go_simp; done) | (go_simp; rfl)); intro gb186 hg w3 hbox hb; have n0_ := Aside0.mk (below_step (lB HB) hb); have n1_ := Aside0.mk (hbox); have n2_ := Aside0.mk ((by rw [hg]; exact (below_size (lB HB)) : w.heap.size ≤ gb186)); have n3_ := Aside0.mk ((by rw [hg]; exact (below_size (lB HB)) : w.heap.size ≤ gb186)); clear HB; have HB := n0_; have BK186 := n1_; have GW186 := n2_; have GE186 := n3_; clear n0_ n1_ n2_ n3_; clear hb hbox hg))
 (try simp only [Act.put, List.setIfInBounds_toArray, List.set_cons_zero, List.set_cons_succ])
 go_cut [3] (fun v3 wc => ∃ (kq : Nat) (x3_1 : Int), v3 = .int .u64 x3_1 ∧ Aside0 (swageref02_Of.j0 kq a0 x3_1 = some (r1, r2)) ∧ Aside0 (kq ≤ k) ∧ Aside0 (wc.heap[gb186]? = some (.cells #[.bool false, (.slice none 0 0)] 68 (0, 0))) ∧ Aside0 (Below w.heap.size w wc))
 case first =>
  have H := HC2.out
  clear HC2
  by_cases c4 : a0 < 0
  ·rw [if_pos c4] at H
   have c4b0 : decide (a0 < 0) = true := decide_eq_true c4
   clear c4
   (first | rw [c4b0] | (simp only [i64_w, i32_w]; rw [c4b0]) | skip)
   have H' := Aside0.mk H
   clear H
   go_wp2
   go_meet
   case rel => exact ⟨_, (IntKind.u64.wrap (-(IntKind.u64.wrap (a0)))), (by first | rfl | (simp; done) | (simp [*]; done)), H', ⟨by first | omega | exact Nat.le_refl _⟩, ⟨by (with_reducible repeat (first | refine blk_drewN ?_ _ | refine blk_drew ?_ | refine blk_alloc ?_ _)); exact BK186.out⟩, ⟨by repeat (first | (with_reducible first | exact HB.out | apply below_alloc | apply pw_below_drewN | apply below_drew1 | refine below_set ?_ GE186.out) | exact HB.out)⟩⟩
  ·rw [if_neg c4] at H
   have c4b0 : decide (a0 < 0) = false := decide_eq_false c4
   clear c4
   (first | rw [c4b0] | (simp only [i64_w, i32_w]; rw [c4b0]) | skip)
   have H' := Aside0.mk H
   clear H
   go_wp2
   go_meet
   case rel => exact ⟨_, (IntKind.u64.wrap (a0)), (by first | rfl | (simp; done) | (simp [*]; done)), H', ⟨by first | omega | exact Nat.le_refl _⟩, ⟨by (with_reducible repeat (first | refine blk_drewN ?_ _ | refine blk_drew ?_ | refine blk_alloc ?_ _)); exact BK186.out⟩, ⟨by repeat (first | (with_reducible first | exact HB.out | apply below_alloc | apply pw_below_drewN | apply below_drew1 | refine below_set ?_ GE186.out) | exact HB.out)⟩⟩
 case rest =>
  clear HC2
  obtain ⟨kq, x3_1, rfl, HA, HJ1, BK186, HB⟩ := hcut
  cases kq with
  | zero => exact absurd HA.out (by simp [swageref02_Of.j0])
  | succ kj1 =>
   have H := HA.out
   clear HA
   simp only [swageref02_Of.j0] at H
   have H' := Aside0.mk H
   clear H
   go_wp2
   go_loopg [3, 4] kj1 (fun kq v3 v4 w' => ∃ (x3_2 : Int) (x4_2 : List Int), v3 = .int .u64 x3_2 ∧ Aside0 (swageref02_Of.l0 kq a0 x3_2 x4_2 = some (r1, r2)) ∧ Aside0 (kq ≤ kj1) ∧ Aside0 (Kd.R (Kd.int .u32) 76 w' w.heap.size (fun k_ => (w.heap.size ≤ k_)) v4 x4_2) ∧ Aside0 (w'.heap[gb186]? = some (.cells #[.bool false, (.slice none 0 0)] 68 (0, 0))) ∧ Aside0 (Below w.heap.size w w'))
   case atStart => exact ⟨(x3_1), (([] : List Int)), (by first | rfl | (simp; done) | (simp [*]; done)), H', ⟨Nat.le_refl _⟩, ⟨by first | exact Kd.R_nil _ _ _ _ _ | exact Kd.N_nil _ _ _ _ _ | exact Kd.V_nil _ _ _ _ _ | exact Kd.Q_nil _ _ _ _ _ | exact Kd.S_nil _ _ _ _ _⟩, ⟨by (with_reducible repeat (first | refine blk_drewN ?_ _ | refine blk_drew ?_ | refine blk_alloc ?_ _)); exact BK186.out⟩, ⟨by repeat (first | (with_reducible first | exact HB.out | apply below_alloc | apply pw_below_drewN | apply below_drew1 | refine below_set ?_ GE186.out) | exact HB.out)⟩⟩
   case round =>
    clear H'
    obtain ⟨x3_2, x4_2, rfl, HA, HK2, HO_4, BK186, HB⟩ := hrel
    cases gk with
    | zero => exact absurd HA.out (by simp [swageref02_Of.l0])
    | succ k2 =>
     have H := HA.out
     clear HA
     simp only [swageref02_Of.l0] at H
     by_cases c5 : x3_2 > 0
     ·rw [if_pos c5] at H
      have c5b0 : decide (0 < x3_2) = true := decide_eq_true c5
      clear c5
      by_cases c6 : x4_2.length < 35184372088832
      ·rw [if_pos c6] at H
       have LMc6 := Aside0.mk c6
       clear c6
       obtain ⟨y187, hy187⟩ : ∃ y_ : List Int, y_ = (x4_2 ++ [(Int.tmod x3_2 65536) % 4294967296]) := ⟨_, rfl⟩
       replace H : (swageref02_Of.l0 k2 a0 (IntKind.u64.wrap (Int.tdiv x3_2 65536)) y187) = some (r1, r2) := by first | (rw [hy187]; with_reducible exact H) | (have H2_ := (Option.bind_some _ _).symm.trans H; rw [hy187]; with_reducible exact H2_) | (have H2_ := (Option.bind_some _ _).symm.trans H; with_reducible exact H2_) | with_reducible exact H | (rw [hy187]; exact H) | exact H
       have Ny187 := Aside0.mk hy187
       clear hy187
       have H' := Aside0.mk H
       clear H
       go_wp2_with (first | ((with_reducible refine gate_builtin (b := .append) (xs := #[.tmp 13, .tmp 17]) rfl ?_); at_builtin; refine Kd.R_append (Kd.int .u32) (w0 := w) w.heap.size rfl (.tmp 13) (.tmp 17) 37 76 (.int .u32 0) 4 rfl Tryd.underlying37 info76 rfl (by decide) (by omega) u4 x4_2 ((Int.tmod x3_2 65536) % 4294967296) [.int .u32 ((Int.tmod x3_2 65536) % 4294967296)] (fun k_ => (w.heap.size ≤ k_)) (fun _ => False) rfl rfl ?aP (fun _ hk => hk.elim) ?aF ?aO ?aB ?aS ?aL ?_; (case aP => exact rfl); (case aB => exact (by repeat (first | (with_reducible first | exact HB.out | apply below_alloc | apply pw_below_drewN | apply below_drew1 | refine below_set ?_ GE186.out) | exact HB.out))); (case aF => exact (fun k_ hk => (Nat.le_trans (below_size (by repeat (first | (with_reducible first | exact HB.out | apply below_alloc | apply pw_below_drewN | apply below_drew1 | refine below_set ?_ GE186.out) | exact HB.out))) hk))); (case aO => exact (lR HO_4)); (case aS => exact (below_size (by repeat (first | (with_reducible first | exact HB.out | apply below_alloc | apply pw_below_drewN | apply below_drew1 | refine below_set ?_ GE186.out) | exact HB.out)))); (case aL => have := LMc6.out; omega); intro v188 w7 ho hb hg hat; rw [← Ny187.out] at ho; have n0_ := Aside0.mk (blk_grown (g := gb186) (o := .cells #[.bool false, .slice none 0 0] 68 (0, 0)) (lK BK186) hg (Kd.R_ne HO_4.out BK186.out (by decide))); have n1_ := Aside0.mk (hb); have n2_ := Aside0.mk (ho); clear BK186; clear HB HO_4; have BK186 := n0_; have HB := n1_; have HO189 := n2_; clear n0_ n1_ n2_; clear ho hb hg hat))
       go_roundg k2
       case measure => have := HJ1.out; have := HK2.out; omega
       case rel => exact ⟨(IntKind.u64.wrap (Int.tdiv x3_2 65536)), (y187), (by first | rfl | (simp; done) | (simp [*]; done)), H', ⟨by have := HJ1.out; have := HK2.out; omega⟩, ⟨by (with_reducible repeat (first | apply Kd.R_alloc | apply Kd.R_drewN | apply Kd.R_drew)); exact HO189.out⟩, ⟨by (with_reducible repeat (first | refine blk_drewN ?_ _ | refine blk_drew ?_ | refine blk_alloc ?_ _)); exact BK186.out⟩, ⟨by repeat (first | (with_reducible first | exact HB.out | apply below_alloc | apply pw_below_drewN | apply below_drew1 | refine below_set ?_ GE186.out) | exact HB.out)⟩⟩
      ·rw [if_neg c6] at H
       exact absurd H (by simp)
     ·rw [if_neg c5] at H
      have c5b0 : decide (0 < x3_2) = false := decide_eq_false c5
      clear c5
      replace H := Option.bind_eq_some_iff.mp H
      obtain ⟨⟨t190, t191⟩, A80, H⟩ := H
      replace H : (some (t190, t191)) = some (r1, r2) := H
      have A8 := Aside0.mk A80
      clear A80
      simp only [Option.some.injEq, Prod.mk.injEq] at H
      obtain ⟨rfl, rfl⟩ := H
      obtain ⟨Ao9, co9, eo9⟩ := Kd.R_slice HO_4.out
      subst eo9
      go_wp2_with (first | ((with_reducible refine gate_callee (f := 48) rfl ?_); refine goesL_ (some 24) rfl rfl Tryd.func48 (by kernel_rfl) rfl #[.bool (decide (a0 < 0)), .slice Ao9 x4_2.length co9] rfl (by (try simp only [List.map_toArray, List.map_cons, List.map_nil]); first | done | rfl | (simp only [List.length_drop, List.length_take]; rfl)) ?_; (with_reducible refine (swageref02_norm.calls k2 (decide (a0 < 0)) (fun k_ => some k_ = (.slice Ao9 x4_2.length co9 : Value).ownBlock) _ _ x4_2 t190 t191 _ ?side1 A8.out).mono ?_); (case side1 => exact Kd.R_V (Kd.R_tight rfl (Kd.R_types (HO_4.out) BK186.out (by decide)))); rintro e w10 ⟨v192, rfl, ho0, hb⟩; refine ⟨_, rfl, ?_⟩; have n0_ := Aside0.mk (Kd.R_below (lR HO_4) hb); have n1_ := Aside0.mk (Kd.V_lower (Kd.V_mono (ok' := fun k_ => (w.heap.size ≤ k_) ∧ k_ ≠ gb186) ho0 (fun k_ hk_ => ⟨Or.elim hk_ (fun hs_ => ((Kd.R_types (HO_4.out) BK186.out (by decide)).1 k_ hs_.symm).1) (fun hn_ => (Nat.le_trans (below_size (by repeat (first | (with_reducible first | exact HB.out | apply below_alloc | apply pw_below_drewN | apply below_drew1 | refine below_set ?_ GE186.out) | exact HB.out))) hn_)), Or.elim hk_ (fun hs_ => ((Kd.R_types (HO_4.out) BK186.out (by decide)).1 k_ hs_.symm).2) (fun hn_ => (Kd.freshB (g := gb186) (o := .cells #[.bool false, .slice none 0 0] 68 (0, 0)) (lK BK186) k_ hn_))⟩)) (below_size (by repeat (first | (with_reducible first | exact HB.out | apply below_alloc | apply pw_below_drewN | apply below_drew1 | refine below_set ?_ GE186.out) | exact HB.out)))); have n2_ := Aside0.mk (blk_below (g := gb186) (o := .cells #[.bool false, .slice none 0 0] 68 (0, 0)) (lK BK186) hb); have n3_ := Aside0.mk (below_step (by repeat (first | (with_reducible first | exact HB.out | apply below_alloc | apply pw_below_drewN | apply below_drew1 | refine below_set ?_ GE186.out) | exact HB.out)) hb); clear HO_4; clear BK186; clear HB; have HO_4 := n0_; have HO193 := n1_; have BK186 := n2_; have HB := n3_; clear n0_ n1_ n2_ n3_; (try clear hb); (try clear hb2); (try clear hk); (try clear hi); (try clear ho0); have hcz11_0 : w10.cell? ⟨gb186, 0, none⟩ = some (.bool false) := (blk_cell BK186.out 0).trans rfl; have hcz11_1 : w10.cell? ⟨gb186, 1, none⟩ = some (.slice none 0 0) := (blk_cell BK186.out 1).trans rfl; have hfz11_0 := blk_frozen BK186.out 0; have hfz11_1 := blk_frozen BK186.out 1; obtain ⟨Ao12, co12, eo12⟩ := Kd.V_slice HO193.out; subst eo12))
      refine bodyPost_ret (results_cell_row rfl _ _ gb186 68 #[.bool t190, .slice Ao12 t191.length co12] (0, 0) _ rfl (by (with_reducible repeat (first | refine blk_drewN ?_ _ | refine blk_drew ?_ | refine blk_alloc ?_ _)); refine blk_put (cs := #[.bool t190, .slice none 0 0]) ?_ 1 _ rfl; (with_reducible repeat (first | refine blk_drewN ?_ _ | refine blk_drew ?_ | refine blk_alloc ?_ _)); refine blk_put (cs := #[.bool false, .slice none 0 0]) ?_ 0 _ rfl; (with_reducible repeat (first | refine blk_drewN ?_ _ | refine blk_drew ?_ | refine blk_alloc ?_ _)); exact BK186.out) Tryd.underlying68 rfl (by kernel_rfl)) rfl ?_
      exact ⟨_, by first | rfl | (simp [errW_none, errW_some] <;> rfl) | (simp [*, errW_none, errW_some] <;> rfl), by (with_reducible repeat (first | apply Kd.V_alloc | apply Kd.V_drewN | apply Kd.V_drew)); exact Kd.V_mono (Kd.V_far (p := ⟨gb186, 1, none⟩) (Kd.V_far (p := ⟨gb186, 0, none⟩) (Kd.V_mono HO193.out (fun k_ hk => (⟨hk, hk.2⟩ : _ ∧ k_ ≠ gb186))) (fun _ hk => hk.2) (.bool t190)) (fun _ hk => hk.2) (.slice Ao12 t191.length co12)) (fun _ hk => hk.1.1), by repeat (first | (with_reducible first | exact HB.out | apply below_alloc | apply pw_below_drewN | apply below_drew1 | refine below_set ?_ GE186.out) | exact HB.out)⟩

end Go.Proofs.YtakmkhokbcjapaaDoor.XA
end

section
namespace Go.Proofs.YtakmkhokbcjapaaDoor.XA
open Go.Proofs.YtakmkhokbcjapaaDoor.Lift Go.RowKit Go.Proofs.YtakmkhokbcjapaaDoorW.PrintWords Go.Proofs.YtakmkhokbcjapaaDoorW.PrintLast Go.Proofs.YtakmkhokbcjapaaDoorW.PrintMore
attribute [local go_sem] max2_int min2_int max_two min_two max_three min_three max_four min_four   -- for this text's walks alone
set_option linter.unusedVariables false
set_option linter.unusedSimpArgs false

/-! ### swagelaw21_ref: function 15 -/
def swagelaw21_ref.l0 : Nat → List (S68) → List Int → Int → Int → Option ((List (S68)))
 | 0, _, _, _, _ => none
 | k + 1, x3, x6, x7, x8 => if x8 < x7 then (if 0 ≤ x8 then (if x8 < (x6.length : Int) then ((swageref02_Of.f k (rd x6 x8)).bind fun bt195 => (if x3.length < 4398046511104 then (swagelaw21_ref.l0 k (x3 ++ [(⟨bt195.1, bt195.2⟩ : S68)]) x6 x7 (wrap64 (x8 + 1))) else (none))) else (none)) else (none)) else (some x3)
def swagelaw21_ref.f (k : Nat) (l0 : List Int) : Option ((List (S68))) := swagelaw21_ref.l0 k ([] : List (S68)) l0 (l0.length : Int) 0
theorem swagelaw21_ref.mono_l : ∀ k, (∀ y0 y1 y2 y3, LeO (swagelaw21_ref.l0 k y0 y1 y2 y3) (swagelaw21_ref.l0 (k + 1) y0 y1 y2 y3))
 | 0 => fun _ _ _ _ r h => by simp [swagelaw21_ref.l0] at h
 | k + 1 => by
  have ih0 := swagelaw21_ref.mono_l k
  ·intro y0 y1 y2 y3
   unfold swagelaw21_ref.l0
   repeat' first
   | (with_reducible exact ih0 _ _ _ _)
   | (with_reducible exact swageref02_Of.mono _ _)
   | (with_reducible exact LeO.refl _)
   | (with_reducible exact LeO.none _)
   | (with_reducible refine LeO.ite ?_ ?_)
   | (with_reducible refine LeO.bind ?_ (fun _ => ?_))
   | exact ih0 _ _ _ _
   | exact swageref02_Of.mono _ _
   | exact LeO.none _
   | refine LeO.ite ?_ ?_
   | refine LeO.bind ?_ (fun _ => ?_)
theorem swagelaw21_ref.mono : ∀ a0 k, LeO (swagelaw21_ref.f k a0) (swagelaw21_ref.f (k + 1) a0) := by
 intro a0 k
 have ih0 := swagelaw21_ref.mono_l k
 unfold swagelaw21_ref.f
 repeat' first
   | (with_reducible exact ih0 _ _ _ _)
   | (with_reducible exact swageref02_Of.mono _ _)
   | (with_reducible exact LeO.refl _)
   | (with_reducible exact LeO.none _)
   | (with_reducible refine LeO.ite ?_ ?_)
   | (with_reducible refine LeO.bind ?_ (fun _ => ?_))
   | exact ih0 _ _ _ _
   | exact swageref02_Of.mono _ _
   | exact LeO.none _
   | refine LeO.ite ?_ ?_
   | refine LeO.bind ?_ (fun _ => ?_)
set_option maxHeartbeats 8000000 in
set_option maxRecDepth 100000 in
theorem swagelaw21_ref.calls (k : Nat) (A0 : Option Addr) (c0 : Nat) (l0 : List Int) (r : List (S68)) (w : World) (hr0 : Kd.C (Kd.int .i64) w A0 l0.length l0) (hc0 : l0.length ≤ c0) (h : swagelaw21_ref.f k l0 = some r) :
  Calls Tryd.prog 15 #[.slice A0 l0.length c0] w fun e w' => ∃ v0_ : Value, e = .returned (v0_) ∧ Kd.N k68 68 w' w.heap.size (fun k_ => (w.heap.size ≤ k_)) v0_ r ∧ Below w.heap.size w w' := by
 have HR0 := Aside0.mk hr0
 have HC0 := Aside0.mk hc0
 clear hr0 hc0
 have HB := Aside0.mk (Below.refl w.heap.size w)
 have H : (swagelaw21_ref.l0 k ([] : List (S68)) l0 (l0.length : Int) 0) = some r := h
 clear h
 have H' := Aside0.mk H
 clear H
 go_enter Tryd.func15, Tryd.ntmps15
 go_wp2
 go_loopg [3, 8] k (fun kq v3 v8 w' => ∃ (x3_1 : List (S68)) (x8_1 : Int), v8 = .int .i64 x8_1 ∧ Aside0 (swagelaw21_ref.l0 kq x3_1 l0 (l0.length : Int) x8_1 = some r) ∧ Aside0 (kq ≤ k) ∧ Aside0 (Kd.N k68 68 w' w.heap.size (fun k_ => (w.heap.size ≤ k_)) v3 x3_1) ∧ Aside0 (Below w.heap.size w w'))
 case atStart => exact ⟨(([] : List (S68))), (0), (by first | rfl | (simp; done) | (simp [*]; done)), H', ⟨Nat.le_refl _⟩, ⟨by first | exact Kd.S_nil _ _ _ _ _ | exact Kd.N_nil _ _ _ _ _ | exact Kd.V_nil _ _ _ _ _ | exact Kd.Q_nil _ _ _ _ _ | exact Kd.R_nil _ _ _ _ _⟩, ⟨by repeat (first | (with_reducible first | exact HB.out | apply below_alloc | apply pw_below_drewN | apply below_drew1) | exact HB.out)⟩⟩
 case round =>
  clear H'
  obtain ⟨x3_1, x8_1, rfl, HA, HK1, HO_3, HB⟩ := hrel
  cases gk with
  | zero => exact absurd HA.out (by simp [swagelaw21_ref.l0])
  | succ k1 =>
   have H := HA.out
   clear HA
   simp only [swagelaw21_ref.l0] at H
   by_cases c2 : x8_1 < (l0.length : Int)
   ·rw [if_pos c2] at H
    have c2b0 : decide (x8_1 < (l0.length : Int)) = true := decide_eq_true c2
    clear c2
    by_cases c3 : 0 ≤ x8_1
    ·rw [if_pos c3] at H
     have c3b0 : decide (0 ≤ x8_1) = true := decide_eq_true c3
     clear c3
     by_cases c4 : x8_1 < (l0.length : Int)
     ·rw [if_pos c4] at H
      have c4b0 : decide (x8_1 < (l0.length : Int)) = true := decide_eq_true c4
      clear c4
      replace H := Option.bind_eq_some_iff.mp H
      obtain ⟨⟨t195, t196⟩, A50, H⟩ := H
      replace H : (if x3_1.length < 4398046511104 then (swagelaw21_ref.l0 k1 (x3_1 ++ [(⟨t195, t196⟩ : S68)]) l0 (l0.length : Int) (wrap64 (x8_1 + 1))) else (none)) = some r := H
      have A5 := Aside0.mk A50
      clear A50
      by_cases c6 : x3_1.length < 4398046511104
      ·rw [if_pos c6] at H
       have LMc6 := Aside0.mk c6
       clear c6
       obtain ⟨y199, hy199⟩ : ∃ y_ : List (S68), y_ = (x3_1 ++ [(⟨t195, t196⟩ : S68)]) := ⟨_, rfl⟩
       replace H : (swagelaw21_ref.l0 k1 y199 l0 (l0.length : Int) (wrap64 (x8_1 + 1))) = some r := by first | (rw [hy199]; with_reducible exact H) | (have H2_ := (Option.bind_some _ _).symm.trans H; rw [hy199]; with_reducible exact H2_) | (have H2_ := (Option.bind_some _ _).symm.trans H; with_reducible exact H2_) | with_reducible exact H | (rw [hy199]; exact H) | exact H
       have Ny199 := Aside0.mk hy199
       clear hy199
       have H' := Aside0.mk H
       clear H
       have p194 : 0 ≤ (x8_1 : Int) := of_decide_eq_true (by first | (with_reducible assumption) | assumption)
       have q194 : x8_1 < (l0.length : Int) := of_decide_eq_true (by first | (with_reducible assumption) | assumption)
       obtain ⟨ad194, e194, hx194_0⟩ := Kd.at_int HR0.out x8_1 p194 q194
       cases e194
       replace hx194_0 := (HB.out.cell (World.block_lt_of_cell? w _ hx194_0)).trans hx194_0
       replace p194 := eq_true p194
       replace q194 := eq_true q194
       go_wp2_with (first | ((with_reducible refine gate_callee (f := 30) rfl ?_); refine goesL_ (some 14) rfl rfl Tryd.func30 (by kernel_rfl) rfl #[.int .i64 (rd l0 x8_1)] rfl (by (try simp only [List.map_toArray, List.map_cons, List.map_nil]); first | done | rfl | (simp only [List.length_drop, List.length_take]; rfl)) ?_; (with_reducible refine (swageref02_Of.calls k1 (rd l0 x8_1) t195 t196 _ A5.out).mono ?_); rintro e w7 ⟨v197, rfl, ho0, hb⟩; refine ⟨_, rfl, ?_⟩; have n0_ := Aside0.mk (Kd.N_below (lN HO_3) hb); have n1_ := Aside0.mk (Kd.V_lower (Kd.V_mono (ok' := fun k_ => (w.heap.size ≤ k_) ∧ some k_ ≠ (u3 : Value).ownBlock) ho0 (fun k_ hk_ => ⟨(Nat.le_trans (below_size (lB HB)) hk_), (Kd.fresh' (Kd.N_lt (lN HO_3)) k_ hk_)⟩)) (below_size (lB HB))); have n2_ := Aside0.mk (below_step (lB HB) hb); clear HO_3 HB; have HO_3 := n0_; have HO198 := n1_; have HB := n2_; clear n0_ n1_ n2_; (try clear hb); (try clear hb2); (try clear hk); (try clear hi); (try clear ho0); obtain ⟨Ao9, co9, eo9⟩ := Kd.V_slice HO198.out; subst eo9) | ((with_reducible refine gate_builtin (b := .append) (xs := #[.tmp 12, .tmp 15]) rfl ?_); at_builtin; refine Kd.N_append k68 (w0 := w) w.heap.size rfl (.tmp 12) (.tmp 15) 33 68 (.agg #[(.bool false), (.slice none 0 0)]) 32 rfl Tryd.underlying33 info68 rfl (by decide) (by omega) u3 x3_1 (⟨t195, t196⟩ : S68) [.bool t195, .slice Ao9 t196.length co9] (fun k_ => (w.heap.size ≤ k_)) (fun k_ => ((fun k_ => (w.heap.size ≤ k_))) k_ ∧ some k_ ≠ (u3 : Value).ownBlock) rfl rfl ?aP (fun _ hk => hk) ?aF ?aO ?aB ?aS ?aL ?_; (case aP => exact (k68_mkF _ _ (⟨t195, t196⟩ : S68) (Kd.V_reads' (Kd.V_mono (ok' := (fun k_ => ((fun k_ => (w.heap.size ≤ k_))) k_ ∧ some k_ ≠ (u3 : Value).ownBlock)) (HO198.out) (fun k_ hk => ⟨hk.1, hk.2⟩))).2.1 (Kd.V_F (Kd.V_mono (ok' := (fun k_ => ((fun k_ => (w.heap.size ≤ k_))) k_ ∧ some k_ ≠ (u3 : Value).ownBlock)) (HO198.out) (fun k_ hk => ⟨hk.1, hk.2⟩))))); (case aB => exact (lB HB)); (case aF => exact (fun k_ hk => (Nat.le_trans (below_size (lB HB)) hk))); (case aO => exact (lN HO_3)); (case aS => exact (below_size (lB HB))); (case aL => have := LMc6.out; omega); intro v200 w8 ho hb hg hat; rw [← Ny199.out] at ho; have n0_ := Aside0.mk (Kd.V_afterv (ok := (fun k_ => (w.heap.size ≤ k_))) (lV HO198) hg hat); have n1_ := Aside0.mk (hb); have n2_ := Aside0.mk (ho); clear HO198 HB HO_3; have HO198 := n0_; have HB := n1_; have HO201 := n2_; clear n0_ n1_ n2_; clear ho hb hg hat))
       go_roundg k1
       case measure => have := HK1.out; omega
       case rel => exact ⟨(y199), (wrap64 (x8_1 + 1)), (by first | rfl | (simp; done) | (simp [*]; done)), H', ⟨by have := HK1.out; omega⟩, ⟨by (with_reducible repeat (first | apply Kd.N_alloc | apply Kd.N_drewN | apply Kd.N_drew)); exact HO201.out⟩, ⟨by repeat (first | (with_reducible first | exact HB.out | apply below_alloc | apply pw_below_drewN | apply below_drew1) | exact HB.out)⟩⟩
      ·rw [if_neg c6] at H
       exact absurd H (by simp)
     ·rw [if_neg c4] at H
      exact absurd H (by simp)
    ·rw [if_neg c3] at H
     exact absurd H (by simp)
   ·rw [if_neg c2] at H
    have c2b0 : decide (x8_1 < (l0.length : Int)) = false := decide_eq_false c2
    clear c2
    obtain rfl := Option.some.inj H
    go_wp2
    go_ret
    exact ⟨_, by first | rfl | (simp [errW_none, errW_some] <;> rfl) | (simp [*, errW_none, errW_some] <;> rfl), by (with_reducible repeat (first | apply Kd.N_alloc | apply Kd.N_drewN | apply Kd.N_drew)); exact HO_3.out, by repeat (first | (with_reducible first | exact HB.out | apply below_alloc | apply pw_below_drewN | apply below_drew1) | exact HB.out)⟩

end Go.Proofs.YtakmkhokbcjapaaDoor.XA
end

section
namespace Go.Proofs.YtakmkhokbcjapaaDoor.XA
open Go.Proofs.YtakmkhokbcjapaaDoor.Lift Go.RowKit Go.Proofs.YtakmkhokbcjapaaDoorW.PrintWords Go.Proofs.YtakmkhokbcjapaaDoorW.PrintLast Go.Proofs.YtakmkhokbcjapaaDoorW.PrintMore
attribute [local go_sem] max2_int min2_int max_two min_two max_three min_three max_four min_four   -- for this text's walks alone
set_option linter.unusedVariables false
set_option linter.unusedSimpArgs false

/-! ### limb_DivSmall: function 66 -/
def limb_DivSmall.l0 : Nat → List Int → Int → List Int → Int → Int → Option (List Int × Int × Int)
 | 0, _, _, _, _, _ => none
 | k + 1, x0, x1, x7, x8, x9 => if x9 ≥ 0 then (if 0 ≤ x9 then (if x9 < (x0.length : Int) then (if (IntKind.u64.wrap (x1)) = 0 then (none) else (if x9 < (x7.length : Int) then (limb_DivSmall.l0 k x0 x1 (x7.set (x9 : Int).toNat ((IntKind.u64.wrap (Int.tdiv (Go.bits .or .u64 (IntKind.u64.wrap (x8 * 4294967296)) (IntKind.u64.wrap (rd x0 x9))) (IntKind.u64.wrap (x1)))) % 4294967296)) (Int.tmod (Go.bits .or .u64 (IntKind.u64.wrap (x8 * 4294967296)) (IntKind.u64.wrap (rd x0 x9))) (IntKind.u64.wrap (x1))) (wrap64 (x9 - 1))) else (none))) else (none)) else (none)) else ((limb_trim.f k x7).bind fun t207 => (some (t207, (x8) % 4294967296, 0)))
def limb_DivSmall.f (k : Nat) (l0 : List Int) (a1 : Int) : Option (List Int × Int × Int) := if a1 = 0 then (some (([] : List Int), 0, 2)) else (if 0 ≤ (l0.length : Int) then (if ((l0.length : Int) : Int).toNat ≤ 70368744177664 then (limb_DivSmall.l0 k l0 a1 (List.replicate ((l0.length : Int) : Int).toNat 0) 0 (wrap64 ((l0.length : Int) - 1))) else (none)) else (none))
theorem limb_DivSmall.mono_l : ∀ k, (∀ y0 y1 y2 y3 y4, LeO (limb_DivSmall.l0 k y0 y1 y2 y3 y4) (limb_DivSmall.l0 (k + 1) y0 y1 y2 y3 y4))
 | 0 => fun _ _ _ _ _ r h => by simp [limb_DivSmall.l0] at h
 | k + 1 => by
  have ih0 := limb_DivSmall.mono_l k
  ·intro y0 y1 y2 y3 y4
   unfold limb_DivSmall.l0
   repeat' first
   | (with_reducible exact ih0 _ _ _ _ _)
   | (with_reducible exact limb_trim.mono _ _)
   | (with_reducible exact LeO.refl _)
   | (with_reducible exact LeO.none _)
   | (with_reducible refine LeO.ite ?_ ?_)
   | (with_reducible refine LeO.bind ?_ (fun _ => ?_))
   | exact ih0 _ _ _ _ _
   | exact limb_trim.mono _ _
   | exact LeO.none _
   | refine LeO.ite ?_ ?_
   | refine LeO.bind ?_ (fun _ => ?_)
theorem limb_DivSmall.mono : ∀ a0 a1 k, LeO (limb_DivSmall.f k a0 a1) (limb_DivSmall.f (k + 1) a0 a1) := by
 intro a0 a1 k
 have ih0 := limb_DivSmall.mono_l k
 unfold limb_DivSmall.f
 repeat' first
   | (with_reducible exact ih0 _ _ _ _ _)
   | (with_reducible exact limb_trim.mono _ _)
   | (with_reducible exact LeO.refl _)
   | (with_reducible exact LeO.none _)
   | (with_reducible refine LeO.ite ?_ ?_)
   | (with_reducible refine LeO.bind ?_ (fun _ => ?_))
   | exact ih0 _ _ _ _ _
   | exact limb_trim.mono _ _
   | exact LeO.none _
   | refine LeO.ite ?_ ?_
   | refine LeO.bind ?_ (fun _ => ?_)
set_option maxHeartbeats 8000000 in
set_option maxRecDepth 100000 in
theorem limb_DivSmall.calls (k : Nat) (A0 : Option Addr) (c0 : Nat) (l0 : List Int) (a1 : Int) (r1 : List Int) (r2 : Int) (r3 : Int) (w : World) (hr0 : Kd.C (Kd.int .u32) w A0 l0.length l0) (hc0 : l0.length ≤ c0) (h : limb_DivSmall.f k l0 a1 = some (r1, r2, r3)) :
  Calls Tryd.prog 66 #[.slice A0 l0.length c0, .int .u32 a1] w fun e w' => ∃ v0_ : Value, e = .returned (.tuple #[v0_, .int .u32 r2, .int .i64 r3]) ∧ Kd.V (Kd.int .u32) 76 w' w.heap.size (fun k_ => (w.heap.size ≤ k_)) v0_ r1 ∧ Below w.heap.size w w' := by
 have HR0 := Aside0.mk hr0
 have HC0 := Aside0.mk hc0
 clear hr0 hc0
 have HB := Aside0.mk (Below.refl w.heap.size w)
 have H : (if a1 = 0 then (some (([] : List Int), 0, 2)) else (if 0 ≤ (l0.length : Int) then (if ((l0.length : Int) : Int).toNat ≤ 70368744177664 then (limb_DivSmall.l0 k l0 a1 (List.replicate ((l0.length : Int) : Int).toNat 0) 0 (wrap64 ((l0.length : Int) - 1))) else (none)) else (none))) = some (r1, r2, r3) := h
 clear h
 by_cases c3 : a1 = 0
 ·rw [if_pos c3] at H
  have c3b0 : (a1 == 0) = true := beq_iff_eq.mpr c3
  have c3b1 : (a1 != 0) = false := bne_eq_false_iff_eq.mpr c3
  clear c3
  simp only [Option.some.injEq, Prod.mk.injEq] at H
  obtain ⟨rfl, rfl, rfl⟩ := H
  go_enter Tryd.func66, Tryd.ntmps66
  go_wp2
  go_ret3
  exact ⟨_, by first | rfl | (simp [errW_none, errW_some] <;> rfl) | (simp [*, errW_none, errW_some] <;> rfl), Kd.V_nil _ _ _ _ _, by repeat (first | (with_reducible first | exact HB.out | apply below_alloc | apply pw_below_drewN | apply below_drew1) | exact HB.out)⟩
 ·rw [if_neg c3] at H
  have c3b0 : (a1 == 0) = false := beq_eq_false_iff_ne.mpr c3
  have c3b1 : (a1 != 0) = true := bne_iff_ne.mpr c3
  by_cases c4 : 0 ≤ (l0.length : Int)
  ·rw [if_pos c4] at H
   have c4b0 := eq_true c4
   have c4b1 : decide (0 ≤ (l0.length : Int)) = true := decide_eq_true c4
   clear c4
   by_cases c5 : ((l0.length : Int) : Int).toNat ≤ 70368744177664
   ·rw [if_pos c5] at H
    have c5b0 := eq_true c5
    have c5b1 : decide (((l0.length : Int) : Int).toNat ≤ 70368744177664) = true := decide_eq_true c5
    clear c5
    obtain ⟨y202, hy202⟩ : ∃ y_ : List Int, y_ = (List.replicate ((l0.length : Int) : Int).toNat 0) := ⟨_, rfl⟩
    replace H : (limb_DivSmall.l0 k l0 a1 y202 0 (wrap64 ((l0.length : Int) - 1))) = some (r1, r2, r3) := by first | (rw [hy202]; with_reducible exact H) | (have H2_ := (Option.bind_some _ _).symm.trans H; rw [hy202]; with_reducible exact H2_) | (have H2_ := (Option.bind_some _ _).symm.trans H; with_reducible exact H2_) | with_reducible exact H | (rw [hy202]; exact H) | exact H
    have Ny202 := Aside0.mk hy202
    clear hy202
    have H' := Aside0.mk H
    clear H
    go_enter Tryd.func66, Tryd.ntmps66
    go_wp2_with (first | ((with_reducible refine gate_dst (N := 14) rfl ?_); refine Kd.R_make (Kd.int .u32) _ 76 rfl (N := 14) rfl 37 _ _ rfl (l0.length : Int) rfl rfl Tryd.underlying37 (.int .u32 0) 4 info76 rfl (by decide) (by omega) 0 (ok := fun _ => True) (okp := fun _ => True) rfl (fun _ hk => hk) trivial (of_decide_eq_true (by first | (with_reducible assumption) | assumption)) (Nat.le_trans (Nat.mul_le_mul_right _ (of_decide_eq_true (by first | (with_reducible assumption) | assumption) : (l0.length : Int).toNat ≤ 70368744177664)) (by omega)) (Below.refl _ _) (Nat.le_refl _) ?_; intro v203 w6 ho7 hb hg_ hnew_; clear hg_ hnew_; (first | rw [← Ny202.out] at ho7 | (simp only [Int.reduceToNat] at ho7; rw [← Ny202.out] at ho7)); have n0_ := Aside0.mk (Kd.R_lower (Kd.R_newM (M := fun k_ => (w.heap.size ≤ k_)) ho7 (below_size (lB HB)) (fun k_ h_ => h_)) (below_size (lB HB))); have n1_ := Aside0.mk (below_step (lB HB) hb); clear HB; have HO204 := n0_; have HB := n1_; clear n0_ n1_; clear hb ho7))
    go_loopg [8, 9] k (fun kq v8 v9 w' => ∃ (x7_1 : List Int) (x8_1 : Int) (x9_1 : Int), v8 = .int .u64 x8_1 ∧ v9 = .int .i64 x9_1 ∧ Aside0 (limb_DivSmall.l0 kq l0 a1 x7_1 x8_1 x9_1 = some (r1, r2, r3)) ∧ Aside0 (kq ≤ k) ∧ Aside0 (Kd.R (Kd.int .u32) 76 w' w.heap.size (fun k_ => (w.heap.size ≤ k_)) v203 x7_1) ∧ Aside0 (Below w.heap.size w w'))
    case atStart => exact ⟨(y202), (0), (wrap64 ((l0.length : Int) - 1)), (by first | rfl | (simp; done) | (simp [*]; done)), (by first | rfl | (simp; done) | (simp [*]; done)), H', ⟨Nat.le_refl _⟩, ⟨by (with_reducible repeat (first | apply Kd.R_alloc | apply Kd.R_drewN | apply Kd.R_drew)); exact Kd.R_mono HO204.out (fun _ hk => hk.1)⟩, ⟨by repeat (first | (with_reducible first | exact HB.out | apply below_alloc | apply pw_below_drewN | apply below_drew1) | exact HB.out)⟩⟩
    case round =>
     clear H'
     try clear c3
     try clear c4
     try clear c5
     obtain ⟨x7_1, x8_1, x9_1, rfl, rfl, HA, HK1, HO_7, HB⟩ := hrel
     cases gk with
     | zero => exact absurd HA.out (by simp [limb_DivSmall.l0])
     | succ k1 =>
      have H := HA.out
      clear HA
      simp only [limb_DivSmall.l0] at H
      by_cases c8 : x9_1 ≥ 0
      ·rw [if_pos c8] at H
       have c8b0 : decide (0 ≤ x9_1) = true := decide_eq_true c8
       clear c8
       by_cases c9 : 0 ≤ x9_1
       ·rw [if_pos c9] at H
        have c9b0 : decide (0 ≤ x9_1) = true := decide_eq_true c9
        clear c9
        by_cases c10 : x9_1 < (l0.length : Int)
        ·rw [if_pos c10] at H
         have c10b0 : decide (x9_1 < (l0.length : Int)) = true := decide_eq_true c10
         clear c10
         by_cases c11 : (IntKind.u64.wrap (a1)) = 0
         ·rw [if_pos c11] at H
          exact absurd H (by simp)
         ·rw [if_neg c11] at H
          have c11b0 : ((IntKind.u64.wrap (a1)) == 0) = false := beq_eq_false_iff_ne.mpr c11
          have c11b1 : ((IntKind.u64.wrap (a1)) != 0) = true := bne_iff_ne.mpr c11
          by_cases c12 : x9_1 < (x7_1.length : Int)
          ·rw [if_pos c12] at H
           have c12b0 : decide (x9_1 < (x7_1.length : Int)) = true := decide_eq_true c12
           clear c12
           obtain ⟨y206, hy206⟩ : ∃ y_ : List Int, y_ = (x7_1.set (x9_1 : Int).toNat ((IntKind.u64.wrap (Int.tdiv (Go.bits .or .u64 (IntKind.u64.wrap (x8_1 * 4294967296)) (IntKind.u64.wrap (rd l0 x9_1))) (IntKind.u64.wrap (a1)))) % 4294967296)) := ⟨_, rfl⟩
           replace H : (limb_DivSmall.l0 k1 l0 a1 y206 (Int.tmod (Go.bits .or .u64 (IntKind.u64.wrap (x8_1 * 4294967296)) (IntKind.u64.wrap (rd l0 x9_1))) (IntKind.u64.wrap (a1))) (wrap64 (x9_1 - 1))) = some (r1, r2, r3) := by first | (rw [hy206]; with_reducible exact H) | (have H2_ := (Option.bind_some _ _).symm.trans H; rw [hy206]; with_reducible exact H2_) | (have H2_ := (Option.bind_some _ _).symm.trans H; with_reducible exact H2_) | with_reducible exact H | (rw [hy206]; exact H) | exact H
           have Ny206 := Aside0.mk hy206
           clear hy206
           have H' := Aside0.mk H
           clear H
           have p205 : 0 ≤ (x9_1 : Int) := of_decide_eq_true (by first | (with_reducible assumption) | assumption)
           have q205 : x9_1 < (l0.length : Int) := of_decide_eq_true (by first | (with_reducible assumption) | assumption)
           obtain ⟨ad205, e205, hx205_0⟩ := Kd.at_int HR0.out x9_1 p205 q205
           cases e205
           replace hx205_0 := (HB.out.cell (World.block_lt_of_cell? w _ hx205_0)).trans hx205_0
           replace p205 := eq_true p205
           replace q205 := eq_true q205
           have p13 : 0 ≤ (x9_1 : Int) := of_decide_eq_true (by first | (with_reducible assumption) | assumption)
           have q13 : (x9_1 : Int) < ((x7_1.length : Int) : Int) := of_decide_eq_true (by first | (with_reducible assumption) | assumption)
           obtain ⟨go13, co13, eo13, gb13, gl13, cl13, HG13⟩ := Kd.R_form HO_7.out (by omega)
           (first | cases eo13 | (injection eo13 with ea_ en_ ec_; (first | subst ea_ | (injection ea_ with ea_; subst ea_)); subst ec_; clear en_))
           have GB13 := Aside0.mk gb13
           have GG13 := Aside0.mk HG13
           clear gb13 gl13 HG13
           obtain ⟨hx13_0, hf13_0⟩ := Kd.R_celln 0 HO_7.out (x9_1 : Int) p13 q13
           replace p13 := eq_true p13
           replace q13 := eq_true q13
           have HP14 := Kd.R_putg HO_7.out (x9_1 : Int) ((IntKind.u64.wrap (Int.tdiv (Go.bits .or .u64 (IntKind.u64.wrap (x8_1 * 4294967296)) (IntKind.u64.wrap (rd l0 x9_1))) (IntKind.u64.wrap (a1)))) % 4294967296)
           go_wp2_with (first | ((with_reducible refine gate_store (t := 76) (p := 37) rfl ?_); refine store_event (t := 76) (p := 37) (v := ?vo_w15) (w1 := (wr.setCell ⟨go13, (x9_1 : Int).toNat, none⟩ (.int .u32 ((IntKind.u64.wrap (Int.tdiv (Go.bits .or .u64 (IntKind.u64.wrap (x8_1 * 4294967296)) (IntKind.u64.wrap (rd l0 x9_1))) (IntKind.u64.wrap (a1)))) % 4294967296)))) ?hg ?ho ?hn ?hr ?_; (case ho => rfl); (case hg => rfl); (case hn => rfl); (case hr => first | (go_simp; done) | (go_simp; rfl)); intro w15 hw; have hg : wr.grownBy w15 (some go13) := (by rw [hw]; exact HP14.2); have hp_ : Kd.R (Kd.int .u32) 76 w15 w.heap.size (fun k_ => (w.heap.size ≤ k_)) (.slice (some ⟨go13, 0, none⟩) x7_1.length co13) y206 := (by rw [hw, Ny206.out]; exact HP14.1); clear HP14; have n0_ := Aside0.mk (hp_); have n1_ := Aside0.mk ((by rw [hw]; exact below_set (HB.out) GB13.out : Below w.heap.size w w15)); clear HO_7 HB; have HO_7 := n0_; have HB := n1_; clear n0_ n1_; clear hg hw hp_))
           go_roundg k1
           case measure => have := HK1.out; omega
           case rel => exact ⟨(y206), (Int.tmod (Go.bits .or .u64 (IntKind.u64.wrap (x8_1 * 4294967296)) (IntKind.u64.wrap (rd l0 x9_1))) (IntKind.u64.wrap (a1))), (wrap64 (x9_1 - 1)), (by first | rfl | (simp; done) | (simp [*]; done)), (by first | rfl | (simp; done) | (simp [*]; done)), H', ⟨by have := HK1.out; omega⟩, ⟨by (with_reducible repeat (first | apply Kd.R_alloc | apply Kd.R_drewN | apply Kd.R_drew)); exact HO_7.out⟩, ⟨by repeat (first | (with_reducible first | exact HB.out | apply below_alloc | apply pw_below_drewN | apply below_drew1) | exact HB.out)⟩⟩
          ·rw [if_neg c12] at H
           exact absurd H (by simp)
        ·rw [if_neg c10] at H
         exact absurd H (by simp)
       ·rw [if_neg c9] at H
        exact absurd H (by simp)
      ·rw [if_neg c8] at H
       have c8b0 : decide (0 ≤ x9_1) = false := decide_eq_false c8
       clear c8
       replace H := Option.bind_eq_some_iff.mp H
       obtain ⟨t207, A160, H⟩ := H
       replace H : (some (t207, (x8_1) % 4294967296, 0)) = some (r1, r2, r3) := H
       have A16 := Aside0.mk A160
       clear A160
       simp only [Option.some.injEq, Prod.mk.injEq] at H
       obtain ⟨rfl, rfl, rfl⟩ := H
       obtain ⟨Ao17, co17, eo17⟩ := Kd.R_slice HO_7.out
       subst eo17
       go_wp2_with (first | ((with_reducible refine gate_callee (f := 65) rfl ?_); refine goesL_ (some 43) rfl rfl Tryd.func65 (by kernel_rfl) rfl #[.slice Ao17 x7_1.length co17] rfl (by (try simp only [List.map_toArray, List.map_cons, List.map_nil]); first | done | rfl | (simp only [List.length_drop, List.length_take]; rfl)) ?_; (with_reducible refine (limb_trim.calls k1 (fun k_ => some k_ = (.slice Ao17 x7_1.length co17 : Value).ownBlock) _ _ x7_1 t207 _ ?side1 A16.out).mono ?_); (case side1 => exact Kd.R_V (Kd.R_tight rfl (HO_7.out))); rintro e w18 ⟨v208, rfl, ho0, hb⟩; refine ⟨_, rfl, ?_⟩; have n0_ := Aside0.mk (Kd.R_below (lR HO_7) hb); have n1_ := Aside0.mk (Kd.V_lower (Kd.V_mono (ok' := fun k_ => (w.heap.size ≤ k_)) ho0 (fun k_ hk_ => Or.elim hk_ (fun hs_ => ((HO_7.out).1 k_ hs_.symm)) (fun hn_ => (Nat.le_trans (below_size (lB HB)) hn_)))) (below_size (lB HB))); have n2_ := Aside0.mk (below_step (lB HB) hb); clear HO_7 HB; have HO_7 := n0_; have HO209 := n1_; have HB := n2_; clear n0_ n1_ n2_; (try clear hb); (try clear hb2); (try clear hk); (try clear hi); (try clear ho0)))
       go_ret3
       exact ⟨_, by first | rfl | (simp [errW_none, errW_some] <;> rfl) | (simp [*, errW_none, errW_some] <;> rfl), by (with_reducible repeat (first | apply Kd.V_alloc | apply Kd.V_drewN | apply Kd.V_drew)); exact HO209.out, by repeat (first | (with_reducible first | exact HB.out | apply below_alloc | apply pw_below_drewN | apply below_drew1) | exact HB.out)⟩
   ·rw [if_neg c5] at H
    exact absurd H (by simp)
  ·rw [if_neg c4] at H
   exact absurd H (by simp)

end Go.Proofs.YtakmkhokbcjapaaDoor.XA
end

section
namespace Go.Proofs
open Go.Shelf
def Tryd.lays161_ren : Go.Shelf.Ren := ⟨fun | 161 => 67 | 231 => 70 | 227 => 71 | 233 => 72 | 235 => 73 | 228 => 75 | 197 => 76 | 151 => 77 | 260 => 79 | 152 => 80 | 137 => 81 | 119 => 82 | 224 => 83 | 225 => 84 | 217 => 85 | 266 => 86 | n => n, fun | 9 => 9 | 4 => 4 | 3 => 3 | 5 => 5 | 117 => 120 | 116 => 119 | 0 => 0 | 124 => 123 | 105 => 126 | 21 => 21 | 119 => 132 | 46 => 77 | 139 => 135 | 138 => 134 | n => n, fun | 3 => 0 | 4 => 1 | n => n⟩
theorem Tryd.lays161 : Go.Proofs.Lays.n161 Tryd.prog Tryd.lays161_ren := {
  mixed := by kernel_rfl
  f119 := Tryd.func82.trans (congrArg some (by kernel_rfl))
  f137 := Tryd.func81.trans (congrArg some (by kernel_rfl))
  f151 := Tryd.func77.trans (congrArg some (by kernel_rfl))
  f152 := Tryd.func80.trans (congrArg some (by kernel_rfl))
  f161 := Tryd.func67.trans (congrArg some (by kernel_rfl))
  f197 := Tryd.func76.trans (congrArg some (by kernel_rfl))
  f217 := Tryd.func85.trans (congrArg some (by kernel_rfl))
  f224 := Tryd.func83.trans (congrArg some (by kernel_rfl))
  f225 := Tryd.func84.trans (congrArg some (by kernel_rfl))
  f227 := Tryd.func71.trans (congrArg some (by kernel_rfl))
  f228 := Tryd.func75.trans (congrArg some (by kernel_rfl))
  f231 := Tryd.func70.trans (congrArg some (by kernel_rfl))
  f233 := Tryd.func72.trans (congrArg some (by kernel_rfl))
  f235 := Tryd.func73.trans (congrArg some (by kernel_rfl))
  f260 := Tryd.func79.trans (congrArg some (by kernel_rfl))
  f266 := Tryd.func86.trans (congrArg some (by kernel_rfl))
  t0 := Tryd.underlying0
  a0 := Tryd.isAgg0
  z0 := Tryd.sizeOf0
  v0 := Tryd.zeroValue0
  t3 := Tryd.underlying3
  a3 := Tryd.isAgg3
  z3 := Tryd.sizeOf3
  v3 := Tryd.zeroValue3
  t4 := Tryd.underlying4
  a4 := Tryd.isAgg4
  z4 := Tryd.sizeOf4
  v4 := Tryd.zeroValue4
  t5 := Tryd.underlying5
  a5 := Tryd.isAgg5
  z5 := Tryd.sizeOf5
  v5 := Tryd.zeroValue5
  t9 := Tryd.underlying9
  a9 := Tryd.isAgg9
  z9 := Tryd.sizeOf9
  v9 := Tryd.zeroValue9
  t21 := Tryd.underlying21
  a21 := Tryd.isAgg21
  z21 := Tryd.sizeOf21
  v21 := Tryd.zeroValue21
  t46 := Tryd.underlying77
  a46 := Tryd.isAgg77
  z46 := Tryd.sizeOf77
  v46 := Tryd.zeroValue77
  t105 := Tryd.underlying126
  a105 := Tryd.isAgg126
  z105 := Tryd.sizeOf126
  v105 := Tryd.zeroValue126
  t116 := Tryd.underlying119
  a116 := Tryd.isAgg119
  z116 := Tryd.sizeOf119
  t117 := Tryd.underlying120
  a117 := Tryd.isAgg120
  z117 := Tryd.sizeOf120
  v117 := Tryd.zeroValue120
  t119 := Tryd.underlying132
  a119 := Tryd.isAgg132
  z119 := Tryd.sizeOf132
  t124 := Tryd.underlying123
  a124 := Tryd.isAgg123
  z124 := Tryd.sizeOf123
  v124 := Tryd.zeroValue123
  t138 := Tryd.underlying134
  a138 := Tryd.isAgg134
  z138 := Tryd.sizeOf134
  v138 := Tryd.zeroValue134
  t139 := Tryd.underlying135
  a139 := Tryd.isAgg135
  z139 := Tryd.sizeOf135
  v139 := Tryd.zeroValue135
  g3 := by kernel_rfl
  g4 := by kernel_rfl }
def Tryd.lays169_ren : Go.Shelf.Ren := ⟨fun | 169 => 69 | n => n, fun | 70 => 108 | 9 => 9 | 0 => 0 | 72 => 110 | 37 => 89 | 127 => 124 | 3 => 3 | 5 => 5 | n => n, fun | n => n⟩
theorem Tryd.lays169 : Go.Proofs.Lays.n169 Tryd.prog Tryd.lays169_ren := {
  mixed := by kernel_rfl
  f169 := Tryd.func69.trans (congrArg some (by kernel_rfl))
  t0 := Tryd.underlying0
  a0 := Tryd.isAgg0
  z0 := Tryd.sizeOf0
  v0 := Tryd.zeroValue0
  t3 := Tryd.underlying3
  a3 := Tryd.isAgg3
  z3 := Tryd.sizeOf3
  v3 := Tryd.zeroValue3
  t9 := Tryd.underlying9
  a9 := Tryd.isAgg9
  z9 := Tryd.sizeOf9
  v9 := Tryd.zeroValue9
  t37 := Tryd.underlying89
  a37 := Tryd.isAgg89
  z37 := Tryd.sizeOf89
  v37 := Tryd.zeroValue89
  t70 := Tryd.underlying108
  a70 := Tryd.isAgg108
  z70 := Tryd.sizeOf108
  v70 := Tryd.zeroValue108
  t72 := Tryd.underlying110
  a72 := Tryd.isAgg110
  z72 := Tryd.sizeOf110
  v72 := Tryd.zeroValue110
  t127 := Tryd.underlying124
  a127 := Tryd.isAgg124
  z127 := Tryd.sizeOf124
  v127 := Tryd.zeroValue124 }
theorem Tryd.Builder_Extra_169 : Builder.Extra Tryd.prog Tryd.lays169_ren := {
  sizeBuilder := by kernel_rfl
  liesBuilder := by kernel_rfl
  t5 := Tryd.underlying5
  a5 := Tryd.isAgg5
  z5 := Tryd.sizeOf5
  v5 := Tryd.zeroValue5
  infoByte := by kernel_rfl
  cellsByte := by kernel_rfl
  sizeByte := by kernel_rfl
  neB5 := by decide }
open Go.RowKit in
/-- (*strings.Builder).String: "String returns the accumulated string.": WHATEVER THE BUILDER HOLDS. (LAID: no walk: one application.) -/
theorem Tryd.Builder_String_any (B b : Nat) (l : List UInt8) (w : World) (h : Lib.IsBuilder 110 5 B b (Lib.byteCells l) w) (hBw : B ≤ w.heap.size) :
    Calls Tryd.prog 69 #[.pointer (some ⟨b, 0, none⟩)] w fun e w' => e = .returned (.string ⟨l.toArray⟩) ∧ Below B w w' := Any.Builder_String_any Tryd.lays169 Tryd.Builder_Extra_169 B b l w h hBw
open Go.RowKit in
/-- strings.TrimLeft: "TrimLeft returns a slice of the string s with all leading Unicode code points contained in cutset removed.": AT A cutset OF ONE ASCII BYTE. The world is as it was. (LAID: no walk: one application.) -/
theorem Tryd.strings_TrimLeft_one (s : ByteArray) (c : UInt8) (hc : c.toNat < 128) (w : World) :
    Calls Tryd.prog 67 #[.string s, .string ⟨#[c]⟩] w fun e w' => e = .returned (.string ⟨(Lib.trimLeftB s.data.toList c).toArray⟩) ∧ w' = w := Any.strings_TrimLeft_one Tryd.lays161 s c hc w
end Go.Proofs
end

section
namespace Go.Proofs.YtakmkhokbcjapaaDoor.XA
open Go.Proofs.YtakmkhokbcjapaaDoor.Lift Go.RowKit Go.Proofs.YtakmkhokbcjapaaDoorW.PrintWords Go.Proofs.YtakmkhokbcjapaaDoorW.PrintLast Go.Proofs.YtakmkhokbcjapaaDoorW.PrintMore
attribute [local go_sem] max2_int min2_int max_two min_two max_three min_three max_four min_four   -- for this text's walks alone
set_option linter.unusedVariables false
set_option linter.unusedSimpArgs false

/-! ### limb_Text: function 61 -/
--IMPORT Derived.Test.YtakmkhokbcjapaaDoorShelf
set_option maxHeartbeats 2000000 in
set_option maxRecDepth 100000 in
theorem limb_copyCheck (B b : Nat) (bs : List Value) (w : World) (h : Lib.IsBuilder 110 5 B b bs w) :
  Calls Tryd.prog 74 #[.pointer (some ⟨b, 0, none⟩)] w fun e w' => e = .returned (.tuple #[]) ∧ (Lib.BuilderAt 110 5 B b (.pointer (some ⟨b, 0, none⟩)) bs w' ∧ Below B w w') := by
 obtain ⟨j, hj, hjs⟩ := Option.map_eq_some_iff.1 (show (Tryd.prog.info? 110).map (·.size) = some 2 by kernel_rfl)
 rcases h with h | h
 ·have fresh : Calls Tryd.prog 74 #[.pointer (some ⟨b, 0, none⟩)] w fun e w' => e = .returned (.tuple #[]) ∧ w' = w.setCell ⟨b, 0, none⟩ (.pointer (some ⟨b, 0, none⟩)) := by
   have h0 := h.cell0
   have hsh := h.shape
   have hfz := h.frozen0
   go_enter Tryd.func74, Tryd.ntmps74
   go_wp2
   rw [Lib.run_to_unsafe w ⟨b, 0, none⟩ Tryd.underlying108 Tryd.underlying129 hj (by rw [hjs]; decide) hsh (Nat.zero_lt_succ 1)]
   simp only [Result.andThen]
   rw [Oper.upon_value]
   go_wp2
   rw [run_callFunc_extern Tryd.func78 (by kernel_rfl) (by kernel_rfl) (by kernel_rfl) (e := Extern.AbiNoEscape.same) (by kernel_rfl)]
   rw [Lib.run_noEscape]
   simp only [Result.andThen]
   rw [Oper.upon_value]
   go_wp2
   rw [Lib.run_from_unsafe w ⟨b, 0, none⟩ Tryd.underlying129 Tryd.underlying108 hj hsh (show liesAt Tryd.prog Tryd.prog.depth 110 (2 / Tryd.prog.cellsOf 110) 0 110 1 = true by kernel_rfl)]
   simp only [Result.andThen]
   rw [Oper.upon_value]
   go_wp2
   go_end0
   exact ⟨rfl, rfl⟩
  refine fresh.mono ?_
  rintro e w' ⟨rfl, rfl⟩
  exact ⟨rfl, h.used _, (Below.refl B w).setCell (p := ⟨b, 0, none⟩) h.1 _⟩
 ·have used : Calls Tryd.prog 74 #[.pointer (some ⟨b, 0, none⟩)] w fun e w' => e = .returned (.tuple #[]) ∧ w' = w := by
   have h0 := h.cell0
   go_enter Tryd.func74, Tryd.ntmps74
   go_wp2
   rw [Lib.run_neq_ptr_same w _ Tryd.underlying108 hj]
   go_wp2
   go_end0
   exact ⟨rfl, rfl⟩
  refine used.mono ?_
  rintro e w' ⟨rfl, rfl⟩
  exact ⟨rfl, h, Below.refl B _⟩
set_option maxHeartbeats 2000000 in
set_option maxRecDepth 100000 in
theorem limb_WriteString (B b : Nat) (bs : List Value) (s : ByteArray) (w : World) (h : Lib.IsBuilder 110 5 B b bs w) (hlen : bs.length + s.size ≤ 140737488355328) (hBw : B ≤ w.heap.size) :
  Calls Tryd.prog 68 #[.pointer (some ⟨b, 0, none⟩), .string s] w fun e w' => e = .returned (.tuple #[.int .i64 s.size, .nilIface]) ∧ (Lib.BuilderAt 110 5 B b (.pointer (some ⟨b, 0, none⟩)) (bs ++ Lib.strCells s) w' ∧ Below B w w') := by
 obtain ⟨i0, hi, hz0, hz1, hz2⟩ := info_parts (show (Tryd.prog.info? 5).map (fun i => (i.zero, i.size, i.bytes)) = some (some (.int .u8 0), 1, 1) by kernel_rfl)
 go_enter Tryd.func68, Tryd.ntmps68
 go_wp2_with (go_at_call 74; refine (limb_copyCheck B b bs _ h).mono ?_)
 rintro e w1 ⟨rfl, h1, hb1⟩
 obtain ⟨hB, v, hbk, hown, hne⟩ := h1
 have c0 : w1.cell? ⟨b, 0, none⟩ = some (.pointer (some ⟨b, 0, none⟩)) := by rw [Lib.cell_of_heap hbk]; rfl
 have c1 : w1.cell? ⟨b, 1, none⟩ = some v := by rw [Lib.cell_of_heap hbk]; rfl
 go_wp2_with (at_builtin; refine Lib.wpList_append_own_string _ rfl _ _ 89 9 rfl B 5 i0 Tryd.underlying89 Tryd.underlying9 hi hz0 hz1 hz2 _ _ _ rfl hown s rfl ?c3 ?c4 ?c5 ?_)
 case c3 => unfold maxLen; omega
 case c4 => omega
 case c5 => have := hb1.size; omega
 intro v' w2 hown' hgrow _
 have hlt : b < w1.heap.size := by
  rcases Nat.lt_or_ge b w1.heap.size with h' | h'
  ·exact h'
  ·simp [Array.getElem?_eq_none h'] at hbk
 have hb2 : w2.heap[b]? = some (.cells #[.pointer (some ⟨b, 0, none⟩), v] 110 (0, 0)) := by
  rw [hgrow.block b hlt (fun e => hne e.symm)]
  exact hbk
 have d0 : w2.cell? ⟨b, 0, none⟩ = some (.pointer (some ⟨b, 0, none⟩)) := by rw [Lib.cell_of_heap hb2]; rfl
 have d1 : w2.cell? ⟨b, 1, none⟩ = some v := by rw [Lib.cell_of_heap hb2]; rfl
 have f1 : w2.frozen? ⟨b, 1, none⟩ = false := Lib.frozen_of_heap hb2 1
 obtain ⟨ao, n', cap, rfl⟩ : ∃ ao n' cap, v' = .slice ao n' cap := by
  rcases hown'.2 with ⟨hv, _⟩ | ⟨g, cap, cur, hv, _⟩
  ·exact ⟨_, _, _, hv⟩
  ·exact ⟨_, _, _, hv⟩
 go_wp2
 go_ret2
 refine ⟨rfl, ?_, ?_⟩
 ·exact Lib.BuilderAt.put (T := 110) (e := 5) hB hb2 (bs' := bs ++ Lib.strCells s) (by simpa [Lib.strCells_length] using hown') (by decide)
 ·exact (hb1.grown hgrow (by have := hb1.size; omega) (fun k hk => (hown.lt k hk).1)).setCell (p := ⟨b, 1, none⟩) hB _
/-- A piece's nine digits, and what a number's pieces (the highest one first) are as text. -/
def dg (p : Int) (i : Nat) : Int := 48 + (p / 10 ^ (8 - i)) % 10
def buf9 (p : Int) (j : Nat) : Array Value := ((List.range 9).map fun i => Value.int .u8 (if 9 - j ≤ i then dg p i else 0)).toArray
def digs9 (p : Int) : List Int := (List.range 9).map (dg p)
def by9 (p : Int) : List UInt8 := (digs9 p).map fun n => UInt8.ofNat n.toNat
def limbrev : List Int → List UInt8
 | [] => []
 | p :: r => Lib.trimLeftB (by9 p) 48 ++ r.flatMap by9
def limbtxt (ps : List Int) : ByteArray := ⟨(limbrev ps.reverse).toArray⟩
theorem buf9_step (p : Int) : ∀ j, j < 9 → (buf9 p j).setIfInBounds (8 - j) (.int .u8 (48 + (p / 10 ^ j) % 10)) = buf9 p (j + 1) := by
 intro j hj
 match j, hj with
 | 0, _ => rfl
 | 1, _ => rfl
 | 2, _ => rfl
 | 3, _ => rfl
 | 4, _ => rfl
 | 5, _ => rfl
 | 6, _ => rfl
 | 7, _ => rfl
 | 8, _ => rfl
theorem buf9_zero (p : Int) : buf9 p 0 = #[.int .u8 0, .int .u8 0, .int .u8 0, .int .u8 0, .int .u8 0, .int .u8 0, .int .u8 0, .int .u8 0, .int .u8 0] := rfl
theorem buf9_size (p : Int) (j : Nat) : (buf9 p j).size = 9 := by simp [buf9]
theorem buf9_full (p : Int) (i : Nat) (hi : i < 9) : (buf9 p 9)[i]? = some (.int .u8 ((digs9 p).getD i 0)) := by
 match i, hi with
 | 0, _ => rfl
 | 1, _ => rfl
 | 2, _ => rfl
 | 3, _ => rfl
 | 4, _ => rfl
 | 5, _ => rfl
 | 6, _ => rfl
 | 7, _ => rfl
 | 8, _ => rfl
theorem limbrev_snoc (l : List Int) (p : Int) (h : l ≠ []) : limbrev (l ++ [p]) = limbrev l ++ by9 p := by
 cases l with
 | nil => exact absurd rfl h
 | cons q r => simp [limbrev, List.flatMap_append]
theorem builder_below {T e : TypeId} {B b : Nat} {bs : List Value} {w w' : World} (h : Lib.IsBuilder T e B b bs w) (hb : Below w.heap.size w w') : Lib.IsBuilder T e B b bs w' := by
 have step : ∀ p, Lib.BuilderAt T e B b p bs w → Lib.BuilderAt T e B b p bs w' := by
  intro p hA
  have hlt := hA.lt
  obtain ⟨h0, v, h1, h2, h3⟩ := hA
  exact ⟨h0, v, (hb.block b hlt).trans h1, pw_own_below h2 hb, h3⟩
 rcases h with h | h
 ·exact .inl (step _ h)
 ·exact .inr (step _ h)
theorem strOfNums_digs9 (p : Int) : (strOfNums (digs9 p)).data.toList = by9 p := rfl
theorem limb_take (l : List Int) (j : Nat) (hj : j < l.length) (i : Int) (hi : (l.length : Int) - 1 - j = i) : l.reverse.take (j + 1) = l.reverse.take j ++ [rd l i] := by
 rw [List.take_succ_eq_append_getElem (by simpa using hj)]
 congr 2
 unfold rd
 rw [List.getElem_reverse, List.getD_eq_getElem?_getD, List.getElem?_eq_getElem (by omega)]
 simp only [Option.getD_some]
 congr 1
 omega
theorem byteCells_app (a b : List UInt8) : Lib.byteCells a ++ Lib.byteCells b = Lib.byteCells (a ++ b) := by simp [Lib.byteCells]
theorem limbrev_len (l : List Int) : (limbrev l).length ≤ 9 * l.length := by
 have hd : ∀ p, (by9 p).length = 9 := fun p => by simp [by9, digs9]
 cases l with
 | nil => simp [limbrev]
 | cons p r =>
  have h1 : (Lib.trimLeftB (by9 p) 48).length ≤ 9 := by rw [← hd p]; exact (List.dropWhile_sublist _).length_le
  have h2 : (r.flatMap by9).length = 9 * r.length := by
   induction r with
   | nil => rfl
   | cons q r ih => rw [List.flatMap_cons, List.length_append, hd, ih, List.length_cons]; omega
  simp only [limbrev, List.length_append, List.length_cons, h2]
  omega
def limb_Text.l0 : Nat → List Int → List Int → Option (ByteArray)
 | 0, _, _ => none
 | k + 1, x3, x4 => if (x4.length : Int) > 0 then ((limb_DivSmall.f k x4 1000000000).bind fun bt213 => (if x3.length < 35184372088832 then (limb_Text.l0 k (x3 ++ [bt213.2.1]) bt213.1) else (none))) else (if (x3.length : Int) = 0 then (some (⟨#[48]⟩ : ByteArray)) else (if 9 * x3.length ≤ 140737488355000 ∧ (x3.all fun p => decide (0 ≤ p ∧ p < 1000000000)) = true then some (limbtxt x3) else none))
def limb_Text.f (k : Nat) (l0 : List Int) : Option (ByteArray) := (limb_Norm.f k l0).bind fun t210 => (limb_Text.l0 k ([] : List Int) t210)
theorem limb_Text.mono_l : ∀ k, (∀ y0 y1, LeO (limb_Text.l0 k y0 y1) (limb_Text.l0 (k + 1) y0 y1))
 | 0 => fun _ _ r h => by simp [limb_Text.l0] at h
 | k + 1 => by
  have ih0 := limb_Text.mono_l k
  ·intro y0 y1
   unfold limb_Text.l0
   repeat' first
   | (with_reducible exact ih0 _ _)
   | (with_reducible exact limb_DivSmall.mono _ _ _)
   | (with_reducible exact limb_Norm.mono _ _)
   | (with_reducible exact LeO.refl _)
   | (with_reducible exact LeO.none _)
   | (with_reducible refine LeO.ite ?_ ?_)
   | (with_reducible refine LeO.bind ?_ (fun _ => ?_))
   | exact ih0 _ _
   | exact limb_DivSmall.mono _ _ _
   | exact limb_Norm.mono _ _
   | exact LeO.none _
   | refine LeO.ite ?_ ?_
   | refine LeO.bind ?_ (fun _ => ?_)
theorem limb_Text.mono : ∀ a0 k, LeO (limb_Text.f k a0) (limb_Text.f (k + 1) a0) := by
 intro a0 k
 have ih0 := limb_Text.mono_l k
 unfold limb_Text.f
 repeat' first
   | (with_reducible exact ih0 _ _)
   | (with_reducible exact limb_DivSmall.mono _ _ _)
   | (with_reducible exact limb_Norm.mono _ _)
   | (with_reducible exact LeO.refl _)
   | (with_reducible exact LeO.none _)
   | (with_reducible refine LeO.ite ?_ ?_)
   | (with_reducible refine LeO.bind ?_ (fun _ => ?_))
   | exact ih0 _ _
   | exact limb_DivSmall.mono _ _ _
   | exact limb_Norm.mono _ _
   | exact LeO.none _
   | refine LeO.ite ?_ ?_
   | refine LeO.bind ?_ (fun _ => ?_)
set_option maxHeartbeats 8000000 in
set_option maxRecDepth 100000 in
theorem limb_Text.calls (k : Nat) (A0 : Option Addr) (c0 : Nat) (l0 : List Int) (r : ByteArray) (w : World) (hr0 : Kd.C (Kd.int .u32) w A0 l0.length l0) (hc0 : l0.length ≤ c0) (h : limb_Text.f k l0 = some r) :
  Calls Tryd.prog 61 #[.slice A0 l0.length c0] w fun e w' => e = .returned (.string r) ∧ Below w.heap.size w w' := by
 have HR0 := Aside0.mk hr0
 have HC0 := Aside0.mk hc0
 clear hr0 hc0
 have HB := Aside0.mk (Below.refl w.heap.size w)
 have H : ((limb_Norm.f k l0).bind fun t210 => (limb_Text.l0 k ([] : List Int) t210)) = some r := h
 clear h
 replace H := Option.bind_eq_some_iff.mp H
 obtain ⟨t210, A20, H⟩ := H
 replace H : (limb_Text.l0 k ([] : List Int) t210) = some r := H
 have A2 := Aside0.mk A20
 clear A20
 have H' := Aside0.mk H
 clear H
 go_enter Tryd.func61, Tryd.ntmps61
 go_wp2_with (first | ((with_reducible refine gate_callee (f := 52) rfl ?_); refine goesL_ (some 15) rfl rfl Tryd.func52 (by kernel_rfl) rfl #[.slice A0 l0.length c0] rfl (by (try simp only [List.map_toArray, List.map_cons, List.map_nil]); first | done | rfl | (simp only [List.length_drop, List.length_take]; rfl)) ?_; (with_reducible refine (limb_Norm.calls k _ _ l0 t210 _ ?side1 ?side2 A2.out).mono ?_); (case side1 => repeat (first | exact HR0.out | (with_reducible refine Kd.C_alloc ?_ _) | (with_reducible refine Kd.C_drewN ?_ _) | (with_reducible refine Kd.C_drew ?_))); (case side2 => exact HC0.out); rintro e w3 ⟨v211, rfl, ho0, hb⟩; refine ⟨_, rfl, ?_⟩; have n0_ := Aside0.mk (Kd.R_lower ho0 (below_size (lB HB))); have n1_ := Aside0.mk (below_step (lB HB) hb); clear HB; have HO212 := n0_; have HB := n1_; clear n0_ n1_; (try clear hb); (try clear hb2); (try clear hk); (try clear hi); (try clear ho0)))
 go_loopg [3, 4] k (fun kq v3 v4 w' => ∃ (x3_1 : List Int) (x4_1 : List Int), Aside0 (limb_Text.l0 kq x3_1 x4_1 = some r) ∧ Aside0 (kq ≤ k) ∧ Aside0 (Kd.R (Kd.int .u32) 76 w' w.heap.size (fun _ => True) v3 x3_1) ∧ Aside0 (Kd.V (Kd.int .u32) 76 w' w.heap.size (fun k_ => some k_ ≠ (v3 : Value).ownBlock) v4 x4_1) ∧ Aside0 (Below w.heap.size w w'))
 case atStart => exact ⟨(([] : List Int)), (t210), H', ⟨Nat.le_refl _⟩, ⟨by first | exact Kd.R_nil _ _ _ _ _ | exact Kd.N_nil _ _ _ _ _ | exact Kd.V_nil _ _ _ _ _ | exact Kd.Q_nil _ _ _ _ _ | exact Kd.S_nil _ _ _ _ _⟩, ⟨Kd.R_V (by (with_reducible repeat (first | apply Kd.R_alloc | apply Kd.R_drewN | apply Kd.R_drew)); exact Kd.R_mono HO212.out (fun _ hk => (by simp [Value.ownBlock])))⟩, ⟨by repeat (first | (with_reducible first | exact HB.out | apply below_alloc | apply pw_below_drewN | apply below_drew1) | exact HB.out)⟩⟩
 case round =>
  clear H'
  obtain ⟨x3_1, x4_1, HA, HK1, HO_3, HO_4, HB⟩ := hrel
  cases gk with
  | zero => exact absurd HA.out (by simp [limb_Text.l0])
  | succ k1 =>
   have H := HA.out
   clear HA
   simp only [limb_Text.l0] at H
   by_cases c4 : (x4_1.length : Int) > 0
   ·rw [if_pos c4] at H
    have c4b0 : decide (0 < (x4_1.length : Int)) = true := decide_eq_true c4
    have c4b1 : decide (0 < x4_1.length) = true := decide_eq_true (by omega)
    clear c4
    replace H := Option.bind_eq_some_iff.mp H
    obtain ⟨⟨t213, t216, t217⟩, A50, H⟩ := H
    replace H : (if x3_1.length < 35184372088832 then (limb_Text.l0 k1 (x3_1 ++ [t216]) t213) else (none)) = some r := H
    have A5 := Aside0.mk A50
    clear A50
    by_cases c6 : x3_1.length < 35184372088832
    ·rw [if_pos c6] at H
     have LMc6 := Aside0.mk c6
     clear c6
     obtain ⟨y218, hy218⟩ : ∃ y_ : List Int, y_ = (x3_1 ++ [t216]) := ⟨_, rfl⟩
     replace H : (limb_Text.l0 k1 y218 t213) = some r := by first | (rw [hy218]; with_reducible exact H) | (have H2_ := (Option.bind_some _ _).symm.trans H; rw [hy218]; with_reducible exact H2_) | (have H2_ := (Option.bind_some _ _).symm.trans H; with_reducible exact H2_) | with_reducible exact H | (rw [hy218]; exact H) | exact H
     have Ny218 := Aside0.mk hy218
     clear hy218
     have H' := Aside0.mk H
     clear H
     obtain ⟨Ao7, co7, eo7⟩ := Kd.V_slice HO_4.out
     subst eo7
     go_wp2_with (first | ((with_reducible refine gate_callee (f := 66) rfl ?_); refine goesL_ (some 21) rfl rfl Tryd.func66 (by kernel_rfl) rfl #[.slice Ao7 x4_1.length co7, .int .u32 1000000000] rfl (by (try simp only [List.map_toArray, List.map_cons, List.map_nil]); first | done | rfl | (simp only [List.length_drop, List.length_take]; rfl)) ?_; (with_reducible refine (limb_DivSmall.calls k1 _ _ x4_1 1000000000 t213 t216 t217 _ ?side1 ?side2 A5.out).mono ?_); (case side1 => repeat (first | exact (Kd.V_reads' HO_4.out).2.2 | (with_reducible refine Kd.C_alloc ?_ _) | (with_reducible refine Kd.C_drewN ?_ _) | (with_reducible refine Kd.C_drew ?_))); (case side2 => exact (Kd.V_reads' HO_4.out).2.1); rintro e w8 ⟨v214, rfl, ho0, hb⟩; refine ⟨_, rfl, ?_⟩; have n0_ := Aside0.mk (Kd.R_below (lR HO_3) hb); have n1_ := Aside0.mk (Kd.V_below (lV HO_4) hb); have n2_ := Aside0.mk (Kd.V_lower (Kd.V_mono (ok' := fun k_ => some k_ ≠ (u3 : Value).ownBlock) ho0 (fun k_ hk_ => (Kd.fresh' (Kd.R_lt (lR HO_3)) k_ hk_))) (below_size (lB HB))); have n3_ := Aside0.mk (below_step (lB HB) hb); clear HO_3 HO_4 HB; have HO_3 := n0_; have HO_4 := n1_; have HO215 := n2_; have HB := n3_; clear n0_ n1_ n2_ n3_; (try clear hb); (try clear hb2); (try clear hk); (try clear hi); (try clear ho0)) | ((with_reducible refine gate_builtin (b := .append) (xs := #[.tmp 25, .tmp 27]) rfl ?_); at_builtin; refine Kd.R_append (Kd.int .u32) (w0 := w) w.heap.size rfl (.tmp 25) (.tmp 27) 37 76 (.int .u32 0) 4 rfl Tryd.underlying37 info76 rfl (by decide) (by omega) u3 x3_1 t216 [.int .u32 t216] (fun _ => True) (fun _ => False) rfl rfl ?aP (fun _ hk => hk.elim) ?aF ?aO ?aB ?aS ?aL ?_; (case aP => exact rfl); (case aB => exact (lB HB)); (case aF => exact (fun _ _ => trivial)); (case aO => exact (lR HO_3)); (case aS => exact (below_size (lB HB))); (case aL => have := LMc6.out; omega); intro v219 w9 ho hb hg hat; rw [← Ny218.out] at ho; have n0_ := Aside0.mk (Kd.V_afterv (ok := (fun _ => True)) (by (with_reducible repeat (first | apply Kd.V_alloc | apply Kd.V_drewN | apply Kd.V_drew)); exact Kd.V_mono HO_4.out (fun _ hk => ⟨trivial, hk⟩)) hg hat); have n1_ := Aside0.mk (Kd.V_afterv (ok := (fun _ => True)) (by (with_reducible repeat (first | apply Kd.V_alloc | apply Kd.V_drewN | apply Kd.V_drew)); exact Kd.V_mono HO215.out (fun _ hk => ⟨trivial, hk⟩)) hg hat); have n2_ := Aside0.mk (hb); have n3_ := Aside0.mk (ho); clear HO_4 HO215 HB HO_3; have HO_4 := n0_; have HO215 := n1_; have HB := n2_; have HO220 := n3_; clear n0_ n1_ n2_ n3_; clear ho hb hg hat))
     go_roundg k1
     case measure => have := HK1.out; omega
     case rel => exact ⟨(y218), (t213), H', ⟨by have := HK1.out; omega⟩, ⟨by (with_reducible repeat (first | apply Kd.R_alloc | apply Kd.R_drewN | apply Kd.R_drew)); exact HO220.out⟩, ⟨by (with_reducible repeat (first | apply Kd.V_alloc | apply Kd.V_drewN | apply Kd.V_drew)); exact Kd.V_mono HO215.out (fun _ hk => hk.2)⟩, ⟨by repeat (first | (with_reducible first | exact HB.out | apply below_alloc | apply pw_below_drewN | apply below_drew1) | exact HB.out)⟩⟩
    ·rw [if_neg c6] at H
     exact absurd H (by simp)
   ·rw [if_neg c4] at H
    have c4b0 : decide (0 < (x4_1.length : Int)) = false := decide_eq_false c4
    have c4b1 : decide (0 < x4_1.length) = false := decide_eq_false (by omega)
    clear c4
    by_cases c10 : (x3_1.length : Int) = 0
    ·rw [if_pos c10] at H
     have c10b0 : ((x3_1.length : Int) == 0) = true := beq_iff_eq.mpr c10
     have c10b1 : ((x3_1.length : Int) != 0) = false := bne_eq_false_iff_eq.mpr c10
     clear c10
     obtain rfl := Option.some.inj H
     obtain ⟨Ao11, co11, eo11⟩ := Kd.V_slice HO_4.out
     subst eo11
     obtain ⟨Ao12, co12, eo12⟩ := Kd.R_slice HO_3.out
     subst eo12
     go_wp2
     go_ret
     exact ⟨by first | rfl | (simp [errW_none, errW_some] <;> rfl) | (simp [*, errW_none, errW_some] <;> rfl), by repeat (first | (with_reducible first | exact HB.out | apply below_alloc | apply pw_below_drewN | apply below_drew1) | exact HB.out)⟩
    ·rw [if_neg c10] at H
     have c10b0 : ((x3_1.length : Int) == 0) = false := beq_eq_false_iff_ne.mpr c10
     have c10b1 : ((x3_1.length : Int) != 0) = true := bne_iff_ne.mpr c10
     have c10b2 : ¬ (x3_1 = []) := fun h_ => c10 (by rw [h_]; rfl)
     obtain ⟨Ao13, co13, eo13⟩ := Kd.V_slice HO_4.out
     subst eo13
     obtain ⟨Ao, co, eo⟩ := Kd.R_slice HO_3.out
     subst eo
     have hn45 : 9 * x3_1.length ≤ 140737488355000 ∧ (x3_1.all fun p => decide (0 ≤ p ∧ p < 1000000000)) = true := by
      by_cases hn : 9 * x3_1.length ≤ 140737488355000 ∧ (x3_1.all fun p => decide (0 ≤ p ∧ p < 1000000000)) = true
      ·exact hn
      ·rw [if_neg hn] at H; cases H
     rw [if_pos hn45] at H
     obtain rfl := Option.some.inj H
     have hps := (Kd.R_reads' HO_3.out).2.2
     have hne : x3_1 ≠ [] := c10b2
     clear H c10
     have HP := Aside0.mk hps
     have HN := Aside0.mk hn45
     have HE := Aside0.mk hne
     clear hps hn45 hne c10b2 HO_3 HO_4 HK1
     have hw64 : wrap64 ((x3_1.length : Int) - 1) = (x3_1.length : Int) - 1 := by
      have h1 := HN.out.1
      unfold wrap64
      omega
     obtain ⟨W0, rfl⟩ : ∃ W0, W0 = wr := ⟨wr, rfl⟩
     go_wp2
     have HBb := Aside0.mk (Lib.fresh_isBuilder 110 5 W0)
     go_loopw [9] (fun v9 w3 => ∃ j : Nat, j ≤ x3_1.length ∧ v9 = .int .i64 ((x3_1.length : Int) - 1 - j) ∧ Aside0 (Lib.IsBuilder 110 5 W0.heap.size W0.heap.size (Lib.byteCells (limbrev (x3_1.reverse.take j))) w3) ∧ Aside0 (Below W0.heap.size W0 w3)) (fun v9 _ => (intOf v9 + 1).toNat)
     case atStart =>
      refine ⟨0, by omega, ?_, ⟨?_⟩, ⟨below_alloc (Below.refl _ _) _⟩⟩
      ·have h1 := HN.out.1
       have h2 : 0 < x3_1.length := List.length_pos_iff.2 HE.out
       unfold wrap64
       congr 1
       omega
      ·have := HBb.out
       simpa [limbrev, Lib.byteCells] using this
     case round =>
      clear HBb
      obtain ⟨j, hj, rfl, HBd, HW⟩ := hrel
      have HJ := Aside0.mk hj
      clear hj
      by_cases hlt : j < x3_1.length
      ·have t1 : decide ((0 : Int) ≤ (x3_1.length : Int) - 1 - j) = true := decide_eq_true (by omega)
       obtain ⟨i, hi⟩ : ∃ i : Int, (x3_1.length : Int) - 1 - j = i := ⟨_, rfl⟩
       rw [hi] at t1
       have HI := Aside0.mk hi
       have i0 : 0 ≤ i := by omega
       have i1 : i < (x3_1.length : Int) := by omega
       rw [hi]
       obtain ⟨ad, hA, hcell⟩ := Kd.at_int HP.out i i0 i1
       cases hA
       obtain ⟨p, hp⟩ : ∃ p, rd x3_1 i = p := ⟨_, rfl⟩
       rw [hp] at hcell
       have HQ := Aside0.mk hp
       have hpb : 0 ≤ p ∧ p < 1000000000 := by
        have hm : p ∈ x3_1 := by
         rw [← hp]
         unfold rd
         rw [List.getD_eq_getElem?_getD, List.getElem?_eq_getElem (by omega)]
         exact List.getElem_mem _
        have := List.all_eq_true.1 HN.out.2 p hm
        simpa using this
       have HPB := Aside0.mk hpb
       replace hcell := (HW.out.cell (World.block_lt_of_cell? W0 _ hcell)).trans hcell
       replace i0 := eq_true i0
       replace i1 := eq_true i1
       have HLT := Aside0.mk hlt
       clear hlt hi hp hpb
       have hlw : ad.block < wr.heap.size := by have := World.block_lt_of_cell? wr _ hcell; rwa [show (ad.add i.toNat).block = ad.block from by unfold Addr.add; split <;> rfl] at this
       have hcell2 : (wr.alloc (.cells #[.int .u8 0, .int .u8 0, .int .u8 0, .int .u8 0, .int .u8 0, .int .u8 0, .int .u8 0, .int .u8 0, .int .u8 0] 111)).cell? (ad.add i.toNat) = some (.int .u32 p) :=
        ((below_alloc (Below.refl wr.heap.size wr) _).cell (World.block_lt_of_cell? wr _ hcell)).trans hcell
       obtain ⟨W1, rfl⟩ : ∃ W1, W1 = wr := ⟨wr, rfl⟩
       go_wp2
       go_loopw [11, 12] (fun v11 v12 w4 => ∃ m : Nat, m ≤ 9 ∧ v11 = .int .u32 (p / 10 ^ m) ∧ v12 = .int .i64 (8 - m) ∧ Aside0 (w4.heap[W1.heap.size]? = some (.cells (buf9 p m) 111 (0, 0))) ∧ Aside0 (Below W1.heap.size W1 w4)) (fun _ v12 _ => (intOf v12 + 1).toNat)
       case atStart => exact ⟨0, by omega, by simp, rfl, ⟨by rw [buf9_zero]; exact Array.getElem?_push_size⟩, ⟨below_alloc (Below.refl _ _) _⟩⟩
       case round =>
        clear hcell hcell2
        obtain ⟨m, hm, rfl, rfl, HC, HW2⟩ := hrel
        have HM := Aside0.mk hm
        clear hm
        by_cases hlt : m < 9
        ·obtain ⟨x, hx⟩ : ∃ x, p / 10 ^ m = x := ⟨_, rfl⟩
         have x0 : 0 ≤ x := by rw [← hx]; exact Int.ediv_nonneg HPB.out.1 (Int.pow_nonneg (by omega))
         have x1 : x < 1000000000 := by rw [← hx]; exact Int.lt_of_le_of_lt (Int.ediv_le_self _ HPB.out.1) HPB.out.2
         obtain ⟨kk, hkk⟩ : ∃ kk : Int, (8 : Int) - m = kk := ⟨_, rfl⟩
         rw [hx, hkk]
         have k0 : (0 : Int) ≤ kk := by omega
         have k1 : kk < 9 := by omega
         have t2 : decide ((0 : Int) ≤ kk) = true := decide_eq_true k0
         obtain ⟨ov, hov⟩ : ∃ ov, (buf9 p m)[kk.toNat]? = some ov := by rw [Array.getElem?_eq_getElem (by rw [buf9_size]; omega)]; exact ⟨_, rfl⟩
         have hcc := (Lib.cell_of_heap HC.out kk.toNat).trans hov
         clear hov
         have hfz := Lib.frozen_of_heap HC.out kk.toNat
         have HX := Aside0.mk hx
         have HKK := Aside0.mk hkk
         have HLT2 := Aside0.mk hlt
         clear hx hkk hlt
         go_wp2
         refine ⟨⟨m + 1, by have := HLT2.out; omega, ?_, ?_, ⟨?_⟩, ⟨HW2.out.setCell (p := ⟨W1.heap.size, kk.toNat, none⟩) (Nat.le_refl _) _⟩⟩, ?_⟩
         ·rw [← HX.out, Int.pow_succ, Int.ediv_ediv_of_nonneg (Int.pow_nonneg (by omega))]
         ·have := HKK.out
          congr 1
          omega
         ·have h2 := blk_set HC.out kk.toNat (.int .u8 (48 + x % 10))
          rw [h2, show kk.toNat = 8 - m by have := HKK.out; have := HLT2.out; omega, ← HX.out, buf9_step p m HLT2.out]
         ·have h1 : intOf (Value.int .i64 (kk - 1)) = kk - 1 := rfl
          have h2 : intOf (Value.int .i64 kk) = kk := rfl
          rw [h1, h2]
          omega
        ·obtain rfl : m = 9 := by have := HM.out; omega
         have hcv := run_convert_bytes_arg (P := Tryd.prog) wr 89 5 Tryd.underlying89 Tryd.underlying5 W1.heap.size 0 9 9 (digs9 p) rfl (fun q hq => by rw [Lib.cell_of_heap HC.out, Nat.zero_add]; exact buf9_full p q hq) 9 Tryd.underlying9
         have HB1 := Aside0.mk (builder_below HBd.out HW2.out)
         have hlen1 : (limbrev (x3_1.reverse.take j)).length ≤ 9 * j := by
          have h1 := limbrev_len (x3_1.reverse.take j)
          have h2 : (x3_1.reverse.take j).length ≤ j := List.length_take_le _ _
          omega
         have hjn := HLT.out
         have hn9 := HN.out.1
         have hW3 : W0.heap.size ≤ wr.heap.size := Nat.le_trans HW.out.size HW2.out.size
         have HL1 := Aside0.mk hlen1
         have HW3 := Aside0.mk hW3
         clear hlen1 hjn hn9 hW3
         by_cases hj0 : j = 0
         ·subst hj0
          have t3 : (i == (x3_1.length : Int) - 1) = true := by have := HI.out; rw [beq_iff_eq]; omega
          go_wp2_with (first | (go_at_call 67; refine (Tryd.strings_TrimLeft_one _ 48 (by decide) _).mono ?_; rintro e w5 ⟨rfl, rfl⟩) | (go_at_call 68; refine (limb_WriteString W0.heap.size W0.heap.size _ _ _ HB1.out ?hlen HW3.out).mono ?_; (case hlen => simp only [limbrev, List.take_zero, Lib.byteCells, List.map_nil, List.length_nil, Nat.zero_add]; have := HN.out.1; have := HLT.out; have h9 : ((Lib.trimLeftB (strOfNums (digs9 p)).data.toList 48).toArray).size ≤ 9 := (List.dropWhile_sublist _).length_le; exact Nat.le_trans h9 (by omega)); rintro e w6 ⟨rfl, hb6, hw6⟩))
          have HB6 := Aside0.mk hb6
          have HW6 := Aside0.mk hw6
          clear hb6 hw6
          refine ⟨?_, ?_⟩
          rotate_left
          ·have h1 := HN.out.1
           have h2 := HI.out
           have h3 := HLT.out
           have h4 : wrap64 (i - 1) = i - 1 := by unfold wrap64; omega
           show (intOf (Value.int .i64 (wrap64 (i - 1))) + 1).toNat < (intOf (Value.int .i64 i) + 1).toNat
           rw [h4]
           show (i - 1 + 1).toNat < (i + 1).toNat
           omega
          (repeat apply Exists.intro)
          refine ⟨?_, by first | rfl | rw [hw64]⟩
          refine ⟨1, by have := HLT.out; omega, ?_, ⟨.inr ?_⟩, ⟨(below_weaken HW.out HW.out.size HW2.out).trans HW6.out⟩⟩
          ·have h1 := HN.out.1
           have h2 := HI.out
           have h3 := HLT.out
           unfold wrap64
           congr 1
           omega
          ·have hb := HB6.out
           rw [limb_take x3_1 0 HLT.out i HI.out, HQ.out]
           simpa [limbrev, Lib.byteCells, Lib.strCells, strOfNums_digs9] using hb
         ·have t3 : (i == (x3_1.length : Int) - 1) = false := by have := HI.out; rw [beq_eq_false_iff_ne]; omega
          go_wp2_with (first | (go_at_call 68; refine (limb_WriteString W0.heap.size W0.heap.size _ _ _ HB1.out ?hlen HW3.out).mono ?_; (case hlen => have := HL1.out; have := HN.out.1; have := HLT.out; rw [Lib.byteCells_length, strOfNums_size]; have h9 : (digs9 p).length = 9 := rfl; omega); rintro e w6 ⟨rfl, hb6, hw6⟩))
          have HB6 := Aside0.mk hb6
          have HW6 := Aside0.mk hw6
          clear hb6 hw6
          refine ⟨?_, ?_⟩
          rotate_left
          ·have h1 := HN.out.1
           have h2 := HI.out
           have h3 := HLT.out
           have h4 : wrap64 (i - 1) = i - 1 := by unfold wrap64; omega
           show (intOf (Value.int .i64 (wrap64 (i - 1))) + 1).toNat < (intOf (Value.int .i64 i) + 1).toNat
           rw [h4]
           show (i - 1 + 1).toNat < (i + 1).toNat
           omega
          (repeat apply Exists.intro)
          refine ⟨?_, by first | rfl | rw [hw64]⟩
          refine ⟨j + 1, by have := HLT.out; omega, ?_, ⟨.inr ?_⟩, ⟨(below_weaken HW.out HW.out.size HW2.out).trans HW6.out⟩⟩
          ·have h1 := HN.out.1
           have h2 := HI.out
           have h3 := HLT.out
           unfold wrap64
           congr 1
           omega
          ·have hb := HB6.out
           rw [limb_take x3_1 j HLT.out i HI.out, HQ.out, limbrev_snoc _ _ (by intro h0; have h5 := congrArg List.length h0; rw [List.length_take, List.length_reverse, List.length_nil] at h5; have h6 := HLT.out; omega), ← byteCells_app, ← strOfNums_digs9, ← Lib.strCells_eq]
           exact hb
      ·have t1 : decide ((0 : Int) ≤ (x3_1.length : Int) - 1 - j) = false := decide_eq_false (by omega)
       obtain rfl : j = x3_1.length := by have := HJ.out; omega
       have HB2 := HBd.out
       rw [List.take_of_length_le (by simp)] at HB2
       have HB3 := Aside0.mk HB2
       clear HB2
       have hsz := HW.out.size
       have HSZ := Aside0.mk hsz
       clear hsz
       go_wp2_with (go_at_call 69; refine (Tryd.Builder_String_any W0.heap.size W0.heap.size (limbrev x3_1.reverse) _ HB3.out HSZ.out).mono ?_; rintro e w4 ⟨rfl, hbw⟩)
       go_ret
       exact ⟨rfl, below_step HB.out (HW.out.trans hbw)⟩

end Go.Proofs.YtakmkhokbcjapaaDoor.XA
end

section
namespace Go.Proofs.YtakmkhokbcjapaaDoor.XA
open Go.Proofs.YtakmkhokbcjapaaDoor.Lift Go.RowKit Go.Proofs.YtakmkhokbcjapaaDoorW.PrintWords Go.Proofs.YtakmkhokbcjapaaDoorW.PrintLast Go.Proofs.YtakmkhokbcjapaaDoorW.PrintMore
attribute [local go_sem] max2_int min2_int max_two min_two max_three min_three max_four min_four   -- for this text's walks alone
set_option linter.unusedVariables false
set_option linter.unusedSimpArgs false

/-! ### integer_Int_Text: function 33 -/
--IMPORT Derived.RangeFuncBox
--IMPORT Derived.RangeFuncLeaves
--IMPORT Derived.Shelf.Abstract
--IMPORT Derived.OwnWalkIn
--IMPORT Derived.TacticsInMore
--IMPORT Derived.LoopNIn
--IMPORT Derived.LoopIn
--IMPORT Derived.Maps.AppendAt
--IMPORT Derived.Lib.OthersKept
--IMPORT Derived.Laws.RangeAny
--IMPORT Derived.Laws.RangeString
section
attribute [local go_sem] Oper.semAt_some
/-- The digits of a text, as the iterator hands them. -/
def dsOf (s : ByteArray) : List Int := s.data.toList.map fun b => (b.toNat : Int) - 48
theorem dsOf_length (s : ByteArray) : (dsOf s).length = s.size := by unfold dsOf; rw [List.length_map, Array.length_toList]; rfl
theorem dsOf_get (s : ByteArray) (k : Nat) (hk : k < s.size) : (dsOf s)[k]? = some (((s[k]'hk).toNat : Int) - 48) := by
 unfold dsOf
 rw [List.getElem?_map, Array.getElem?_toList, Array.getElem?_eq_getElem (show k < s.data.size from hk)]
 rfl
set_option maxRecDepth 100000 in
set_option maxHeartbeats 2000000 in
theorem digits1_in (F : Fence) (n : Nat) (h62 : F.fn 62) (hro : F.round = none) (hn : 1 ≤ n) (l Bn : Nat) (s : ByteArray) (hs : ∀ k (hk : k < s.size), 48 ≤ (s[k]'hk).toNat ∧ (s[k]'hk).toNat < 58) (J Jx : List Int → World → Prop) (W : World)
  (hJ : AbidesFrom W.heap.size J)
  (hY : ∀ pre x W1, J pre W1 → pre.length < s.size → YieldAt F (n - 1) Tryd.prog l #[.int .i64 x] W1 fun e W' =>
   (e = .returned (.bool true) ∧ J (pre ++ [x]) W' ∧ KeepsWalks W1 W') ∨ (e = .returned (.bool false) ∧ Jx (pre ++ [x]) W'))
  (hBn : W.cell? ⟨Bn, 0, none⟩ = some (.string s)) (h0 : J [] W) :
  CallsIn F n Tryd.prog 62 #[.func (.yield l) #[] #[], .pointer (some ⟨Bn, 0, none⟩)] W fun e W' => (∃ v, e = .returned v) ∧
   ((∃ ys, ys = dsOf s ∧ J ys W') ∨ (∃ pre, pre <+: dsOf s ∧ Jx pre W')) := by
 refine callsIn_of_wp Tryd.func62 rfl h62 ?_ hro
 simp only [Tryd.ntmps62, List.size_toArray, List.length_cons, List.length_nil, Nat.reduceAdd, Nat.reduceSub, Array.replicate_succ, Array.replicate_zero, List.push_toArray, List.append_toArray, List.nil_append, List.cons_append]
 gi_wp2
 gi_loopw [] (fun wr => ∃ k : Nat, k ≤ s.size ∧ wr.heap[W.heap.size]? = some (.stringIter s k) ∧ J ((dsOf s).take k) wr) (fun wr => s.size - wr.iterPos W.heap.size)
 case atStart =>
  refine ⟨0, Nat.zero_le _, World.iter_heap W s 0, ?_⟩
  rw [List.take_zero]
  exact hJ [] W _ none h0 (World.grownBy_alloc W _ none) (fun r e => by cases e)
 case round =>
  obtain ⟨k, hk, hit, hJk⟩ := hrel
  by_cases hp : k < s.size
  ·have hd := hs k hp
   have hnx : ∀ ty, (Instr.next (.pointer (some ⟨W.heap.size, 0, none⟩)) true ty).run Tryd.prog wr = _ := fun ty => Lib.run_next_ascii_at wr W.heap.size s k ty hit hp (by omega)
   have hit2 := Lib.iterAt_heap wr W.heap.size s k (k + 1) hit
   have hJ2 : J ((dsOf s).take k) (wr.iterAt W.heap.size s (k + 1)) := hJ _ wr _ (some W.heap.size) hJk
    ⟨rfl, rfl, rfl, by rw [Lib.iterAt_size]; exact Nat.le_refl _, fun i hi hne => Lib.iterAt_other wr W.heap.size i s (k + 1) (fun e => hne (by rw [e]))⟩
    (fun r e => by cases e; exact ⟨Nat.le_refl _, _, hit, rfl⟩)
   obtain ⟨c, hc⟩ : ∃ c : Nat, (s[k]'hp).toNat = c := ⟨_, rfl⟩
   have htk : (dsOf s).take (k + 1) = (dsOf s).take k ++ [(c : Int) - 48] := by
    rw [List.take_add_one, dsOf_get s k hp, hc]; rfl
   rw [hc] at hd
   rw [hc] at hnx
   have h48 : (48 : Int) ≤ (c : Int) := by omega
   have h58 : (c : Int) < 58 := by omega
   obtain ⟨fn, tmps, assign, body, hy, hR⟩ := hY _ ((c : Int) - 48) _ hJ2 (by rw [List.length_take, dsOf_length]; omega)
   gi_wp2
   refine hR.mono ?_
   rintro e W3 (⟨rfl, hJ3, hk3⟩ | ⟨rfl, hJx3⟩)
   ·have hit3 := hk3.same W.heap.size _ hit2 rfl
    gi_wp2
    go_roundw
    case rel => exact ⟨k + 1, by omega, hit3, by rw [htk]; exact hJ3⟩
    case measure => simp only [World.iterPos, hit3, hit]; omega
   ·gi_wp2
    refine bodyPost_ret (results_none rfl _ _ _) rfl ?_
    exact ⟨⟨_, rfl⟩, .inr ⟨_, ⟨(dsOf s).drop (k + 1), by rw [← htk]; exact List.take_append_drop _ _⟩, hJx3⟩⟩
  ·have hnx : ∀ ty, (Instr.next (.pointer (some ⟨W.heap.size, 0, none⟩)) true ty).run Tryd.prog wr = _ := fun ty => Lib.run_next_end_at wr W.heap.size s k ty hit hp
   gi_wp2
   go_end0
   exact ⟨⟨_, rfl⟩, .inl ⟨_, rfl, by rw [List.take_of_length_le (by rw [dsOf_length]; omega)] at hJk; exact hJk⟩⟩
theorem limb_Digits.calls (k : Nat) (A0 : Option Addr) (c0 : Nat) (l0 : List Int) (r : ByteArray) (w : World) (hr0 : Kd.C (Kd.int .u32) w A0 l0.length l0) (hc0 : l0.length ≤ c0) (h : limb_Text.f k l0 = some r) :
  Calls Tryd.prog 49 #[.slice A0 l0.length c0] w fun e w' => ∃ g, e = .returned (.func (.func 62) #[] #[.pointer (some ⟨g, 0, none⟩)]) ∧ w.heap.size ≤ g ∧ Boxed w' g 9 (.string r) ∧ Below w.heap.size w w' := by
 go_enter Tryd.func49, Tryd.ntmps49
 go_wp2_with (go_at_call 61; refine (limb_Text.calls k _ _ l0 r _ hr0 hc0 h).mono ?_; rintro e w1 ⟨rfl, hb⟩)
 go_ret
 exact ⟨_, rfl, hb.size, Boxed.new w1 9 _, hb.alloc hb.size _⟩
theorem by9_digit (p : Int) : ∀ b ∈ by9 p, 48 ≤ b.toNat ∧ b.toNat < 58 := by
 intro b hb
 obtain ⟨n, hn, rfl⟩ := List.mem_map.1 hb
 obtain ⟨i, _, rfl⟩ := List.mem_map.1 hn
 unfold dg
 generalize p / 10 ^ (8 - i) = q
 have h1 : 0 ≤ q % 10 := Int.emod_nonneg _ (by decide)
 have h2 : q % 10 < 10 := Int.emod_lt_of_pos _ (by decide)
 obtain ⟨m, hm⟩ : ∃ m : Nat, q % 10 = m := ⟨(q % 10).toNat, by omega⟩
 rw [hm, show ((48 : Int) + m).toNat = 48 + m by omega, UInt8.toNat_ofNat']
 omega
theorem limbrev_digit (l : List Int) : ∀ b ∈ limbrev l, 48 ≤ b.toNat ∧ b.toNat < 58 := by
 intro b hb
 cases l with
 | nil => cases hb
 | cons p r =>
  rcases List.mem_append.1 hb with h | h
  ·exact by9_digit p b ((List.dropWhile_sublist _).subset h)
  ·obtain ⟨q, _, hq⟩ := List.mem_flatMap.1 h
   exact by9_digit q b hq
theorem bytes_digit (l : List UInt8) (hl : ∀ b ∈ l, 48 ≤ b.toNat ∧ b.toNat < 58) : ∀ i (hi : i < (⟨l.toArray⟩ : ByteArray).size), 48 ≤ ((⟨l.toArray⟩ : ByteArray)[i]'hi).toNat ∧ ((⟨l.toArray⟩ : ByteArray)[i]'hi).toNat < 58 :=
 fun i hi => hl _ (List.getElem_mem (show i < l.length from hi))
theorem limb_Text_some (k : Nat) : ∀ (x3 x4 : List Int) (s : ByteArray), limb_Text.l0 k x3 x4 = some s → (∀ i (hi : i < s.size), 48 ≤ (s[i]'hi).toNat ∧ (s[i]'hi).toNat < 58) ∧ s.size ≤ 140737488355000 := by
 induction k with
 | zero => intro x3 x4 s h; cases h
 | succ k ih =>
  intro x3 x4 s h
  simp only [limb_Text.l0] at h
  by_cases c1 : (x4.length : Int) > 0
  ·rw [if_pos c1] at h
   obtain ⟨t, _, h⟩ := Option.bind_eq_some_iff.mp h
   by_cases c2 : x3.length < 35184372088832
   ·rw [if_pos c2] at h
    exact ih _ _ _ h
   ·rw [if_neg c2] at h
    cases h
  ·rw [if_neg c1] at h
   by_cases c2 : (x3.length : Int) = 0
   ·rw [if_pos c2] at h
    cases h
    exact ⟨bytes_digit [48] (by intro b hb; obtain rfl := List.mem_singleton.1 hb; decide), by decide⟩
   ·rw [if_neg c2] at h
    by_cases c3 : 9 * x3.length ≤ 140737488355000 ∧ (x3.all fun p => decide (0 ≤ p ∧ p < 1000000000)) = true
    ·rw [if_pos c3] at h
     cases h
     refine ⟨bytes_digit _ (limbrev_digit _), ?_⟩
     have h1 := limbrev_len x3.reverse
     rw [List.length_reverse] at h1
     exact Nat.le_trans (show (limbrev x3.reverse).length ≤ _ from h1) c3.1
    ·rw [if_neg c3] at h
     cases h
theorem conv_own {w : World} {base n : Nat} {v : Value} {zs : List Int} (hn : n = zs.length) (h : w.ownsRow base 5 1 v n (zs.map (Value.int .u8))) : (convert 89 9 v).run Tryd.prog w = .ok (.string (strOfNums zs)) w := by
 subst hn
 rcases h.2 with ⟨rfl, h0⟩ | ⟨g, cap, cur, rfl, _, hh, hn, _, hcs, ht⟩
 ·obtain rfl : zs = [] := List.eq_nil_of_length_eq_zero h0
  exact run_convert_bytes_nil (P := Tryd.prog) w 89 5 Tryd.underlying89 Tryd.underlying5 0 0 9 Tryd.underlying9
 ·refine run_convert_bytes_arg (P := Tryd.prog) w 89 5 Tryd.underlying89 Tryd.underlying5 g 0 zs.length cap zs rfl (fun i hi => ?_) 9 Tryd.underlying9
  rw [Lib.cell_of_heap hh, Nat.zero_add, ← Array.getElem?_toList]
  have h2 : (cur.toList.take (zs.length * 1))[i]? = (zs.map (Value.int .u8))[i]? := by rw [ht]
  rw [List.getElem?_take, if_pos (by omega), List.getElem?_map, List.getElem?_eq_getElem hi] at h2
  rw [h2, List.getD_eq_getElem?_getD, List.getElem?_eq_getElem hi]
  rfl
def chrOf (x : Int) : Int := wrap64 (48 + x) % 256
theorem map_chr (s : ByteArray) (hs : ∀ i (hi : i < s.size), 48 ≤ (s[i]'hi).toNat ∧ (s[i]'hi).toNat < 58) : (dsOf s).map chrOf = (dsOf s).map fun d => 48 + d := by
 apply List.map_congr_left
 intro d hd
 obtain ⟨k, hk, rfl⟩ := List.mem_iff_getElem.1 hd
 have hk' : k < s.size := by rwa [dsOf_length] at hk
 have h1 := dsOf_get s k hk'
 rw [List.getElem?_eq_getElem hk] at h1
 have h2 := Option.some.inj h1
 have h3 := hs k hk'
 rw [h2]
 unfold chrOf wrap64
 omega
def integer_Int_Text.f (k : Nat) (a0_0 : Bool) (l0_1 : List Int) : Option (ByteArray) := (limb_Text.f k l0_1).bind fun s => some (strOfNums ((if a0_0 then [45] else []) ++ (dsOf s).map fun d => 48 + d))
theorem integer_Int_Text.mono : ∀ a0 a1 k, LeO (integer_Int_Text.f k a0 a1) (integer_Int_Text.f (k + 1) a0 a1) := by
 intro a0 a1 k
 unfold integer_Int_Text.f
 exact LeO.bind (limb_Text.mono _ _) (fun _ => LeO.refl _)
set_option maxRecDepth 100000 in
set_option maxHeartbeats 4000000 in
theorem integer_Int_Text.calls (k : Nat) (a0_0 : Bool) (A0_1 : Option Addr) (c0_1 : Nat) (l0_1 : List Int) (r : ByteArray) (w : World) (hr0_1 : Kd.C (Kd.int .u32) w A0_1 l0_1.length l0_1) (hc0_1 : l0_1.length ≤ c0_1) (h : integer_Int_Text.f k a0_0 l0_1 = some r) :
  Calls Tryd.prog 33 #[.agg #[.bool a0_0, .slice A0_1 l0_1.length c0_1]] w fun e w' => e = .returned (.string r) ∧ Below w.heap.size w w' := by
 obtain ⟨s, hs, hr⟩ := Option.bind_eq_some_iff.mp h
 obtain rfl := Option.some.inj hr
 have hsd : (∀ i (hi : i < s.size), 48 ≤ (s[i]'hi).toNat ∧ (s[i]'hi).toNat < 58) ∧ s.size ≤ 140737488355000 := by
  obtain ⟨x, _, hx⟩ := Option.bind_eq_some_iff.mp hs
  exact limb_Text_some k _ _ _ hx
 have HSD := Aside0.mk hsd
 clear hsd hr h
 obtain ⟨i0, hi, hz0, hz1, hz2⟩ := info_parts (show (Tryd.prog.info? 5).map (fun i => (i.zero, i.size, i.bytes)) = some (some (.int .u8 0), 1, 1) by kernel_rfl)
 have hu39 := Tryd.underlying39
 refine (callsIn_wide (n := 3)).1 ?_
 refine callsIn_of_wp_marks Tryd.func33 rfl trivial ?_ rfl
 simp only [Tryd.ntmps33, List.size_toArray, List.length_cons, List.length_nil, Nat.reduceAdd, Nat.reduceSub, Array.replicate_succ, Array.replicate_zero, List.push_toArray, List.append_toArray, List.nil_append, List.cons_append]
 cases a0_0
 ·gi_wp2_with (refine ⟨trivial, ?_⟩; gi_at_call 49; refine (callsIn_wide.2 (limb_Digits.calls k _ _ l0_1 s _ (Kd.C_below hr0_1 (below_alloc (below_alloc (Below.refl _ _) _) _)) hc0_1 hs)).mono ?_; rintro e w1 ⟨g, rfl, hg, hbox, hb1⟩)
  have bO1 := Boxed.new (w.alloc (.cells #[.bool false, .slice A0_1 l0_1.length c0_1] 39)) 89 (.slice none 0 0)
  rw [World.size_alloc] at bO1
  have bO : Boxed w1 (w.heap.size + 1) 89 (.slice none 0 0) := (hb1.block _ bO1.lt).trans bO1
  have hrow : w1.ownsRow w.heap.size 5 1 (.slice none 0 0) ([] : List Int).length ((([] : List Int).map chrOf).map (Value.int .u8)) := World.ownsRow_nil _ _ _ _
  have hB0 : Below w.heap.size w w1 := below_step (below_alloc (below_alloc (Below.refl _ _) _) _) hb1
  have hgl : g < w1.heap.size := hbox.lt
  have stops : SeqStopsK Fence.wide 2 Tryd.prog 62 #[.pointer (some ⟨g, 0, none⟩)] (fun x : Int => #[Value.int .i64 x]) KeepsWalks (fun ys => ys = dsOf s) (fun pre => pre <+: dsOf s) s.size w1 := fun l J Jx W hW hJ hJx hY h0 =>
   digits1_in Fence.wide 2 trivial rfl (by omega) l g s HSD.out.1 J Jx W hJ hY ((hW.cell (p := ⟨g, 0, none⟩) hgl).trans hbox.cell) h0
  refine wpIn_rangeFunc_ownG rfl (by omega) (gf := 62) (lb := #[.pointer (some ⟨g, 0, none⟩)]) rfl trivial (enters_of Tryd.func62 (by kernel_rfl) rfl)
   stops walksK_t (fun W l o o' hl ho hc hw => KeepsWalks.putObj _ ho hw) (Below.refl _ _) (fun _ => rfl)
   (fun (pre : List Int) W => (∃ v, Boxed W (w.heap.size + 1) 89 v ∧ W.ownsRow w.heap.size 5 1 v pre.length ((pre.map chrOf).map (Value.int .u8)) ∧ True) ∧ Below w.heap.size w W)
   (fun _ _ _ => False)
   (OwnFrom.and (Own.from (holdsRow_own w.heap.size (w.heap.size + 1) 89 5 1 (fun (pre : List Int) => pre.length) (fun (pre : List Int) => (pre.map chrOf).map (Value.int .u8)) (fun _ _ => True)) _) (ownFrom_below (Nat.le_refl _) hB0.size))
   (fun _ _ _ _ _ hs _ _ => hs)
   ⟨⟨_, bO, hrow, trivial⟩, hB0⟩
   (fun x => { tmps := #[.agg #[.bool false, .slice A0_1 l0_1.length c0_1], .pointer (some ⟨w.heap.size, 0, none⟩), .string { data := #[] }, .pointer (some ⟨w.heap.size + 1, 0, none⟩), .int .i64 x, .pointer (some ⟨w.heap.size, 0, none⟩), .bool false, undef, undef, undef, .pointer (some ⟨w.heap.size, 1, none⟩), .slice A0_1 l0_1.length c0_1, .func (.func 62) #[] #[.pointer (some ⟨g, 0, none⟩)], .int .i64 x, undef, undef, undef, undef, undef, undef, undef, undef], defers := [] }) ?assign ?body ?done ?stop
  case assign =>
   intro l x W K hK
   gi_wp2
   exact hK
  case body =>
   rintro l pre x W ⟨⟨v, hv, hrow, _⟩, hB⟩ hlt
   have hc := hv.cell
   have hln := HSD.out.2
   gi_wp2_with (gi_at_builtin; refine wpListIn_append_own _ rfl _ _ 89 rfl w.heap.size 5 i0 (.int .u8 0) 1 1 Tryd.underlying89 hi hz0 hz1 hz2 rfl (by decide) _ _ _ rfl (hrow.alloc _) ⟨W.heap.size, 0, none⟩ 1 1 [.int .u8 (chrOf x)] rfl rfl (cell_one_new _ _ _) (by intro u hu; obtain rfl := List.mem_singleton.1 hu; rfl) (by unfold maxLen; omega) (by omega) (by have := hB.size; rw [World.size_alloc]; omega) ?_; intro v' w2 hown' hgrow _; obtain ⟨g', cap', rfl⟩ := ownsRow_succ hown'; obtain ⟨hv1, hv2, hr2, hk2, hb2⟩ := hv.appended (by decide) hrow hB.size (Nat.le_succ _) hown' hgrow; have hc1 := hv1.cell; have hf1 := hv1.frozen)
   refine ⟨hk2.from _, hk2.walks, ⟨_, hv2, ?_, trivial⟩, hB.trans hb2⟩
   simpa using hr2
  case done =>
   rintro D ys W hD rfl ⟨⟨v, hv, hrow, _⟩, hB⟩ hK
   have hc := hv.cell
   have hcv := conv_own (by simp) hrow
   gi_wp2
   refine ⟨by simp, .inl ⟨_, _, rfl, run_takeDeferred hK, ?_⟩⟩
   refine ⟨_, results_tmp rfl _ _ _, ?_, hB.trans (belowK_b (w := w) (Nat.le_refl _) W D _ _ (Nat.le_trans hB0.size hD) hK rfl rfl)⟩
   rw [map_chr s HSD.out.1]; rfl
  case stop =>
   rintro D c pre W _ _ h _
   exact h.elim
 ·have hblW : Below w.heap.size w ((((w.alloc (.cells #[.bool true, .slice A0_1 l0_1.length c0_1] 39)).alloc (.cells #[.slice (some ⟨w.heap.size + 1 + 1 + 1, 0, none⟩) 1 (grownCap w 1 0 5)] 89)).alloc (.cells #[.int .u8 45] 5)).alloc (.cells (#[.int .u8 45] ++ Builtin.zeroCells #[.int .u8 0] (grownCap w 1 0 5 - 1)) 5)).drew := below_drew (below_alloc (below_alloc (below_alloc (below_alloc (Below.refl _ _) _) _) _) _)
  gi_wp2_with (refine ⟨trivial, ?_⟩; gi_at_call 49; refine (callsIn_wide.2 (limb_Digits.calls k _ _ l0_1 s _ (Kd.C_below hr0_1 hblW) hc0_1 hs)).mono ?_; rintro e w1 ⟨g, rfl, hg, hbox, hb1⟩)
  have bX := ((Boxed.new (w.alloc (.cells #[.bool true, .slice A0_1 l0_1.length c0_1] 39)) 89 (.slice (some ⟨w.heap.size + 1 + 1 + 1, 0, none⟩) 1 (grownCap w 1 0 5))).alloc (.cells #[.int .u8 45] 5)).alloc (.cells (#[.int .u8 45] ++ Builtin.zeroCells #[.int .u8 0] (grownCap w 1 0 5 - 1)) 5)
  have bO : Boxed w1 (w.heap.size + 1) 89 (.slice (some ⟨w.heap.size + 1 + 1 + 1, 0, none⟩) 1 (grownCap w 1 0 5)) := by
   rw [World.size_alloc] at bX
   exact (hb1.block _ bX.lt).trans bX
  have hg1 : 1 ≤ grownCap w 1 0 5 := grownCap_ge w 1 0 5
  have hg2 : grownCap w 1 0 5 ≤ maxLen := grownCap_le_maxLen w 1 0 5 (by unfold maxLen; omega)
  have hrow : w1.ownsRow w.heap.size 5 1 (.slice (some ⟨w.heap.size + 1 + 1 + 1, 0, none⟩) 1 (grownCap w 1 0 5)) (([] : List Int).length + 1) ((45 :: ([] : List Int).map chrOf).map (Value.int .u8)) := by
   have hx := World.alloc_heap_new (((w.alloc (.cells #[.bool true, .slice A0_1 l0_1.length c0_1] 39)).alloc (.cells #[.slice (some ⟨w.heap.size + 1 + 1 + 1, 0, none⟩) 1 (grownCap w 1 0 5)] 89)).alloc (.cells #[.int .u8 45] 5)) (.cells (#[.int .u8 45] ++ Builtin.zeroCells #[.int .u8 0] (grownCap w 1 0 5 - 1)) 5)
   have hlt := (Array.getElem?_eq_some_iff.1 hx).1
   have hx2 := (hb1.block _ hlt).trans hx
   rw [World.size_alloc, World.size_alloc, World.size_alloc] at hx2
   exact ⟨rfl, .inr ⟨_, _, _, rfl, by omega, hx2, hg1, hg2, by rw [Array.size_append, size_zeroCells]; show 1 + (grownCap w 1 0 5 - 1) * 1 = grownCap w 1 0 5 * 1; omega, by rw [Array.toList_append]; rfl⟩⟩
  have hB0 : Below w.heap.size w w1 := below_step hblW hb1
  have hgl : g < w1.heap.size := hbox.lt
  have stops : SeqStopsK Fence.wide 2 Tryd.prog 62 #[.pointer (some ⟨g, 0, none⟩)] (fun x : Int => #[Value.int .i64 x]) KeepsWalks (fun ys => ys = dsOf s) (fun pre => pre <+: dsOf s) s.size w1 := fun l J Jx W hW hJ hJx hY h0 =>
   digits1_in Fence.wide 2 trivial rfl (by omega) l g s HSD.out.1 J Jx W hJ hY ((hW.cell (p := ⟨g, 0, none⟩) hgl).trans hbox.cell) h0
  refine wpIn_rangeFunc_ownG rfl (by omega) (gf := 62) (lb := #[.pointer (some ⟨g, 0, none⟩)]) rfl trivial (enters_of Tryd.func62 (by kernel_rfl) rfl)
   stops walksK_t (fun W l o o' hl ho hc hw => KeepsWalks.putObj _ ho hw) (Below.refl _ _) (fun _ => rfl)
   (fun (pre : List Int) W => (∃ v, Boxed W (w.heap.size + 1) 89 v ∧ W.ownsRow w.heap.size 5 1 v (pre.length + 1) ((45 :: pre.map chrOf).map (Value.int .u8)) ∧ True) ∧ Below w.heap.size w W)
   (fun _ _ _ => False)
   (OwnFrom.and (Own.from (holdsRow_own w.heap.size (w.heap.size + 1) 89 5 1 (fun (pre : List Int) => (pre.length + 1)) (fun (pre : List Int) => (45 :: pre.map chrOf).map (Value.int .u8)) (fun _ _ => True)) _) (ownFrom_below (Nat.le_refl _) hB0.size))
   (fun _ _ _ _ _ hs _ _ => hs)
   ⟨⟨_, bO, hrow, trivial⟩, hB0⟩
   (fun x => { tmps := #[.agg #[.bool true, .slice A0_1 l0_1.length c0_1], .pointer (some ⟨w.heap.size, 0, none⟩), .string { data := #[] }, .pointer (some ⟨w.heap.size + 1, 0, none⟩), .int .i64 x, .pointer (some ⟨w.heap.size, 0, none⟩), .bool true, .slice none 0 0, .slice (some ⟨w.heap.size + 1 + 1, 0, none⟩) 1 1, .slice (some ⟨w.heap.size + 1 + 1 + 1, 0, none⟩) 1 (grownCap w 1 0 5), .pointer (some ⟨w.heap.size, 1, none⟩), .slice A0_1 l0_1.length c0_1, .func (.func 62) #[] #[.pointer (some ⟨g, 0, none⟩)], .int .i64 x, undef, undef, undef, undef, undef, undef, undef, undef], defers := [] }) ?assign ?body ?done ?stop
  case assign =>
   intro l x W K hK
   gi_wp2
   exact hK
  case body =>
   rintro l pre x W ⟨⟨v, hv, hrow, _⟩, hB⟩ hlt
   have hc := hv.cell
   have hln := HSD.out.2
   gi_wp2_with (gi_at_builtin; refine wpListIn_append_own _ rfl _ _ 89 rfl w.heap.size 5 i0 (.int .u8 0) 1 1 Tryd.underlying89 hi hz0 hz1 hz2 rfl (by decide) _ _ _ rfl (hrow.alloc _) ⟨W.heap.size, 0, none⟩ 1 1 [.int .u8 (chrOf x)] rfl rfl (cell_one_new _ _ _) (by intro u hu; obtain rfl := List.mem_singleton.1 hu; rfl) (by unfold maxLen; omega) (by omega) (by have := hB.size; rw [World.size_alloc]; omega) ?_; intro v' w2 hown' hgrow _; obtain ⟨g', cap', rfl⟩ := ownsRow_succ hown'; obtain ⟨hv1, hv2, hr2, hk2, hb2⟩ := hv.appended (by decide) hrow hB.size (Nat.le_succ _) hown' hgrow; have hc1 := hv1.cell; have hf1 := hv1.frozen)
   refine ⟨hk2.from _, hk2.walks, ⟨_, hv2, ?_, trivial⟩, hB.trans hb2⟩
   simpa using hr2
  case done =>
   rintro D ys W hD rfl ⟨⟨v, hv, hrow, _⟩, hB⟩ hK
   have hc := hv.cell
   have hcv := conv_own (by simp) hrow
   gi_wp2
   refine ⟨by simp, .inl ⟨_, _, rfl, run_takeDeferred hK, ?_⟩⟩
   refine ⟨_, results_tmp rfl _ _ _, ?_, hB.trans (belowK_b (w := w) (Nat.le_refl _) W D _ _ (Nat.le_trans hB0.size hD) hK rfl rfl)⟩
   rw [map_chr s HSD.out.1]; rfl
  case stop =>
   rintro D c pre W _ _ h _
   exact h.elim
end

end Go.Proofs.YtakmkhokbcjapaaDoor.XA
end

section
namespace Go.Proofs.YtakmkhokbcjapaaDoor.XA
open Go.Proofs.YtakmkhokbcjapaaDoor.Lift Go.RowKit Go.Proofs.YtakmkhokbcjapaaDoorW.PrintWords Go.Proofs.YtakmkhokbcjapaaDoorW.PrintLast Go.Proofs.YtakmkhokbcjapaaDoorW.PrintMore
attribute [local go_sem] max2_int min2_int max_two min_two max_three min_three max_four min_four   -- for this text's walks alone
set_option linter.unusedVariables false
set_option linter.unusedSimpArgs false

/-! ### swageref02_divide: function 50 -/
def swageref02_divide.l0 : Nat → List Int → List Int → List Int → Int → Int → Option (List Int × List Int)
 | 0, _, _, _, _, _ => none
 | k + 1, x0, x1, x6, x7, x8 => if x8 ≥ 0 then (if 0 ≤ x8 then (if x8 < (x0.length : Int) then (if 0 < (x1.length : Int) then (if (IntKind.u64.wrap (rd x1 0)) = 0 then (none) else (if x8 < (x6.length : Int) then (swageref02_divide.l0 k x0 x1 (x6.set (x8 : Int).toNat ((IntKind.u64.wrap (Int.tdiv (IntKind.u64.wrap ((IntKind.u64.wrap (x7 * 65536)) + (IntKind.u64.wrap (rd x0 x8)))) (IntKind.u64.wrap (rd x1 0)))) % 4294967296)) (Int.tmod (IntKind.u64.wrap ((IntKind.u64.wrap (x7 * 65536)) + (IntKind.u64.wrap (rd x0 x8)))) (IntKind.u64.wrap (rd x1 0))) (wrap64 (x8 - 1))) else (none))) else (none)) else (none)) else (none)) else ((swageref02_norm.f k false x6).bind fun bt249 => ((swageref02_norm.f k false (([(x7) % 4294967296] : List Int))).bind fun bt256 => (some (bt249.2, bt256.2))))
def swageref02_divide.f (k : Nat) (l0 : List Int) (l1 : List Int) : Option (List Int × List Int) := if (l1.length : Int) = 1 then (if 0 ≤ (l0.length : Int) then (if ((l0.length : Int) : Int).toNat ≤ 70368744177664 then (swageref02_divide.l0 k l0 l1 (List.replicate ((l0.length : Int) : Int).toNat 0) 0 (wrap64 ((l0.length : Int) - 1))) else (none)) else (none)) else (none)
theorem swageref02_divide.mono_l : ∀ k, (∀ y0 y1 y2 y3 y4, LeO (swageref02_divide.l0 k y0 y1 y2 y3 y4) (swageref02_divide.l0 (k + 1) y0 y1 y2 y3 y4))
 | 0 => fun _ _ _ _ _ r h => by simp [swageref02_divide.l0] at h
 | k + 1 => by
  have ih0 := swageref02_divide.mono_l k
  ·intro y0 y1 y2 y3 y4
   unfold swageref02_divide.l0
   repeat' first
   | (with_reducible exact ih0 _ _ _ _ _)
   | (with_reducible exact swageref02_norm.mono _ _ _)
   | (with_reducible exact LeO.refl _)
   | (with_reducible exact LeO.none _)
   | (with_reducible refine LeO.ite ?_ ?_)
   | (with_reducible refine LeO.bind ?_ (fun _ => ?_))
   | exact ih0 _ _ _ _ _
   | exact swageref02_norm.mono _ _ _
   | exact LeO.none _
   | refine LeO.ite ?_ ?_
   | refine LeO.bind ?_ (fun _ => ?_)
theorem swageref02_divide.mono : ∀ a0 a1 k, LeO (swageref02_divide.f k a0 a1) (swageref02_divide.f (k + 1) a0 a1) := by
 intro a0 a1 k
 have ih0 := swageref02_divide.mono_l k
 unfold swageref02_divide.f
 repeat' first
   | (with_reducible exact ih0 _ _ _ _ _)
   | (with_reducible exact swageref02_norm.mono _ _ _)
   | (with_reducible exact LeO.refl _)
   | (with_reducible exact LeO.none _)
   | (with_reducible refine LeO.ite ?_ ?_)
   | (with_reducible refine LeO.bind ?_ (fun _ => ?_))
   | exact ih0 _ _ _ _ _
   | exact swageref02_norm.mono _ _ _
   | exact LeO.none _
   | refine LeO.ite ?_ ?_
   | refine LeO.bind ?_ (fun _ => ?_)
set_option maxHeartbeats 8000000 in
set_option maxRecDepth 100000 in
theorem swageref02_divide.calls (k : Nat) (A0 : Option Addr) (c0 : Nat) (l0 : List Int) (A1 : Option Addr) (c1 : Nat) (l1 : List Int) (r1 : List Int) (r2 : List Int) (w : World) (hr0 : Kd.C (Kd.int .u32) w A0 l0.length l0) (hc0 : l0.length ≤ c0) (hr1 : Kd.C (Kd.int .u32) w A1 l1.length l1) (hc1 : l1.length ≤ c1) (h : swageref02_divide.f k l0 l1 = some (r1, r2)) :
  Calls Tryd.prog 50 #[.slice A0 l0.length c0, .slice A1 l1.length c1] w fun e w' => ∃ v0_ v1_ : Value, e = .returned (.tuple #[v0_, v1_]) ∧ Kd.V (Kd.int .u32) 76 w' w.heap.size (fun k_ => (w.heap.size ≤ k_)) v0_ r1 ∧ Kd.V (Kd.int .u32) 76 w' w.heap.size (fun k_ => (w.heap.size ≤ k_)) v1_ r2 ∧ Below w.heap.size w w' := by
 have hu68 := Tryd.underlying68
 have HR0 := Aside0.mk hr0
 have HC0 := Aside0.mk hc0
 clear hr0 hc0
 have HR1 := Aside0.mk hr1
 have HC1 := Aside0.mk hc1
 clear hr1 hc1
 have HB := Aside0.mk (Below.refl w.heap.size w)
 have H : (if (l1.length : Int) = 1 then (if 0 ≤ (l0.length : Int) then (if ((l0.length : Int) : Int).toNat ≤ 70368744177664 then (swageref02_divide.l0 k l0 l1 (List.replicate ((l0.length : Int) : Int).toNat 0) 0 (wrap64 ((l0.length : Int) - 1))) else (none)) else (none)) else (none)) = some (r1, r2) := h
 clear h
 by_cases c3 : (l1.length : Int) = 1
 ·rw [if_pos c3] at H
  have c3b0 : ((l1.length : Int) == 1) = true := beq_iff_eq.mpr c3
  have c3b1 : ((l1.length : Int) != 1) = false := bne_eq_false_iff_eq.mpr c3
  clear c3
  by_cases c4 : 0 ≤ (l0.length : Int)
  ·rw [if_pos c4] at H
   have c4b0 := eq_true c4
   have c4b1 : decide (0 ≤ (l0.length : Int)) = true := decide_eq_true c4
   clear c4
   by_cases c5 : ((l0.length : Int) : Int).toNat ≤ 70368744177664
   ·rw [if_pos c5] at H
    have c5b0 := eq_true c5
    have c5b1 : decide (((l0.length : Int) : Int).toNat ≤ 70368744177664) = true := decide_eq_true c5
    clear c5
    obtain ⟨y242, hy242⟩ : ∃ y_ : List Int, y_ = (List.replicate ((l0.length : Int) : Int).toNat 0) := ⟨_, rfl⟩
    replace H : (swageref02_divide.l0 k l0 l1 y242 0 (wrap64 ((l0.length : Int) - 1))) = some (r1, r2) := by first | (rw [hy242]; with_reducible exact H) | (have H2_ := (Option.bind_some _ _).symm.trans H; rw [hy242]; with_reducible exact H2_) | (have H2_ := (Option.bind_some _ _).symm.trans H; with_reducible exact H2_) | with_reducible exact H | (rw [hy242]; exact H) | exact H
    have Ny242 := Aside0.mk hy242
    clear hy242
    have H' := Aside0.mk H
    clear H
    have hfd68_1 : ∀ (p0 p1 : Value) (W : World), Sem.run Tryd.prog (Instr.field 68 (.agg #[p0, p1]) 1) W = .ok p1 W := fun _ _ _ => by kernel_rfl
    go_enter Tryd.func50, Tryd.ntmps50
    go_wp2_with (first | ((with_reducible refine gate_dst (N := 19) rfl ?_); refine Kd.R_make (Kd.int .u32) _ 76 rfl (N := 19) rfl 37 _ _ rfl (l0.length : Int) rfl rfl Tryd.underlying37 (.int .u32 0) 4 info76 rfl (by decide) (by omega) 0 (ok := fun _ => True) (okp := fun _ => True) rfl (fun _ hk => hk) trivial (of_decide_eq_true (by first | (with_reducible assumption) | assumption)) (Nat.le_trans (Nat.mul_le_mul_right _ (of_decide_eq_true (by first | (with_reducible assumption) | assumption) : (l0.length : Int).toNat ≤ 70368744177664)) (by omega)) (Below.refl _ _) (Nat.le_refl _) ?_; intro v243 w6 ho7 hb hg_ hnew_; clear hg_ hnew_; (first | rw [← Ny242.out] at ho7 | (simp only [Int.reduceToNat] at ho7; rw [← Ny242.out] at ho7)); have n0_ := Aside0.mk (Kd.R_lower (Kd.R_newM (M := fun k_ => (w.heap.size ≤ k_)) ho7 (below_size (lB HB)) (fun k_ h_ => h_)) (below_size (lB HB))); have n1_ := Aside0.mk (below_step (lB HB) hb); clear HB; have HO244 := n0_; have HB := n1_; clear n0_ n1_; clear hb ho7))
    go_loopg [7, 8] k (fun kq v7 v8 w' => ∃ (x6_1 : List Int) (x7_1 : Int) (x8_1 : Int), v7 = .int .u64 x7_1 ∧ v8 = .int .i64 x8_1 ∧ Aside0 (swageref02_divide.l0 kq l0 l1 x6_1 x7_1 x8_1 = some (r1, r2)) ∧ Aside0 (kq ≤ k) ∧ Aside0 (Kd.R (Kd.int .u32) 76 w' w.heap.size (fun k_ => (w.heap.size ≤ k_)) v243 x6_1) ∧ Aside0 (Below w.heap.size w w'))
    case atStart => exact ⟨(y242), (0), (wrap64 ((l0.length : Int) - 1)), (by first | rfl | (simp; done) | (simp [*]; done)), (by first | rfl | (simp; done) | (simp [*]; done)), H', ⟨Nat.le_refl _⟩, ⟨by (with_reducible repeat (first | apply Kd.R_alloc | apply Kd.R_drewN | apply Kd.R_drew)); exact Kd.R_mono HO244.out (fun _ hk => hk.1)⟩, ⟨by repeat (first | (with_reducible first | exact HB.out | apply below_alloc | apply pw_below_drewN | apply below_drew1) | exact HB.out)⟩⟩
    case round =>
     clear H'
     try clear c1
     try clear c3
     try clear c4
     try clear c5
     obtain ⟨x6_1, x7_1, x8_1, rfl, rfl, HA, HK1, HO_6, HB⟩ := hrel
     cases gk with
     | zero => exact absurd HA.out (by simp [swageref02_divide.l0])
     | succ k1 =>
      have H := HA.out
      clear HA
      simp only [swageref02_divide.l0] at H
      by_cases c8 : x8_1 ≥ 0
      ·rw [if_pos c8] at H
       have c8b0 : decide (0 ≤ x8_1) = true := decide_eq_true c8
       clear c8
       by_cases c9 : 0 ≤ x8_1
       ·rw [if_pos c9] at H
        have c9b0 : decide (0 ≤ x8_1) = true := decide_eq_true c9
        clear c9
        by_cases c10 : x8_1 < (l0.length : Int)
        ·rw [if_pos c10] at H
         have c10b0 : decide (x8_1 < (l0.length : Int)) = true := decide_eq_true c10
         clear c10
         by_cases c11 : 0 < (l1.length : Int)
         ·rw [if_pos c11] at H
          have c11b0 : decide (0 < (l1.length : Int)) = true := decide_eq_true c11
          have c11b1 : decide (0 < l1.length) = true := decide_eq_true (by omega)
          clear c11
          by_cases c12 : (IntKind.u64.wrap (rd l1 0)) = 0
          ·rw [if_pos c12] at H
           exact absurd H (by simp)
          ·rw [if_neg c12] at H
           have c12b0 : ((IntKind.u64.wrap (rd l1 0)) == 0) = false := beq_eq_false_iff_ne.mpr c12
           have c12b1 : ((IntKind.u64.wrap (rd l1 0)) != 0) = true := bne_iff_ne.mpr c12
           by_cases c13 : x8_1 < (x6_1.length : Int)
           ·rw [if_pos c13] at H
            have c13b0 : decide (x8_1 < (x6_1.length : Int)) = true := decide_eq_true c13
            clear c13
            obtain ⟨y247, hy247⟩ : ∃ y_ : List Int, y_ = (x6_1.set (x8_1 : Int).toNat ((IntKind.u64.wrap (Int.tdiv (IntKind.u64.wrap ((IntKind.u64.wrap (x7_1 * 65536)) + (IntKind.u64.wrap (rd l0 x8_1)))) (IntKind.u64.wrap (rd l1 0)))) % 4294967296)) := ⟨_, rfl⟩
            replace H : (swageref02_divide.l0 k1 l0 l1 y247 (Int.tmod (IntKind.u64.wrap ((IntKind.u64.wrap (x7_1 * 65536)) + (IntKind.u64.wrap (rd l0 x8_1)))) (IntKind.u64.wrap (rd l1 0))) (wrap64 (x8_1 - 1))) = some (r1, r2) := by first | (rw [hy247]; with_reducible exact H) | (have H2_ := (Option.bind_some _ _).symm.trans H; rw [hy247]; with_reducible exact H2_) | (have H2_ := (Option.bind_some _ _).symm.trans H; with_reducible exact H2_) | with_reducible exact H | (rw [hy247]; exact H) | exact H
            have Ny247 := Aside0.mk hy247
            clear hy247
            have H' := Aside0.mk H
            clear H
            have p245 : 0 ≤ (x8_1 : Int) := of_decide_eq_true (by first | (with_reducible assumption) | assumption)
            have q245 : x8_1 < (l0.length : Int) := of_decide_eq_true (by first | (with_reducible assumption) | assumption)
            obtain ⟨ad245, e245, hx245_0⟩ := Kd.at_int HR0.out x8_1 p245 q245
            cases e245
            replace hx245_0 := (HB.out.cell (World.block_lt_of_cell? w _ hx245_0)).trans hx245_0
            replace p245 := eq_true p245
            replace q245 := eq_true q245
            have p246 : 0 ≤ (0 : Int) := (by omega)
            have q246 : 0 < (l1.length : Int) := of_decide_eq_true (by first | (with_reducible assumption) | assumption)
            obtain ⟨ad246, e246, hx246_0⟩ := Kd.at_int HR1.out 0 p246 q246
            cases e246
            have qi246 : (0 < l1.length) = True := eq_true (by omega)
            (try rw [show ((0 : Int)).toNat = 0 from rfl] at hx246_0)
            (try rw [Addr.add_zero'] at hx246_0)
            replace hx246_0 := (HB.out.cell (World.block_lt_of_cell? w _ hx246_0)).trans hx246_0
            replace p246 := eq_true p246
            replace q246 := eq_true q246
            have p14 : 0 ≤ (x8_1 : Int) := of_decide_eq_true (by first | (with_reducible assumption) | assumption)
            have q14 : (x8_1 : Int) < ((x6_1.length : Int) : Int) := of_decide_eq_true (by first | (with_reducible assumption) | assumption)
            obtain ⟨go14, co14, eo14, gb14, gl14, cl14, HG14⟩ := Kd.R_form HO_6.out (by omega)
            (first | cases eo14 | (injection eo14 with ea_ en_ ec_; (first | subst ea_ | (injection ea_ with ea_; subst ea_)); subst ec_; clear en_))
            have GB14 := Aside0.mk gb14
            have GG14 := Aside0.mk HG14
            clear gb14 gl14 HG14
            obtain ⟨hx14_0, hf14_0⟩ := Kd.R_celln 0 HO_6.out (x8_1 : Int) p14 q14
            replace p14 := eq_true p14
            replace q14 := eq_true q14
            have HP15 := Kd.R_putg HO_6.out (x8_1 : Int) ((IntKind.u64.wrap (Int.tdiv (IntKind.u64.wrap ((IntKind.u64.wrap (x7_1 * 65536)) + (IntKind.u64.wrap (rd l0 x8_1)))) (IntKind.u64.wrap (rd l1 0)))) % 4294967296)
            go_wp2_with (first | ((with_reducible refine gate_store (t := 76) (p := 44) rfl ?_); refine store_event (t := 76) (p := 44) (v := ?vo_w16) (w1 := (wr.setCell ⟨go14, (x8_1 : Int).toNat, none⟩ (.int .u32 ((IntKind.u64.wrap (Int.tdiv (IntKind.u64.wrap ((IntKind.u64.wrap (x7_1 * 65536)) + (IntKind.u64.wrap (rd l0 x8_1)))) (IntKind.u64.wrap (rd l1 0)))) % 4294967296)))) ?hg ?ho ?hn ?hr ?_; (case ho => rfl); (case hg => rfl); (case hn => rfl); (case hr => first | (go_simp; done) | (go_simp; rfl)); intro w16 hw; have hg : wr.grownBy w16 (some go14) := (by rw [hw]; exact HP15.2); have hp_ : Kd.R (Kd.int .u32) 76 w16 w.heap.size (fun k_ => (w.heap.size ≤ k_)) (.slice (some ⟨go14, 0, none⟩) x6_1.length co14) y247 := (by rw [hw, Ny247.out]; exact HP15.1); clear HP15; have n0_ := Aside0.mk (hp_); have n1_ := Aside0.mk ((by rw [hw]; exact below_set (HB.out) GB14.out : Below w.heap.size w w16)); clear HO_6 HB; have HO_6 := n0_; have HB := n1_; clear n0_ n1_; clear hg hw hp_; have p248 : 0 ≤ (0 : Int) := (by omega); have q248 : 0 < (l1.length : Int) := of_decide_eq_true (by first | (with_reducible assumption) | assumption); obtain ⟨ad248, e248, hx248_0⟩ := Kd.at_int HR1.out 0 p248 q248; obtain rfl : ad246 = ad248 := (by injection e248); have qi248 : (0 < l1.length) = True := eq_true (by omega); (try rw [show ((0 : Int)).toNat = 0 from rfl] at hx248_0); (try rw [Addr.add_zero'] at hx248_0); replace hx248_0 := (HB.out.cell (World.block_lt_of_cell? w _ hx248_0)).trans hx248_0; replace p248 := eq_true p248; replace q248 := eq_true q248))
            go_roundg k1
            case measure => have := HK1.out; omega
            case rel => exact ⟨(y247), (Int.tmod (IntKind.u64.wrap ((IntKind.u64.wrap (x7_1 * 65536)) + (IntKind.u64.wrap (rd l0 x8_1)))) (IntKind.u64.wrap (rd l1 0))), (wrap64 (x8_1 - 1)), (by first | rfl | (simp; done) | (simp [*]; done)), (by first | rfl | (simp; done) | (simp [*]; done)), H', ⟨by have := HK1.out; omega⟩, ⟨by (with_reducible repeat (first | apply Kd.R_alloc | apply Kd.R_drewN | apply Kd.R_drew)); exact HO_6.out⟩, ⟨by repeat (first | (with_reducible first | exact HB.out | apply below_alloc | apply pw_below_drewN | apply below_drew1) | exact HB.out)⟩⟩
           ·rw [if_neg c13] at H
            exact absurd H (by simp)
         ·rw [if_neg c11] at H
          exact absurd H (by simp)
        ·rw [if_neg c10] at H
         exact absurd H (by simp)
       ·rw [if_neg c9] at H
        exact absurd H (by simp)
      ·rw [if_neg c8] at H
       have c8b0 : decide (0 ≤ x8_1) = false := decide_eq_false c8
       clear c8
       replace H := Option.bind_eq_some_iff.mp H
       obtain ⟨⟨t249, t250⟩, A170, H⟩ := H
       replace H : ((swageref02_norm.f k1 false (([(x7_1) % 4294967296] : List Int))).bind fun bt256 => (some (t250, bt256.2))) = some (r1, r2) := H
       have A17 := Aside0.mk A170
       clear A170
       obtain ⟨y253, hy253⟩ : ∃ y_ : List Int, y_ = (([(x7_1) % 4294967296] : List Int)) := ⟨_, rfl⟩
       replace H : ((swageref02_norm.f k1 false y253).bind fun bt256 => (some (t250, bt256.2))) = some (r1, r2) := by first | (rw [hy253]; with_reducible exact H) | (have H2_ := (Option.bind_some _ _).symm.trans H; rw [hy253]; with_reducible exact H2_) | (have H2_ := (Option.bind_some _ _).symm.trans H; with_reducible exact H2_) | with_reducible exact H | (rw [hy253]; exact H) | exact H
       have Ny253 := Aside0.mk hy253
       clear hy253
       replace H := Option.bind_eq_some_iff.mp H
       obtain ⟨⟨t256, t257⟩, A180, H⟩ := H
       replace H : (some (t250, t257)) = some (r1, r2) := H
       have A18 := Aside0.mk A180
       clear A180
       simp only [Option.some.injEq, Prod.mk.injEq] at H
       obtain ⟨rfl, rfl⟩ := H
       obtain ⟨Ao19, co19, eo19⟩ := Kd.R_slice HO_6.out
       subst eo19
       go_wp2_with (first | ((with_reducible refine gate_callee (f := 48) rfl ?_); refine goesL_ (some 52) rfl rfl Tryd.func48 (by kernel_rfl) rfl #[.bool false, .slice Ao19 x6_1.length co19] rfl (by (try simp only [List.map_toArray, List.map_cons, List.map_nil]); first | done | rfl | (simp only [List.length_drop, List.length_take]; rfl)) ?_; (with_reducible refine (swageref02_norm.calls k1 false (fun k_ => some k_ = (.slice Ao19 x6_1.length co19 : Value).ownBlock) _ _ x6_1 t249 t250 _ ?side1 A17.out).mono ?_); (case side1 => exact Kd.R_V (Kd.R_tight rfl (HO_6.out))); rintro e w20 ⟨v251, rfl, ho0, hb⟩; refine ⟨_, rfl, ?_⟩; have n0_ := Aside0.mk (Kd.R_below (lR HO_6) hb); have n1_ := Aside0.mk (Kd.V_lower (Kd.V_mono (ok' := fun k_ => (w.heap.size ≤ k_)) ho0 (fun k_ hk_ => Or.elim hk_ (fun hs_ => ((HO_6.out).1 k_ hs_.symm)) (fun hn_ => (Nat.le_trans (below_size (lB HB)) hn_)))) (below_size (lB HB))); have n2_ := Aside0.mk (below_step (lB HB) hb); clear HO_6 HB; have HO_6 := n0_; have HO252 := n1_; have HB := n2_; clear n0_ n1_ n2_; (try clear hb); (try clear hb2); (try clear hk); (try clear hi); (try clear ho0)) | ((with_reducible refine gate_dst (N := 56) rfl ?_); refine Kd.R_lit (Kd.int .u32) _ 76 ?hg (N := 56) ?hd (xs := ([(x7_1) % 4294967296] : List Int)) (inner := [.int .u32 ((x7_1) % 4294967296)]) (ok := fun _ => True) (okp := fun _ => True) ?hr ?hp (fun _ hk => hk) trivial (Below.refl _ _) (Nat.le_refl _) (by simp) ?_; (case hd => rfl); (case hg => rfl); (case hr => first | (go_simp; done) | (go_simp; rfl)); (case hp => exact (Reps.one (show Kd.M (Kd.int .u32) _ _ _ ((x7_1) % 4294967296) [.int .u32 ((x7_1) % 4294967296)] from rfl) (Reps.none _ _))); intro v254 w21 ho22 hb hg_ hnew_; clear hg_ hnew_; (first | rw [← Ny253.out] at ho22 | (simp only [Int.reduceToNat] at ho22; rw [← Ny253.out] at ho22)); have n0_ := Aside0.mk (Kd.R_elder' (lR HO_6) (Kd.R_base ho22) hb); have n1_ := Aside0.mk (Kd.V_elder' (lV HO252) (Kd.R_base ho22) hb); have n2_ := Aside0.mk (Kd.R_lower (Kd.R_new' (Kd.R_newM (M := fun k_ => (w.heap.size ≤ k_)) ho22 (below_size (lB HB)) (fun k_ h_ => h_)) (Kd.R_lt (lR HO_6))) (below_size (lB HB))); have n3_ := Aside0.mk (below_step (lB HB) hb); clear HO_6 HO252 HB; have HO_6 := n0_; have HO252 := n1_; have HO255 := n2_; have HB := n3_; clear n0_ n1_ n2_ n3_; clear hb ho22; obtain ⟨Ao23, co23, eo23⟩ := Kd.R_slice HO255.out; subst eo23) | ((with_reducible refine gate_callee (f := 48) rfl ?_); refine goesL_ (some 57) rfl rfl Tryd.func48 (by kernel_rfl) rfl #[.bool false, .slice Ao23 y253.length co23] rfl (by (try simp only [List.map_toArray, List.map_cons, List.map_nil]); first | done | rfl | (simp only [List.length_drop, List.length_take]; rfl)) ?_; (with_reducible refine (swageref02_norm.calls k1 false (fun k_ => some k_ = (.slice Ao23 y253.length co23 : Value).ownBlock) _ _ y253 t256 t257 _ ?side1 A18.out).mono ?_); (case side1 => exact Kd.R_V (Kd.R_tight rfl (HO255.out))); rintro e w24 ⟨v258, rfl, ho0, hb⟩; refine ⟨_, rfl, ?_⟩; have n0_ := Aside0.mk (Kd.R_below (lR HO_6) hb); have n1_ := Aside0.mk (Kd.V_below (lV HO252) hb); have n2_ := Aside0.mk (Kd.R_below (lR HO255) hb); have n3_ := Aside0.mk (Kd.V_lower (Kd.V_mono (ok' := fun k_ => (w.heap.size ≤ k_) ∧ some k_ ≠ (.slice Ao19 x6_1.length co19 : Value).ownBlock) ho0 (fun k_ hk_ => ⟨Or.elim hk_ (fun hs_ => ((HO255.out).1 k_ hs_.symm).1.1) (fun hn_ => (Nat.le_trans (below_size (lB HB)) hn_)), Or.elim hk_ (fun hs_ => ((HO255.out).1 k_ hs_.symm).2) (fun hn_ => (Kd.fresh' (Kd.R_lt (lR HO_6)) k_ hn_))⟩)) (below_size (lB HB))); have n4_ := Aside0.mk (below_step (lB HB) hb); clear HO_6 HO252 HO255 HB; have HO_6 := n0_; have HO252 := n1_; have HO255 := n2_; have HO259 := n3_; have HB := n4_; clear n0_ n1_ n2_ n3_ n4_; (try clear hb); (try clear hb2); (try clear hk); (try clear hi); (try clear ho0)))
       go_ret2
       exact ⟨_, _, by first | rfl | (simp [errW_none, errW_some] <;> rfl) | (simp [*, errW_none, errW_some] <;> rfl), by (with_reducible repeat (first | apply Kd.V_alloc | apply Kd.V_drewN | apply Kd.V_drew)); exact Kd.V_mono HO252.out (fun _ hk => hk.1), by (with_reducible repeat (first | apply Kd.V_alloc | apply Kd.V_drewN | apply Kd.V_drew)); exact Kd.V_mono HO259.out (fun _ hk => hk.1), by repeat (first | (with_reducible first | exact HB.out | apply below_alloc | apply pw_below_drewN | apply below_drew1) | exact HB.out)⟩
   ·rw [if_neg c5] at H
    exact absurd H (by simp)
  ·rw [if_neg c4] at H
   exact absurd H (by simp)
 ·rw [if_neg c3] at H
  exact absurd H (by simp)

end Go.Proofs.YtakmkhokbcjapaaDoor.XA
end
