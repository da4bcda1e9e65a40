/- Part 6 of the proof of the law SplitEnds for every input: words, walks and plain laws. No condition. -/
import Derived.DataReads
import Derived.ChangeArms
import Derived.SizedLaws
import Derived.WideShapes
import Derived.ChangeSlices
import Derived.Test.YtakmkhokbcjapaaDoorCards
import Derived.Test.YtakmkhokbcjapaaDoorTie
import Derived.Deep.DeepHandedRow
import Derived.Test.YtakmkhokbcjapaaDoorRows
import Derived.WalkKit
import Derived.ProofKit
import Derived.OpenShut
import Derived.ShutString
import Derived.ChangeOld
import Derived.Below
import Derived.Test.YtakmkhokbcjapaaDoorKSplitEnds5
section
namespace Go.Proofs.YtakmkhokbcjapaaDoor.XA
open Go.RowKit Go.Proofs.YtakmkhokbcjapaaDoorW.PrintWords Go.Proofs.YtakmkhokbcjapaaDoorW.PrintLast Go.Proofs.YtakmkhokbcjapaaDoorW.PrintMore
attribute [local go_sem] max2_int min2_int max_two min_two max_three min_three max_four min_four   -- for this text's walks alone
set_option linter.unusedVariables false
set_option linter.unusedSimpArgs false

/-! ### swagelaw21_works: function 10 -/
def swagelaw21_works.f (k : Nat)  : Option (Bool) := (swagelaw21_list.f k (([1, 2, 3, 4, 5] : List Int))).bind fun t381 => ((split_Parts.f k t381 2 3).bind fun bt384 => ((split_Block.f k 7 5 3 2).bind fun bt388 => ((swagelaw21_list.f k (([1, 2, 3] : List Int))).bind fun t393 => ((swagelaw21_list.f k (([10, 20, 30] : List Int))).bind fun t399 => ((swagelaw21_list.f k (([100] : List Int))).bind fun t405 => ((split_Join.f k (([t393, t399, t405] : List (List (S39)))) 2 5).bind fun bt411 => (if bt384.2 = 0 then (if bt388.2 = 0 then (if bt411.2 = 0 then (if (bt384.1.length : Int) = 2 then (if 0 < (bt384.1.length : Int) then ((swagelaw21_ref.f k (([1, 2, 3] : List Int))).bind fun t419 => ((swagelaw21_is.f k (rd_L5 bt384.1 0) t419).bind fun t422 => (if t422 = true then (if 1 < (bt384.1.length : Int) then ((swagelaw21_ref.f k (([4, 5, 0] : List Int))).bind fun t427 => ((swagelaw21_is.f k (rd_L5 bt384.1 1) t427).bind fun t430 => (if t430 = true then (if bt388.1 = 3 then ((swagelaw21_ref.f k (([1, 2, 13, 20, 130] : List Int))).bind fun t434 => ((swagelaw21_is.f k bt411.1 t434).bind fun t437 => (some t437))) else (some false)) else (some false)))) else (none)) else (some false)))) else (none)) else (some false)) else (some false)) else (some false)) else (some false))))))))
theorem swagelaw21_works.mono : ∀ k, LeO (swagelaw21_works.f k ) (swagelaw21_works.f (k + 1) ) := by
  intro  k
  unfold swagelaw21_works.f
  repeat' first
      | (with_reducible exact split_Block.mono _ _ _ _ _)
      | (with_reducible exact split_Join.mono _ _ _ _)
      | (with_reducible exact split_Parts.mono _ _ _ _)
      | (with_reducible exact swagelaw21_is.mono _ _ _)
      | (with_reducible exact swagelaw21_list.mono _ _)
      | (with_reducible exact swagelaw21_ref.mono _ _)
      | (with_reducible exact LeO.refl _)
      | (with_reducible exact LeO.none _)
      | (with_reducible refine LeO.ite ?_ ?_)
      | (with_reducible refine LeO.bind ?_ (fun _ => ?_))
      | exact split_Block.mono _ _ _ _ _
      | exact split_Join.mono _ _ _ _
      | exact split_Parts.mono _ _ _ _
      | exact swagelaw21_is.mono _ _ _
      | exact swagelaw21_list.mono _ _
      | exact swagelaw21_ref.mono _ _
      | exact LeO.none _
      | refine LeO.ite ?_ ?_
      | refine LeO.bind ?_ (fun _ => ?_)
def swagelaw21_works.T4 : Bool × List (List Nat × List Nat) := (true, [([], []), ([0], [0]), ([1], [1]), ([2], [2]), ([3, 2], [2, 3]), ([2, 4], [2, 4]), ([5, 2], [5]), ([6], [6]), ([7, 6], [6, 7]), ([6, 8], [6, 8]), ([9, 6], [9]), ([10], [10]), ([11, 10], [10, 11]), ([12, 10], [10, 12]), ([10, 13], [10, 13]), ([14, 10], [14]), ([15], [15]), ([16, 15], [15, 16]), ([17, 15], [15, 17]), ([15], [15]), ([19, 15, 15], [15, 19]), ([18, 20, 20, 15], [15, 18, 20]), ([15, 21], [15, 21]), ([22, 21], [22]), ([23], [23]), ([24, 23], [23, 24]), ([25, 23], [23, 25]), ([23], [23]), ([27, 23, 23], [23, 27]), ([26, 28, 28, 23], [23, 26, 28]), ([23, 29], [23, 29]), ([30, 29], [30]), ([31], [31]), ([32, 31], [31, 32]), ([31, 33], [31, 33]), ([34, 31], [34]), ([35], [35]), ([35], [35]), ([37, 35, 35], [35, 37]), ([36, 38, 38, 35], [35, 36, 38]), ([35, 39], [35, 39]), ([40, 39, 0, 1, 2, 3, 4, 5, 6, 7, 8, 9, 10, 11, 12, 13, 14, 15, 16, 17, 18, 19, 20, 21, 22, 23, 24, 25, 26, 27, 28, 29, 30, 31, 32, 33, 34, 35, 36, 37, 38, 39, 40], [40])])
def swagelaw21_works.B4 : List Nat := [0, 1, 3, 7, 15, 31, 63, 127, 255, 511, 1023, 2047, 4095, 8191, 16383, 32767, 65535, 131071, 262143, 65535, 589823, 2097151, 4194303, 8388607, 16777215, 33554431, 67108863, 16777215, 150994943, 536870911, 1073741823, 2147483647, 4294967295, 8589934591, 17179869183, 34359738367, 68719476735, 68719476735, 206158430207, 549755813887, 1099511627775, 2199023255551]
theorem swagelaw21_works.tab4 : rtab .any (opsOf Tryd.f10 4) = swagelaw21_works.T4 := by kernel_rfl
theorem swagelaw21_works.bits4 : waitsOk swagelaw21_works.T4.2 swagelaw21_works.B4 = true := by kernel_rfl
theorem swagelaw21_works.tells (k : Nat) (r : Bool) (h : swagelaw21_works.f k = some r) : r = true := by
  have h8 : swagelaw21_works.f 90 = some true := by decide +kernel
  rcases Nat.le_total k 90 with hk | hk
  · have h9 := at_rounds (fun k => swagelaw21_works.mono k) hk h
    rw [h8] at h9
    exact (Option.some.inj h9).symm
  · have h9 := at_rounds (fun k => swagelaw21_works.mono k) hk h8
    rw [h] at h9
    exact Option.some.inj h9
set_option maxHeartbeats 8000000 in
set_option maxRecDepth 100000 in
theorem swagelaw21_works.calls (k : Nat)  (r : Bool) (w : World) (h : swagelaw21_works.f k  = some r) :
    Calls Tryd.prog 10 #[] w fun e w' => e = .returned (.bool r) ∧ Below w.heap.size w w' := by
  have hT : Aside0 (r = true) := ⟨swagelaw21_works.tells k r h⟩
  have HB := Aside0.mk (Below.refl w.heap.size w)
  have H : ((swagelaw21_list.f k (([1, 2, 3, 4, 5] : List Int))).bind fun t381 => ((split_Parts.f k t381 2 3).bind fun bt384 => ((split_Block.f k 7 5 3 2).bind fun bt388 => ((swagelaw21_list.f k (([1, 2, 3] : List Int))).bind fun t393 => ((swagelaw21_list.f k (([10, 20, 30] : List Int))).bind fun t399 => ((swagelaw21_list.f k (([100] : List Int))).bind fun t405 => ((split_Join.f k (([t393, t399, t405] : List (List (S39)))) 2 5).bind fun bt411 => (if bt384.2 = 0 then (if bt388.2 = 0 then (if bt411.2 = 0 then (if (bt384.1.length : Int) = 2 then (if 0 < (bt384.1.length : Int) then ((swagelaw21_ref.f k (([1, 2, 3] : List Int))).bind fun t419 => ((swagelaw21_is.f k (rd_L5 bt384.1 0) t419).bind fun t422 => (if t422 = true then (if 1 < (bt384.1.length : Int) then ((swagelaw21_ref.f k (([4, 5, 0] : List Int))).bind fun t427 => ((swagelaw21_is.f k (rd_L5 bt384.1 1) t427).bind fun t430 => (if t430 = true then (if bt388.1 = 3 then ((swagelaw21_ref.f k (([1, 2, 13, 20, 130] : List Int))).bind fun t434 => ((swagelaw21_is.f k bt411.1 t434).bind fun t437 => (some t437))) else (some false)) else (some false)))) else (none)) else (some false)))) else (none)) else (some false)) else (some false)) else (some false)) else (some false))))))))) = some r := h
  clear h
  obtain ⟨y378, hy378⟩ : ∃ y_ : List Int, y_ = (([1, 2, 3, 4, 5] : List Int)) := ⟨_, rfl⟩
  replace H : ((swagelaw21_list.f k y378).bind fun t381 => ((split_Parts.f k t381 2 3).bind fun bt384 => ((split_Block.f k 7 5 3 2).bind fun bt388 => ((swagelaw21_list.f k (([1, 2, 3] : List Int))).bind fun t393 => ((swagelaw21_list.f k (([10, 20, 30] : List Int))).bind fun t399 => ((swagelaw21_list.f k (([100] : List Int))).bind fun t405 => ((split_Join.f k (([t393, t399, t405] : List (List (S39)))) 2 5).bind fun bt411 => (if bt384.2 = 0 then (if bt388.2 = 0 then (if bt411.2 = 0 then (if (bt384.1.length : Int) = 2 then (if 0 < (bt384.1.length : Int) then ((swagelaw21_ref.f k (([1, 2, 3] : List Int))).bind fun t419 => ((swagelaw21_is.f k (rd_L5 bt384.1 0) t419).bind fun t422 => (if t422 = true then (if 1 < (bt384.1.length : Int) then ((swagelaw21_ref.f k (([4, 5, 0] : List Int))).bind fun t427 => ((swagelaw21_is.f k (rd_L5 bt384.1 1) t427).bind fun t430 => (if t430 = true then (if bt388.1 = 3 then ((swagelaw21_ref.f k (([1, 2, 13, 20, 130] : List Int))).bind fun t434 => ((swagelaw21_is.f k bt411.1 t434).bind fun t437 => (some t437))) else (some false)) else (some false)))) else (none)) else (some false)))) else (none)) else (some false)) else (some false)) else (some false)) else (some false))))))))) = some r := by first | (rw [hy378]; with_reducible exact H) | (have H2_ := (Option.bind_some _ _).symm.trans H; rw [hy378]; with_reducible exact H2_) | (have H2_ := (Option.bind_some _ _).symm.trans H; with_reducible exact H2_) | with_reducible exact H | (rw [hy378]; exact H) | exact H
  have Ny378 := Aside0.mk hy378
  clear hy378
  replace H := Option.bind_eq_some_iff.mp H
  obtain ⟨t381, A10, H⟩ := H
  replace H : ((split_Parts.f k t381 2 3).bind fun bt384 => ((split_Block.f k 7 5 3 2).bind fun bt388 => ((swagelaw21_list.f k (([1, 2, 3] : List Int))).bind fun t393 => ((swagelaw21_list.f k (([10, 20, 30] : List Int))).bind fun t399 => ((swagelaw21_list.f k (([100] : List Int))).bind fun t405 => ((split_Join.f k (([t393, t399, t405] : List (List (S39)))) 2 5).bind fun bt411 => (if bt384.2 = 0 then (if bt388.2 = 0 then (if bt411.2 = 0 then (if (bt384.1.length : Int) = 2 then (if 0 < (bt384.1.length : Int) then ((swagelaw21_ref.f k (([1, 2, 3] : List Int))).bind fun t419 => ((swagelaw21_is.f k (rd_L5 bt384.1 0) t419).bind fun t422 => (if t422 = true then (if 1 < (bt384.1.length : Int) then ((swagelaw21_ref.f k (([4, 5, 0] : List Int))).bind fun t427 => ((swagelaw21_is.f k (rd_L5 bt384.1 1) t427).bind fun t430 => (if t430 = true then (if bt388.1 = 3 then ((swagelaw21_ref.f k (([1, 2, 13, 20, 130] : List Int))).bind fun t434 => ((swagelaw21_is.f k bt411.1 t434).bind fun t437 => (some t437))) else (some false)) else (some false)))) else (none)) else (some false)))) else (none)) else (some false)) else (some false)) else (some false)) else (some false)))))))) = some r := H
  have A1 := Aside0.mk A10
  clear A10
  replace H := Option.bind_eq_some_iff.mp H
  obtain ⟨⟨t384, t387⟩, A20, H⟩ := H
  replace H : ((split_Block.f k 7 5 3 2).bind fun bt388 => ((swagelaw21_list.f k (([1, 2, 3] : List Int))).bind fun t393 => ((swagelaw21_list.f k (([10, 20, 30] : List Int))).bind fun t399 => ((swagelaw21_list.f k (([100] : List Int))).bind fun t405 => ((split_Join.f k (([t393, t399, t405] : List (List (S39)))) 2 5).bind fun bt411 => (if t387 = 0 then (if bt388.2 = 0 then (if bt411.2 = 0 then (if (t384.length : Int) = 2 then (if 0 < (t384.length : Int) then ((swagelaw21_ref.f k (([1, 2, 3] : List Int))).bind fun t419 => ((swagelaw21_is.f k (rd_L5 t384 0) t419).bind fun t422 => (if t422 = true then (if 1 < (t384.length : Int) then ((swagelaw21_ref.f k (([4, 5, 0] : List Int))).bind fun t427 => ((swagelaw21_is.f k (rd_L5 t384 1) t427).bind fun t430 => (if t430 = true then (if bt388.1 = 3 then ((swagelaw21_ref.f k (([1, 2, 13, 20, 130] : List Int))).bind fun t434 => ((swagelaw21_is.f k bt411.1 t434).bind fun t437 => (some t437))) else (some false)) else (some false)))) else (none)) else (some false)))) else (none)) else (some false)) else (some false)) else (some false)) else (some false))))))) = some r := H
  have A2 := Aside0.mk A20
  clear A20
  replace H := Option.bind_eq_some_iff.mp H
  obtain ⟨⟨t388, t389⟩, A30, H⟩ := H
  replace H : ((swagelaw21_list.f k (([1, 2, 3] : List Int))).bind fun t393 => ((swagelaw21_list.f k (([10, 20, 30] : List Int))).bind fun t399 => ((swagelaw21_list.f k (([100] : List Int))).bind fun t405 => ((split_Join.f k (([t393, t399, t405] : List (List (S39)))) 2 5).bind fun bt411 => (if t387 = 0 then (if t389 = 0 then (if bt411.2 = 0 then (if (t384.length : Int) = 2 then (if 0 < (t384.length : Int) then ((swagelaw21_ref.f k (([1, 2, 3] : List Int))).bind fun t419 => ((swagelaw21_is.f k (rd_L5 t384 0) t419).bind fun t422 => (if t422 = true then (if 1 < (t384.length : Int) then ((swagelaw21_ref.f k (([4, 5, 0] : List Int))).bind fun t427 => ((swagelaw21_is.f k (rd_L5 t384 1) t427).bind fun t430 => (if t430 = true then (if t388 = 3 then ((swagelaw21_ref.f k (([1, 2, 13, 20, 130] : List Int))).bind fun t434 => ((swagelaw21_is.f k bt411.1 t434).bind fun t437 => (some t437))) else (some false)) else (some false)))) else (none)) else (some false)))) else (none)) else (some false)) else (some false)) else (some false)) else (some false)))))) = some r := H
  have A3 := Aside0.mk A30
  clear A30
  obtain ⟨y390, hy390⟩ : ∃ y_ : List Int, y_ = (([1, 2, 3] : List Int)) := ⟨_, rfl⟩
  replace H : ((swagelaw21_list.f k y390).bind fun t393 => ((swagelaw21_list.f k (([10, 20, 30] : List Int))).bind fun t399 => ((swagelaw21_list.f k (([100] : List Int))).bind fun t405 => ((split_Join.f k (([t393, t399, t405] : List (List (S39)))) 2 5).bind fun bt411 => (if t387 = 0 then (if t389 = 0 then (if bt411.2 = 0 then (if (t384.length : Int) = 2 then (if 0 < (t384.length : Int) then ((swagelaw21_ref.f k (([1, 2, 3] : List Int))).bind fun t419 => ((swagelaw21_is.f k (rd_L5 t384 0) t419).bind fun t422 => (if t422 = true then (if 1 < (t384.length : Int) then ((swagelaw21_ref.f k (([4, 5, 0] : List Int))).bind fun t427 => ((swagelaw21_is.f k (rd_L5 t384 1) t427).bind fun t430 => (if t430 = true then (if t388 = 3 then ((swagelaw21_ref.f k (([1, 2, 13, 20, 130] : List Int))).bind fun t434 => ((swagelaw21_is.f k bt411.1 t434).bind fun t437 => (some t437))) else (some false)) else (some false)))) else (none)) else (some false)))) else (none)) else (some false)) else (some false)) else (some false)) else (some false)))))) = some r := by first | (rw [hy390]; with_reducible exact H) | (have H2_ := (Option.bind_some _ _).symm.trans H; rw [hy390]; with_reducible exact H2_) | (have H2_ := (Option.bind_some _ _).symm.trans H; with_reducible exact H2_) | with_reducible exact H | (rw [hy390]; exact H) | exact H
  have Ny390 := Aside0.mk hy390
  clear hy390
  replace H := Option.bind_eq_some_iff.mp H
  obtain ⟨t393, A40, H⟩ := H
  replace H : ((swagelaw21_list.f k (([10, 20, 30] : List Int))).bind fun t399 => ((swagelaw21_list.f k (([100] : List Int))).bind fun t405 => ((split_Join.f k (([t393, t399, t405] : List (List (S39)))) 2 5).bind fun bt411 => (if t387 = 0 then (if t389 = 0 then (if bt411.2 = 0 then (if (t384.length : Int) = 2 then (if 0 < (t384.length : Int) then ((swagelaw21_ref.f k (([1, 2, 3] : List Int))).bind fun t419 => ((swagelaw21_is.f k (rd_L5 t384 0) t419).bind fun t422 => (if t422 = true then (if 1 < (t384.length : Int) then ((swagelaw21_ref.f k (([4, 5, 0] : List Int))).bind fun t427 => ((swagelaw21_is.f k (rd_L5 t384 1) t427).bind fun t430 => (if t430 = true then (if t388 = 3 then ((swagelaw21_ref.f k (([1, 2, 13, 20, 130] : List Int))).bind fun t434 => ((swagelaw21_is.f k bt411.1 t434).bind fun t437 => (some t437))) else (some false)) else (some false)))) else (none)) else (some false)))) else (none)) else (some false)) else (some false)) else (some false)) else (some false))))) = some r := H
  have A4 := Aside0.mk A40
  clear A40
  obtain ⟨y396, hy396⟩ : ∃ y_ : List Int, y_ = (([10, 20, 30] : List Int)) := ⟨_, rfl⟩
  replace H : ((swagelaw21_list.f k y396).bind fun t399 => ((swagelaw21_list.f k (([100] : List Int))).bind fun t405 => ((split_Join.f k (([t393, t399, t405] : List (List (S39)))) 2 5).bind fun bt411 => (if t387 = 0 then (if t389 = 0 then (if bt411.2 = 0 then (if (t384.length : Int) = 2 then (if 0 < (t384.length : Int) then ((swagelaw21_ref.f k (([1, 2, 3] : List Int))).bind fun t419 => ((swagelaw21_is.f k (rd_L5 t384 0) t419).bind fun t422 => (if t422 = true then (if 1 < (t384.length : Int) then ((swagelaw21_ref.f k (([4, 5, 0] : List Int))).bind fun t427 => ((swagelaw21_is.f k (rd_L5 t384 1) t427).bind fun t430 => (if t430 = true then (if t388 = 3 then ((swagelaw21_ref.f k (([1, 2, 13, 20, 130] : List Int))).bind fun t434 => ((swagelaw21_is.f k bt411.1 t434).bind fun t437 => (some t437))) else (some false)) else (some false)))) else (none)) else (some false)))) else (none)) else (some false)) else (some false)) else (some false)) else (some false))))) = some r := by first | (rw [hy396]; with_reducible exact H) | (have H2_ := (Option.bind_some _ _).symm.trans H; rw [hy396]; with_reducible exact H2_) | (have H2_ := (Option.bind_some _ _).symm.trans H; with_reducible exact H2_) | with_reducible exact H | (rw [hy396]; exact H) | exact H
  have Ny396 := Aside0.mk hy396
  clear hy396
  replace H := Option.bind_eq_some_iff.mp H
  obtain ⟨t399, A50, H⟩ := H
  replace H : ((swagelaw21_list.f k (([100] : List Int))).bind fun t405 => ((split_Join.f k (([t393, t399, t405] : List (List (S39)))) 2 5).bind fun bt411 => (if t387 = 0 then (if t389 = 0 then (if bt411.2 = 0 then (if (t384.length : Int) = 2 then (if 0 < (t384.length : Int) then ((swagelaw21_ref.f k (([1, 2, 3] : List Int))).bind fun t419 => ((swagelaw21_is.f k (rd_L5 t384 0) t419).bind fun t422 => (if t422 = true then (if 1 < (t384.length : Int) then ((swagelaw21_ref.f k (([4, 5, 0] : List Int))).bind fun t427 => ((swagelaw21_is.f k (rd_L5 t384 1) t427).bind fun t430 => (if t430 = true then (if t388 = 3 then ((swagelaw21_ref.f k (([1, 2, 13, 20, 130] : List Int))).bind fun t434 => ((swagelaw21_is.f k bt411.1 t434).bind fun t437 => (some t437))) else (some false)) else (some false)))) else (none)) else (some false)))) else (none)) else (some false)) else (some false)) else (some false)) else (some false)))) = some r := H
  have A5 := Aside0.mk A50
  clear A50
  obtain ⟨y402, hy402⟩ : ∃ y_ : List Int, y_ = (([100] : List Int)) := ⟨_, rfl⟩
  replace H : ((swagelaw21_list.f k y402).bind fun t405 => ((split_Join.f k (([t393, t399, t405] : List (List (S39)))) 2 5).bind fun bt411 => (if t387 = 0 then (if t389 = 0 then (if bt411.2 = 0 then (if (t384.length : Int) = 2 then (if 0 < (t384.length : Int) then ((swagelaw21_ref.f k (([1, 2, 3] : List Int))).bind fun t419 => ((swagelaw21_is.f k (rd_L5 t384 0) t419).bind fun t422 => (if t422 = true then (if 1 < (t384.length : Int) then ((swagelaw21_ref.f k (([4, 5, 0] : List Int))).bind fun t427 => ((swagelaw21_is.f k (rd_L5 t384 1) t427).bind fun t430 => (if t430 = true then (if t388 = 3 then ((swagelaw21_ref.f k (([1, 2, 13, 20, 130] : List Int))).bind fun t434 => ((swagelaw21_is.f k bt411.1 t434).bind fun t437 => (some t437))) else (some false)) else (some false)))) else (none)) else (some false)))) else (none)) else (some false)) else (some false)) else (some false)) else (some false)))) = some r := by first | (rw [hy402]; with_reducible exact H) | (have H2_ := (Option.bind_some _ _).symm.trans H; rw [hy402]; with_reducible exact H2_) | (have H2_ := (Option.bind_some _ _).symm.trans H; with_reducible exact H2_) | with_reducible exact H | (rw [hy402]; exact H) | exact H
  have Ny402 := Aside0.mk hy402
  clear hy402
  replace H := Option.bind_eq_some_iff.mp H
  obtain ⟨t405, A60, H⟩ := H
  replace H : ((split_Join.f k (([t393, t399, t405] : List (List (S39)))) 2 5).bind fun bt411 => (if t387 = 0 then (if t389 = 0 then (if bt411.2 = 0 then (if (t384.length : Int) = 2 then (if 0 < (t384.length : Int) then ((swagelaw21_ref.f k (([1, 2, 3] : List Int))).bind fun t419 => ((swagelaw21_is.f k (rd_L5 t384 0) t419).bind fun t422 => (if t422 = true then (if 1 < (t384.length : Int) then ((swagelaw21_ref.f k (([4, 5, 0] : List Int))).bind fun t427 => ((swagelaw21_is.f k (rd_L5 t384 1) t427).bind fun t430 => (if t430 = true then (if t388 = 3 then ((swagelaw21_ref.f k (([1, 2, 13, 20, 130] : List Int))).bind fun t434 => ((swagelaw21_is.f k bt411.1 t434).bind fun t437 => (some t437))) else (some false)) else (some false)))) else (none)) else (some false)))) else (none)) else (some false)) else (some false)) else (some false)) else (some false))) = some r := H
  have A6 := Aside0.mk A60
  clear A60
  obtain ⟨y408, hy408⟩ : ∃ y_ : List (List (S39)), y_ = (([t393, t399, t405] : List (List (S39)))) := ⟨_, rfl⟩
  replace H : ((split_Join.f k y408 2 5).bind fun bt411 => (if t387 = 0 then (if t389 = 0 then (if bt411.2 = 0 then (if (t384.length : Int) = 2 then (if 0 < (t384.length : Int) then ((swagelaw21_ref.f k (([1, 2, 3] : List Int))).bind fun t419 => ((swagelaw21_is.f k (rd_L5 t384 0) t419).bind fun t422 => (if t422 = true then (if 1 < (t384.length : Int) then ((swagelaw21_ref.f k (([4, 5, 0] : List Int))).bind fun t427 => ((swagelaw21_is.f k (rd_L5 t384 1) t427).bind fun t430 => (if t430 = true then (if t388 = 3 then ((swagelaw21_ref.f k (([1, 2, 13, 20, 130] : List Int))).bind fun t434 => ((swagelaw21_is.f k bt411.1 t434).bind fun t437 => (some t437))) else (some false)) else (some false)))) else (none)) else (some false)))) else (none)) else (some false)) else (some false)) else (some false)) else (some false))) = some r := by first | (rw [hy408]; with_reducible exact H) | (have H2_ := (Option.bind_some _ _).symm.trans H; rw [hy408]; with_reducible exact H2_) | (have H2_ := (Option.bind_some _ _).symm.trans H; with_reducible exact H2_) | with_reducible exact H | (rw [hy408]; exact H) | exact H
  have Ny408 := Aside0.mk hy408
  clear hy408
  replace H := Option.bind_eq_some_iff.mp H
  obtain ⟨⟨t411, t414⟩, A70, H⟩ := H
  replace H : (if t387 = 0 then (if t389 = 0 then (if t414 = 0 then (if (t384.length : Int) = 2 then (if 0 < (t384.length : Int) then ((swagelaw21_ref.f k (([1, 2, 3] : List Int))).bind fun t419 => ((swagelaw21_is.f k (rd_L5 t384 0) t419).bind fun t422 => (if t422 = true then (if 1 < (t384.length : Int) then ((swagelaw21_ref.f k (([4, 5, 0] : List Int))).bind fun t427 => ((swagelaw21_is.f k (rd_L5 t384 1) t427).bind fun t430 => (if t430 = true then (if t388 = 3 then ((swagelaw21_ref.f k (([1, 2, 13, 20, 130] : List Int))).bind fun t434 => ((swagelaw21_is.f k t411 t434).bind fun t437 => (some t437))) else (some false)) else (some false)))) else (none)) else (some false)))) else (none)) else (some false)) else (some false)) else (some false)) else (some false)) = some r := H
  have A7 := Aside0.mk A70
  clear A70
  by_cases c8 : t387 = 0
  · rw [if_pos c8] at H
    have c8b0 : (t387 == 0) = true := beq_iff_eq.mpr c8
    have c8b1 : (t387 != 0) = false := bne_eq_false_iff_eq.mpr c8
    clear c8
    by_cases c9 : t389 = 0
    · rw [if_pos c9] at H
      have c9b0 : (t389 == 0) = true := beq_iff_eq.mpr c9
      have c9b1 : (t389 != 0) = false := bne_eq_false_iff_eq.mpr c9
      clear c9
      by_cases c10 : t414 = 0
      · rw [if_pos c10] at H
        have c10b0 : (t414 == 0) = true := beq_iff_eq.mpr c10
        have c10b1 : (t414 != 0) = false := bne_eq_false_iff_eq.mpr c10
        clear c10
        by_cases c11 : (t384.length : Int) = 2
        · rw [if_pos c11] at H
          have c11b0 : ((t384.length : Int) == 2) = true := beq_iff_eq.mpr c11
          have c11b1 : ((t384.length : Int) != 2) = false := bne_eq_false_iff_eq.mpr c11
          clear c11
          by_cases c12 : 0 < (t384.length : Int)
          · rw [if_pos c12] at H
            have c12b0 : decide (0 < (t384.length : Int)) = true := decide_eq_true c12
            have c12b1 : decide (0 < t384.length) = true := decide_eq_true (by omega)
            clear c12
            obtain ⟨y416, hy416⟩ : ∃ y_ : List Int, y_ = (([1, 2, 3] : List Int)) := ⟨_, rfl⟩
            replace H : ((swagelaw21_ref.f k y416).bind fun t419 => ((swagelaw21_is.f k (rd_L5 t384 0) t419).bind fun t422 => (if t422 = true then (if 1 < (t384.length : Int) then ((swagelaw21_ref.f k (([4, 5, 0] : List Int))).bind fun t427 => ((swagelaw21_is.f k (rd_L5 t384 1) t427).bind fun t430 => (if t430 = true then (if t388 = 3 then ((swagelaw21_ref.f k (([1, 2, 13, 20, 130] : List Int))).bind fun t434 => ((swagelaw21_is.f k t411 t434).bind fun t437 => (some t437))) else (some false)) else (some false)))) else (none)) else (some false)))) = some r := by first | (rw [hy416]; with_reducible exact H) | (have H2_ := (Option.bind_some _ _).symm.trans H; rw [hy416]; with_reducible exact H2_) | (have H2_ := (Option.bind_some _ _).symm.trans H; with_reducible exact H2_) | with_reducible exact H | (rw [hy416]; exact H) | exact H
            have Ny416 := Aside0.mk hy416
            clear hy416
            replace H := Option.bind_eq_some_iff.mp H
            obtain ⟨t419, A130, H⟩ := H
            replace H : ((swagelaw21_is.f k (rd_L5 t384 0) t419).bind fun t422 => (if t422 = true then (if 1 < (t384.length : Int) then ((swagelaw21_ref.f k (([4, 5, 0] : List Int))).bind fun t427 => ((swagelaw21_is.f k (rd_L5 t384 1) t427).bind fun t430 => (if t430 = true then (if t388 = 3 then ((swagelaw21_ref.f k (([1, 2, 13, 20, 130] : List Int))).bind fun t434 => ((swagelaw21_is.f k t411 t434).bind fun t437 => (some t437))) else (some false)) else (some false)))) else (none)) else (some false))) = some r := H
            have A13 := Aside0.mk A130
            clear A130
            replace H := Option.bind_eq_some_iff.mp H
            obtain ⟨t422, A140, H⟩ := H
            replace H : (if t422 = true then (if 1 < (t384.length : Int) then ((swagelaw21_ref.f k (([4, 5, 0] : List Int))).bind fun t427 => ((swagelaw21_is.f k (rd_L5 t384 1) t427).bind fun t430 => (if t430 = true then (if t388 = 3 then ((swagelaw21_ref.f k (([1, 2, 13, 20, 130] : List Int))).bind fun t434 => ((swagelaw21_is.f k t411 t434).bind fun t437 => (some t437))) else (some false)) else (some false)))) else (none)) else (some false)) = some r := H
            have A14 := Aside0.mk A140
            clear A140
            by_cases c15 : t422 = true
            · subst c15
              have H1 : (if 1 < (t384.length : Int) then ((swagelaw21_ref.f k (([4, 5, 0] : List Int))).bind fun t427 => ((swagelaw21_is.f k (rd_L5 t384 1) t427).bind fun t430 => (if t430 = true then (if t388 = 3 then ((swagelaw21_ref.f k (([1, 2, 13, 20, 130] : List Int))).bind fun t434 => ((swagelaw21_is.f k t411 t434).bind fun t437 => (some t437))) else (some false)) else (some false)))) else (none)) = some r := by rw [if_pos rfl] at H; exact H
              clear H
              have H := H1
              clear H1
              by_cases c16 : 1 < (t384.length : Int)
              · rw [if_pos c16] at H
                have c16b0 : decide (1 < (t384.length : Int)) = true := decide_eq_true c16
                have c16b1 : decide (1 < t384.length) = true := decide_eq_true (by omega)
                clear c16
                obtain ⟨y424, hy424⟩ : ∃ y_ : List Int, y_ = (([4, 5, 0] : List Int)) := ⟨_, rfl⟩
                replace H : ((swagelaw21_ref.f k y424).bind fun t427 => ((swagelaw21_is.f k (rd_L5 t384 1) t427).bind fun t430 => (if t430 = true then (if t388 = 3 then ((swagelaw21_ref.f k (([1, 2, 13, 20, 130] : List Int))).bind fun t434 => ((swagelaw21_is.f k t411 t434).bind fun t437 => (some t437))) else (some false)) else (some false)))) = some r := by first | (rw [hy424]; with_reducible exact H) | (have H2_ := (Option.bind_some _ _).symm.trans H; rw [hy424]; with_reducible exact H2_) | (have H2_ := (Option.bind_some _ _).symm.trans H; with_reducible exact H2_) | with_reducible exact H | (rw [hy424]; exact H) | exact H
                have Ny424 := Aside0.mk hy424
                clear hy424
                replace H := Option.bind_eq_some_iff.mp H
                obtain ⟨t427, A170, H⟩ := H
                replace H : ((swagelaw21_is.f k (rd_L5 t384 1) t427).bind fun t430 => (if t430 = true then (if t388 = 3 then ((swagelaw21_ref.f k (([1, 2, 13, 20, 130] : List Int))).bind fun t434 => ((swagelaw21_is.f k t411 t434).bind fun t437 => (some t437))) else (some false)) else (some false))) = some r := H
                have A17 := Aside0.mk A170
                clear A170
                replace H := Option.bind_eq_some_iff.mp H
                obtain ⟨t430, A180, H⟩ := H
                replace H : (if t430 = true then (if t388 = 3 then ((swagelaw21_ref.f k (([1, 2, 13, 20, 130] : List Int))).bind fun t434 => ((swagelaw21_is.f k t411 t434).bind fun t437 => (some t437))) else (some false)) else (some false)) = some r := H
                have A18 := Aside0.mk A180
                clear A180
                by_cases c19 : t430 = true
                · subst c19
                  have H1 : (if t388 = 3 then ((swagelaw21_ref.f k (([1, 2, 13, 20, 130] : List Int))).bind fun t434 => ((swagelaw21_is.f k t411 t434).bind fun t437 => (some t437))) else (some false)) = some r := by rw [if_pos rfl] at H; exact H
                  clear H
                  have H := H1
                  clear H1
                  by_cases c20 : t388 = 3
                  · rw [if_pos c20] at H
                    have c20b0 : (t388 == 3) = true := beq_iff_eq.mpr c20
                    have c20b1 : (t388 != 3) = false := bne_eq_false_iff_eq.mpr c20
                    clear c20
                    obtain ⟨y431, hy431⟩ : ∃ y_ : List Int, y_ = (([1, 2, 13, 20, 130] : List Int)) := ⟨_, rfl⟩
                    replace H : ((swagelaw21_ref.f k y431).bind fun t434 => ((swagelaw21_is.f k t411 t434).bind fun t437 => (some t437))) = some r := by first | (rw [hy431]; with_reducible exact H) | (have H2_ := (Option.bind_some _ _).symm.trans H; rw [hy431]; with_reducible exact H2_) | (have H2_ := (Option.bind_some _ _).symm.trans H; with_reducible exact H2_) | with_reducible exact H | (rw [hy431]; exact H) | exact H
                    have Ny431 := Aside0.mk hy431
                    clear hy431
                    replace H := Option.bind_eq_some_iff.mp H
                    obtain ⟨t434, A210, H⟩ := H
                    replace H : ((swagelaw21_is.f k t411 t434).bind fun t437 => (some t437)) = some r := H
                    have A21 := Aside0.mk A210
                    clear A210
                    replace H := Option.bind_eq_some_iff.mp H
                    obtain ⟨t437, A220, H⟩ := H
                    replace H : (some t437) = some r := H
                    have A22 := Aside0.mk A220
                    clear A220
                    obtain rfl := Option.some.inj H
                    go_enter Tryd.func10, Tryd.ntmps10
                    try go_wp2_with (first | ((with_reducible refine gate_dst (N := 8) rfl ?_); (try (refine gate_guard (by rfl) ?_; dsimp only)); refine Kd.R_lit (Kd.int .i64) _ 2 ?hg (N := 8) ?hd (xs := ([1, 2, 3, 4, 5] : List Int)) (inner := [.int .i64 1, .int .i64 2, .int .i64 3, .int .i64 4, .int .i64 5]) (ok := fun _ => True) (okp := fun _ => True) ?hr ?hp (fun _ hk => hk) trivial (Below.refl _ _) (Nat.le_refl _) (by simp) ?_; (case hd => rfl); (case hg => rfl); (case hr => first | (go_simp; done) | (go_simp; rfl)); (case hp => exact (Reps.one (show Kd.M (Kd.int .i64) _ _ _ 1 [.int .i64 1] from rfl) (Reps.one (show Kd.M (Kd.int .i64) _ _ _ 2 [.int .i64 2] from rfl) (Reps.one (show Kd.M (Kd.int .i64) _ _ _ 3 [.int .i64 3] from rfl) (Reps.one (show Kd.M (Kd.int .i64) _ _ _ 4 [.int .i64 4] from rfl) (Reps.one (show Kd.M (Kd.int .i64) _ _ _ 5 [.int .i64 5] from rfl) (Reps.none _ _))))))); intro v379 w23 ho24 hb hg_ hnew_; clear hg_ hnew_; (first | rw [← Ny378.out] at ho24 | (simp only [Int.reduceToNat] at ho24; rw [← Ny378.out] at ho24)); have n0_ := Aside0.mk (Kd.R_lower ho24 (below_size (by repeat (first | (with_reducible first | exact HB.out | apply below_alloc | apply pw_below_drewN | apply below_drew1) | exact HB.out)))); have n1_ := Aside0.mk (below_step (by repeat (first | (with_reducible first | exact HB.out | apply below_alloc | apply pw_below_drewN | apply below_drew1) | exact HB.out)) hb); clear HB; have HO380 := n0_; have HB := n1_; clear n0_ n1_; clear hb ho24; obtain ⟨Ao25, co25, eo25⟩ := Kd.R_slice HO380.out; subst eo25) | ((with_reducible refine gate_callee (f := 11) rfl ?_); refine goesL_ (some 9) rfl rfl Tryd.func11 (by kernel_rfl) rfl #[.slice Ao25 y378.length co25] rfl (by (try simp only [List.map_toArray, List.map_cons, List.map_nil]); first | done | rfl | (simp only [List.length_drop, List.length_take]; rfl)) ?_; (with_reducible refine (swagelaw21_list.calls k _ _ y378 t381 _ ?side1 ?side2 A1.out).mono ?_); (case side1 => repeat (first | exact (Kd.R_reads' HO380.out).2.2 | (with_reducible refine Kd.C_alloc ?_ _) | (with_reducible refine Kd.C_drewN ?_ _) | (with_reducible refine Kd.C_drew ?_))); (case side2 => exact (Kd.R_reads' HO380.out).2.1); rintro e w26 ⟨v382, rfl, ho0, hb⟩; refine ⟨_, rfl, ?_⟩; have n0_ := Aside0.mk (Kd.R_below (by (with_reducible repeat (first | apply Kd.R_alloc | apply Kd.R_drewN | apply Kd.R_drew)); exact HO380.out) hb); have n1_ := Aside0.mk (Kd.N_lower (Kd.N_mono (ok' := fun k_ => some k_ ≠ (.slice Ao25 y378.length co25 : Value).ownBlock) ho0 (fun k_ hk_ => (Kd.fresh' (Kd.R_lt (by (with_reducible repeat (first | apply Kd.R_alloc | apply Kd.R_drewN | apply Kd.R_drew)); exact HO380.out)) k_ hk_))) (below_size (by repeat (first | (with_reducible first | exact HB.out | apply below_alloc | apply pw_below_drewN | apply below_drew1) | exact HB.out)))); have n2_ := Aside0.mk (below_step (by repeat (first | (with_reducible first | exact HB.out | apply below_alloc | apply pw_below_drewN | apply below_drew1) | exact HB.out)) hb); clear HO380; clear HB; have HO380 := n0_; have HO383 := n1_; have HB := n2_; clear n0_ n1_ n2_; (try clear hb); (try clear hb2); (try clear hk); (try clear hi); (try clear ho0); obtain ⟨Ao27, co27, eo27⟩ := Kd.N_slice HO383.out; subst eo27) | ((with_reducible refine gate_callee (f := 12) rfl ?_); refine goesL_ (some 10) rfl rfl Tryd.func12 (by kernel_rfl) rfl #[.slice Ao27 t381.length co27, .int .i64 2, .int .i64 3] rfl (by (try simp only [List.map_toArray, List.map_cons, List.map_nil]); first | done | rfl | (simp only [List.length_drop, List.length_take]; rfl)) ?_; (with_reducible refine (split_Parts.calls k (fun k_ => some k_ ≠ (.slice Ao25 y378.length co25 : Value).ownBlock) _ _ t381 2 3 t384 t387 _ ?side1 A2.out).mono ?_); (case side1 => exact Kd.N_V (HO383.out)); rintro e w28 ⟨v385, rfl, ho0, hb⟩; refine ⟨_, rfl, ?_⟩; have n0_ := Aside0.mk (Kd.R_below (by (with_reducible repeat (first | apply Kd.R_alloc | apply Kd.R_drewN | apply Kd.R_drew)); exact HO380.out) hb); have n1_ := Aside0.mk (Kd.N_elder' (by (with_reducible repeat (first | apply Kd.N_alloc | apply Kd.N_drewN | apply Kd.N_drew)); exact HO383.out) (Kd.N_base ho0) hb); have n2_ := Aside0.mk (Kd.N_lower (Kd.N_mono (ok' := fun k_ => some k_ ≠ (.slice Ao25 y378.length co25 : Value).ownBlock) ho0 (fun k_ hk_ => Or.elim hk_ (fun hs_ => hs_) (fun hn_ => (Kd.fresh' (Kd.R_lt (by (with_reducible repeat (first | apply Kd.R_alloc | apply Kd.R_drewN | apply Kd.R_drew)); exact HO380.out)) k_ hn_)))) (below_size (by repeat (first | (with_reducible first | exact HB.out | apply below_alloc | apply pw_below_drewN | apply below_drew1) | exact HB.out)))); have n3_ := Aside0.mk (below_step (by repeat (first | (with_reducible first | exact HB.out | apply below_alloc | apply pw_below_drewN | apply below_drew1) | exact HB.out)) hb); clear HO380; clear HO383; clear HB; have HO380 := n0_; have HO383 := n1_; have HO386 := n2_; have HB := n3_; clear n0_ n1_ n2_ n3_; (try clear hb); (try clear hb2); (try clear hk); (try clear hi); (try clear ho0)) | ((with_reducible refine gate_callee (f := 20) rfl ?_); refine goesL_ (some 14) rfl rfl Tryd.func20 (by kernel_rfl) rfl #[.int .i64 7, .int .i64 5, .int .i64 3, .int .i64 2] rfl (by (try simp only [List.map_toArray, List.map_cons, List.map_nil]); first | done | rfl | (simp only [List.length_drop, List.length_take]; rfl)) ?_; (with_reducible refine (split_Block.calls k 7 5 3 2 t388 t389 _ A3.out).mono ?_); rintro e w29 ⟨rfl, hb⟩; refine ⟨_, rfl, ?_⟩; have n0_ := Aside0.mk (Kd.R_below (by (with_reducible repeat (first | apply Kd.R_alloc | apply Kd.R_drewN | apply Kd.R_drew)); exact HO380.out) hb); have n1_ := Aside0.mk (Kd.N_below (by (with_reducible repeat (first | apply Kd.N_alloc | apply Kd.N_drewN | apply Kd.N_drew)); exact HO383.out) hb); have n2_ := Aside0.mk (Kd.N_below (by (with_reducible repeat (first | apply Kd.N_alloc | apply Kd.N_drewN | apply Kd.N_drew)); exact HO386.out) hb); have n3_ := Aside0.mk (below_step (by repeat (first | (with_reducible first | exact HB.out | apply below_alloc | apply pw_below_drewN | apply below_drew1) | exact HB.out)) hb); clear HO380; clear HO383; clear HO386; clear HB; have HO380 := n0_; have HO383 := n1_; have HO386 := n2_; have HB := n3_; clear n0_ n1_ n2_ n3_; (try clear hb); (try clear hb2); (try clear hk); (try clear hi)) | ((with_reducible refine gate_dst (N := 18) rfl ?_); (try (refine gate_guard (by rfl) ?_; dsimp only)); refine Kd.R_lit (Kd.int .i64) _ 2 ?hg (N := 18) ?hd (xs := ([1, 2, 3] : List Int)) (inner := [.int .i64 1, .int .i64 2, .int .i64 3]) (ok := fun _ => True) (okp := fun _ => True) ?hr ?hp (fun _ hk => hk) trivial (Below.refl _ _) (Nat.le_refl _) (by simp) ?_; (case hd => rfl); (case hg => rfl); (case hr => first | (go_simp; done) | (go_simp; rfl)); (case hp => exact (Reps.one (show Kd.M (Kd.int .i64) _ _ _ 1 [.int .i64 1] from rfl) (Reps.one (show Kd.M (Kd.int .i64) _ _ _ 2 [.int .i64 2] from rfl) (Reps.one (show Kd.M (Kd.int .i64) _ _ _ 3 [.int .i64 3] from rfl) (Reps.none _ _))))); intro v391 w30 ho31 hb hg_ hnew_; clear hg_ hnew_; (first | rw [← Ny390.out] at ho31 | (simp only [Int.reduceToNat] at ho31; rw [← Ny390.out] at ho31)); have n0_ := Aside0.mk (Kd.R_elder' (by (with_reducible repeat (first | apply Kd.R_alloc | apply Kd.R_drewN | apply Kd.R_drew)); exact HO380.out) (Kd.R_base ho31) hb); have n1_ := Aside0.mk (Kd.N_elder' (by (with_reducible repeat (first | apply Kd.N_alloc | apply Kd.N_drewN | apply Kd.N_drew)); exact HO383.out) (Kd.R_base ho31) hb); have n2_ := Aside0.mk (Kd.N_elder' (by (with_reducible repeat (first | apply Kd.N_alloc | apply Kd.N_drewN | apply Kd.N_drew)); exact HO386.out) (Kd.R_base ho31) hb); have n3_ := Aside0.mk (Kd.R_lower (Kd.R_new' ho31 (Kd.R_lt (by (with_reducible repeat (first | apply Kd.R_alloc | apply Kd.R_drewN | apply Kd.R_drew)); exact HO380.out))) (below_size (by repeat (first | (with_reducible first | exact HB.out | apply below_alloc | apply pw_below_drewN | apply below_drew1) | exact HB.out)))); have n4_ := Aside0.mk (below_step (by repeat (first | (with_reducible first | exact HB.out | apply below_alloc | apply pw_below_drewN | apply below_drew1) | exact HB.out)) hb); clear HO380; clear HO383; clear HO386; clear HB; have HO380 := n0_; have HO383 := n1_; have HO386 := n2_; have HO392 := n3_; have HB := n4_; clear n0_ n1_ n2_ n3_ n4_; clear hb ho31; obtain ⟨Ao32, co32, eo32⟩ := Kd.R_slice HO392.out; subst eo32) | ((with_reducible refine gate_callee (f := 11) rfl ?_); refine goesL_ (some 19) rfl rfl Tryd.func11 (by kernel_rfl) rfl #[.slice Ao32 y390.length co32] rfl (by (try simp only [List.map_toArray, List.map_cons, List.map_nil]); first | done | rfl | (simp only [List.length_drop, List.length_take]; rfl)) ?_; (with_reducible refine (swagelaw21_list.calls k _ _ y390 t393 _ ?side1 ?side2 A4.out).mono ?_); (case side1 => repeat (first | exact (Kd.R_reads' HO392.out).2.2 | (with_reducible refine Kd.C_alloc ?_ _) | (with_reducible refine Kd.C_drewN ?_ _) | (with_reducible refine Kd.C_drew ?_))); (case side2 => exact (Kd.R_reads' HO392.out).2.1); rintro e w33 ⟨v394, rfl, ho0, hb⟩; refine ⟨_, rfl, ?_⟩; have n0_ := Aside0.mk (Kd.R_below (by (with_reducible repeat (first | apply Kd.R_alloc | apply Kd.R_drewN | apply Kd.R_drew)); exact HO380.out) hb); have n1_ := Aside0.mk (Kd.N_elder' (by (with_reducible repeat (first | apply Kd.N_alloc | apply Kd.N_drewN | apply Kd.N_drew)); exact HO383.out) (Kd.N_base ho0) hb); have n2_ := Aside0.mk (Kd.N_elder' (by (with_reducible repeat (first | apply Kd.N_alloc | apply Kd.N_drewN | apply Kd.N_drew)); exact HO386.out) (Kd.N_base ho0) hb); have n3_ := Aside0.mk (Kd.R_below (by (with_reducible repeat (first | apply Kd.R_alloc | apply Kd.R_drewN | apply Kd.R_drew)); exact HO392.out) hb); have n4_ := Aside0.mk (Kd.N_lower (Kd.N_mono (ok' := fun k_ => some k_ ≠ (.slice Ao25 y378.length co25 : Value).ownBlock ∧ some k_ ≠ (.slice Ao27 t381.length co27 : Value).ownBlock ∧ some k_ ≠ (v385 : Value).ownBlock ∧ some k_ ≠ (.slice Ao32 y390.length co32 : Value).ownBlock) ho0 (fun k_ hk_ => ⟨(Kd.fresh' (Kd.R_lt (by (with_reducible repeat (first | apply Kd.R_alloc | apply Kd.R_drewN | apply Kd.R_drew)); exact HO380.out)) k_ hk_), (Kd.fresh' (Kd.N_lt (by (with_reducible repeat (first | apply Kd.N_alloc | apply Kd.N_drewN | apply Kd.N_drew)); exact HO383.out)) k_ hk_), (Kd.fresh' (Kd.N_lt (by (with_reducible repeat (first | apply Kd.N_alloc | apply Kd.N_drewN | apply Kd.N_drew)); exact HO386.out)) k_ hk_), (Kd.fresh' (Kd.R_lt (by (with_reducible repeat (first | apply Kd.R_alloc | apply Kd.R_drewN | apply Kd.R_drew)); exact HO392.out)) k_ hk_)⟩)) (below_size (by repeat (first | (with_reducible first | exact HB.out | apply below_alloc | apply pw_below_drewN | apply below_drew1) | exact HB.out)))); have n5_ := Aside0.mk (below_step (by repeat (first | (with_reducible first | exact HB.out | apply below_alloc | apply pw_below_drewN | apply below_drew1) | exact HB.out)) hb); clear HO380; clear HO383; clear HO386; clear HO392; clear HB; have HO380 := n0_; have HO383 := n1_; have HO386 := n2_; have HO392 := n3_; have HO395 := n4_; have HB := n5_; clear n0_ n1_ n2_ n3_ n4_ n5_; (try clear hb); (try clear hb2); (try clear hk); (try clear hi); (try clear ho0)) | ((with_reducible refine gate_dst (N := 20) rfl ?_); (try (refine gate_guard (by rfl) ?_; dsimp only)); refine Kd.R_lit (Kd.int .i64) _ 2 ?hg (N := 20) ?hd (xs := ([10, 20, 30] : List Int)) (inner := [.int .i64 10, .int .i64 20, .int .i64 30]) (ok := fun _ => True) (okp := fun _ => True) ?hr ?hp (fun _ hk => hk) trivial (Below.refl _ _) (Nat.le_refl _) (by simp) ?_; (case hd => rfl); (case hg => rfl); (case hr => first | (go_simp; done) | (go_simp; rfl)); (case hp => exact (Reps.one (show Kd.M (Kd.int .i64) _ _ _ 10 [.int .i64 10] from rfl) (Reps.one (show Kd.M (Kd.int .i64) _ _ _ 20 [.int .i64 20] from rfl) (Reps.one (show Kd.M (Kd.int .i64) _ _ _ 30 [.int .i64 30] from rfl) (Reps.none _ _))))); intro v397 w34 ho35 hb hg_ hnew_; clear hg_ hnew_; (first | rw [← Ny396.out] at ho35 | (simp only [Int.reduceToNat] at ho35; rw [← Ny396.out] at ho35)); have n0_ := Aside0.mk (Kd.R_elder' (by (with_reducible repeat (first | apply Kd.R_alloc | apply Kd.R_drewN | apply Kd.R_drew)); exact HO380.out) (Kd.R_base ho35) hb); have n1_ := Aside0.mk (Kd.N_elder' (by (with_reducible repeat (first | apply Kd.N_alloc | apply Kd.N_drewN | apply Kd.N_drew)); exact HO383.out) (Kd.R_base ho35) hb); have n2_ := Aside0.mk (Kd.N_elder' (by (with_reducible repeat (first | apply Kd.N_alloc | apply Kd.N_drewN | apply Kd.N_drew)); exact HO386.out) (Kd.R_base ho35) hb); have n3_ := Aside0.mk (Kd.R_elder' (by (with_reducible repeat (first | apply Kd.R_alloc | apply Kd.R_drewN | apply Kd.R_drew)); exact HO392.out) (Kd.R_base ho35) hb); have n4_ := Aside0.mk (Kd.N_elder' (by (with_reducible repeat (first | apply Kd.N_alloc | apply Kd.N_drewN | apply Kd.N_drew)); exact HO395.out) (Kd.R_base ho35) hb); have n5_ := Aside0.mk (Kd.R_lower (Kd.R_new' (Kd.R_new' ho35 (Kd.R_lt (by (with_reducible repeat (first | apply Kd.R_alloc | apply Kd.R_drewN | apply Kd.R_drew)); exact HO380.out))) (Kd.R_lt (by (with_reducible repeat (first | apply Kd.R_alloc | apply Kd.R_drewN | apply Kd.R_drew)); exact HO392.out))) (below_size (by repeat (first | (with_reducible first | exact HB.out | apply below_alloc | apply pw_below_drewN | apply below_drew1) | exact HB.out)))); have n6_ := Aside0.mk (below_step (by repeat (first | (with_reducible first | exact HB.out | apply below_alloc | apply pw_below_drewN | apply below_drew1) | exact HB.out)) hb); clear HO380; clear HO383; clear HO386; clear HO392; clear HO395; clear HB; have HO380 := n0_; have HO383 := n1_; have HO386 := n2_; have HO392 := n3_; have HO395 := n4_; have HO398 := n5_; have HB := n6_; clear n0_ n1_ n2_ n3_ n4_ n5_ n6_; clear hb ho35; obtain ⟨Ao36, co36, eo36⟩ := Kd.R_slice HO398.out; subst eo36) | ((with_reducible refine gate_callee (f := 11) rfl ?_); refine goesL_ (some 21) rfl rfl Tryd.func11 (by kernel_rfl) rfl #[.slice Ao36 y396.length co36] rfl (by (try simp only [List.map_toArray, List.map_cons, List.map_nil]); first | done | rfl | (simp only [List.length_drop, List.length_take]; rfl)) ?_; (with_reducible refine (swagelaw21_list.calls k _ _ y396 t399 _ ?side1 ?side2 A5.out).mono ?_); (case side1 => repeat (first | exact (Kd.R_reads' HO398.out).2.2 | (with_reducible refine Kd.C_alloc ?_ _) | (with_reducible refine Kd.C_drewN ?_ _) | (with_reducible refine Kd.C_drew ?_))); (case side2 => exact (Kd.R_reads' HO398.out).2.1); rintro e w37 ⟨v400, rfl, ho0, hb⟩; refine ⟨_, rfl, ?_⟩; have n0_ := Aside0.mk (Kd.R_below (by (with_reducible repeat (first | apply Kd.R_alloc | apply Kd.R_drewN | apply Kd.R_drew)); exact HO380.out) hb); have n1_ := Aside0.mk (Kd.N_elder' (by (with_reducible repeat (first | apply Kd.N_alloc | apply Kd.N_drewN | apply Kd.N_drew)); exact HO383.out) (Kd.N_base ho0) hb); have n2_ := Aside0.mk (Kd.N_elder' (by (with_reducible repeat (first | apply Kd.N_alloc | apply Kd.N_drewN | apply Kd.N_drew)); exact HO386.out) (Kd.N_base ho0) hb); have n3_ := Aside0.mk (Kd.R_below (by (with_reducible repeat (first | apply Kd.R_alloc | apply Kd.R_drewN | apply Kd.R_drew)); exact HO392.out) hb); have n4_ := Aside0.mk (Kd.N_elder' (by (with_reducible repeat (first | apply Kd.N_alloc | apply Kd.N_drewN | apply Kd.N_drew)); exact HO395.out) (Kd.N_base ho0) hb); have n5_ := Aside0.mk (Kd.R_below (by (with_reducible repeat (first | apply Kd.R_alloc | apply Kd.R_drewN | apply Kd.R_drew)); exact HO398.out) hb); have n6_ := Aside0.mk (Kd.N_lower (Kd.N_mono (ok' := fun k_ => some k_ ≠ (.slice Ao25 y378.length co25 : Value).ownBlock ∧ some k_ ≠ (.slice Ao27 t381.length co27 : Value).ownBlock ∧ some k_ ≠ (v385 : Value).ownBlock ∧ some k_ ≠ (.slice Ao32 y390.length co32 : Value).ownBlock ∧ some k_ ≠ (v394 : Value).ownBlock ∧ some k_ ≠ (.slice Ao36 y396.length co36 : Value).ownBlock) ho0 (fun k_ hk_ => ⟨(Kd.fresh' (Kd.R_lt (by (with_reducible repeat (first | apply Kd.R_alloc | apply Kd.R_drewN | apply Kd.R_drew)); exact HO380.out)) k_ hk_), (Kd.fresh' (Kd.N_lt (by (with_reducible repeat (first | apply Kd.N_alloc | apply Kd.N_drewN | apply Kd.N_drew)); exact HO383.out)) k_ hk_), (Kd.fresh' (Kd.N_lt (by (with_reducible repeat (first | apply Kd.N_alloc | apply Kd.N_drewN | apply Kd.N_drew)); exact HO386.out)) k_ hk_), (Kd.fresh' (Kd.R_lt (by (with_reducible repeat (first | apply Kd.R_alloc | apply Kd.R_drewN | apply Kd.R_drew)); exact HO392.out)) k_ hk_), (Kd.fresh' (Kd.N_lt (by (with_reducible repeat (first | apply Kd.N_alloc | apply Kd.N_drewN | apply Kd.N_drew)); exact HO395.out)) k_ hk_), (Kd.fresh' (Kd.R_lt (by (with_reducible repeat (first | apply Kd.R_alloc | apply Kd.R_drewN | apply Kd.R_drew)); exact HO398.out)) k_ hk_)⟩)) (below_size (by repeat (first | (with_reducible first | exact HB.out | apply below_alloc | apply pw_below_drewN | apply below_drew1) | exact HB.out)))); have n7_ := Aside0.mk (below_step (by repeat (first | (with_reducible first | exact HB.out | apply below_alloc | apply pw_below_drewN | apply below_drew1) | exact HB.out)) hb); clear HO380; clear HO383; clear HO386; clear HO392; clear HO395; clear HO398; clear HB; have HO380 := n0_; have HO383 := n1_; have HO386 := n2_; have HO392 := n3_; have HO395 := n4_; have HO398 := n5_; have HO401 := n6_; have HB := n7_; clear n0_ n1_ n2_ n3_ n4_ n5_ n6_ n7_; (try clear hb); (try clear hb2); (try clear hk); (try clear hi); (try clear ho0)) | ((with_reducible refine gate_dst (N := 22) rfl ?_); (try (refine gate_guard (by rfl) ?_; dsimp only)); refine Kd.R_lit (Kd.int .i64) _ 2 ?hg (N := 22) ?hd (xs := ([100] : List Int)) (inner := [.int .i64 100]) (ok := fun _ => True) (okp := fun _ => True) ?hr ?hp (fun _ hk => hk) trivial (Below.refl _ _) (Nat.le_refl _) (by simp) ?_; (case hd => rfl); (case hg => rfl); (case hr => first | (go_simp; done) | (go_simp; rfl)); (case hp => exact (Reps.one (show Kd.M (Kd.int .i64) _ _ _ 100 [.int .i64 100] from rfl) (Reps.none _ _))); intro v403 w38 ho39 hb hg_ hnew_; clear hg_ hnew_; (first | rw [← Ny402.out] at ho39 | (simp only [Int.reduceToNat] at ho39; rw [← Ny402.out] at ho39)); have n0_ := Aside0.mk (Kd.R_elder' (by (with_reducible repeat (first | apply Kd.R_alloc | apply Kd.R_drewN | apply Kd.R_drew)); exact HO380.out) (Kd.R_base ho39) hb); have n1_ := Aside0.mk (Kd.N_elder' (by (with_reducible repeat (first | apply Kd.N_alloc | apply Kd.N_drewN | apply Kd.N_drew)); exact HO383.out) (Kd.R_base ho39) hb); have n2_ := Aside0.mk (Kd.N_elder' (by (with_reducible repeat (first | apply Kd.N_alloc | apply Kd.N_drewN | apply Kd.N_drew)); exact HO386.out) (Kd.R_base ho39) hb); have n3_ := Aside0.mk (Kd.R_elder' (by (with_reducible repeat (first | apply Kd.R_alloc | apply Kd.R_drewN | apply Kd.R_drew)); exact HO392.out) (Kd.R_base ho39) hb); have n4_ := Aside0.mk (Kd.N_elder' (by (with_reducible repeat (first | apply Kd.N_alloc | apply Kd.N_drewN | apply Kd.N_drew)); exact HO395.out) (Kd.R_base ho39) hb); have n5_ := Aside0.mk (Kd.R_elder' (by (with_reducible repeat (first | apply Kd.R_alloc | apply Kd.R_drewN | apply Kd.R_drew)); exact HO398.out) (Kd.R_base ho39) hb); have n6_ := Aside0.mk (Kd.N_elder' (by (with_reducible repeat (first | apply Kd.N_alloc | apply Kd.N_drewN | apply Kd.N_drew)); exact HO401.out) (Kd.R_base ho39) hb); have n7_ := Aside0.mk (Kd.R_lower (Kd.R_new' (Kd.R_new' (Kd.R_new' ho39 (Kd.R_lt (by (with_reducible repeat (first | apply Kd.R_alloc | apply Kd.R_drewN | apply Kd.R_drew)); exact HO380.out))) (Kd.R_lt (by (with_reducible repeat (first | apply Kd.R_alloc | apply Kd.R_drewN | apply Kd.R_drew)); exact HO392.out))) (Kd.R_lt (by (with_reducible repeat (first | apply Kd.R_alloc | apply Kd.R_drewN | apply Kd.R_drew)); exact HO398.out))) (below_size (by repeat (first | (with_reducible first | exact HB.out | apply below_alloc | apply pw_below_drewN | apply below_drew1) | exact HB.out)))); have n8_ := Aside0.mk (below_step (by repeat (first | (with_reducible first | exact HB.out | apply below_alloc | apply pw_below_drewN | apply below_drew1) | exact HB.out)) hb); clear HO380; clear HO383; clear HO386; clear HO392; clear HO395; clear HO398; clear HO401; clear HB; have HO380 := n0_; have HO383 := n1_; have HO386 := n2_; have HO392 := n3_; have HO395 := n4_; have HO398 := n5_; have HO401 := n6_; have HO404 := n7_; have HB := n8_; clear n0_ n1_ n2_ n3_ n4_ n5_ n6_ n7_ n8_; clear hb ho39; obtain ⟨Ao40, co40, eo40⟩ := Kd.R_slice HO404.out; subst eo40) | ((with_reducible refine gate_callee (f := 11) rfl ?_); refine goesL_ (some 23) rfl rfl Tryd.func11 (by kernel_rfl) rfl #[.slice Ao40 y402.length co40] rfl (by (try simp only [List.map_toArray, List.map_cons, List.map_nil]); first | done | rfl | (simp only [List.length_drop, List.length_take]; rfl)) ?_; (with_reducible refine (swagelaw21_list.calls k _ _ y402 t405 _ ?side1 ?side2 A6.out).mono ?_); (case side1 => repeat (first | exact (Kd.R_reads' HO404.out).2.2 | (with_reducible refine Kd.C_alloc ?_ _) | (with_reducible refine Kd.C_drewN ?_ _) | (with_reducible refine Kd.C_drew ?_))); (case side2 => exact (Kd.R_reads' HO404.out).2.1); rintro e w41 ⟨v406, rfl, ho0, hb⟩; refine ⟨_, rfl, ?_⟩; have n0_ := Aside0.mk (Kd.R_below (by (with_reducible repeat (first | apply Kd.R_alloc | apply Kd.R_drewN | apply Kd.R_drew)); exact HO380.out) hb); have n1_ := Aside0.mk (Kd.N_elder' (by (with_reducible repeat (first | apply Kd.N_alloc | apply Kd.N_drewN | apply Kd.N_drew)); exact HO383.out) (Kd.N_base ho0) hb); have n2_ := Aside0.mk (Kd.N_elder' (by (with_reducible repeat (first | apply Kd.N_alloc | apply Kd.N_drewN | apply Kd.N_drew)); exact HO386.out) (Kd.N_base ho0) hb); have n3_ := Aside0.mk (Kd.R_below (by (with_reducible repeat (first | apply Kd.R_alloc | apply Kd.R_drewN | apply Kd.R_drew)); exact HO392.out) hb); have n4_ := Aside0.mk (Kd.N_elder' (by (with_reducible repeat (first | apply Kd.N_alloc | apply Kd.N_drewN | apply Kd.N_drew)); exact HO395.out) (Kd.N_base ho0) hb); have n5_ := Aside0.mk (Kd.R_below (by (with_reducible repeat (first | apply Kd.R_alloc | apply Kd.R_drewN | apply Kd.R_drew)); exact HO398.out) hb); have n6_ := Aside0.mk (Kd.N_elder' (by (with_reducible repeat (first | apply Kd.N_alloc | apply Kd.N_drewN | apply Kd.N_drew)); exact HO401.out) (Kd.N_base ho0) hb); have n7_ := Aside0.mk (Kd.R_below (by (with_reducible repeat (first | apply Kd.R_alloc | apply Kd.R_drewN | apply Kd.R_drew)); exact HO404.out) hb); have n8_ := Aside0.mk (Kd.N_lower (Kd.N_mono (ok' := fun k_ => some k_ ≠ (.slice Ao25 y378.length co25 : Value).ownBlock ∧ some k_ ≠ (.slice Ao27 t381.length co27 : Value).ownBlock ∧ some k_ ≠ (v385 : Value).ownBlock ∧ some k_ ≠ (.slice Ao32 y390.length co32 : Value).ownBlock ∧ some k_ ≠ (v394 : Value).ownBlock ∧ some k_ ≠ (.slice Ao36 y396.length co36 : Value).ownBlock ∧ some k_ ≠ (v400 : Value).ownBlock ∧ some k_ ≠ (.slice Ao40 y402.length co40 : Value).ownBlock) ho0 (fun k_ hk_ => ⟨(Kd.fresh' (Kd.R_lt (by (with_reducible repeat (first | apply Kd.R_alloc | apply Kd.R_drewN | apply Kd.R_drew)); exact HO380.out)) k_ hk_), (Kd.fresh' (Kd.N_lt (by (with_reducible repeat (first | apply Kd.N_alloc | apply Kd.N_drewN | apply Kd.N_drew)); exact HO383.out)) k_ hk_), (Kd.fresh' (Kd.N_lt (by (with_reducible repeat (first | apply Kd.N_alloc | apply Kd.N_drewN | apply Kd.N_drew)); exact HO386.out)) k_ hk_), (Kd.fresh' (Kd.R_lt (by (with_reducible repeat (first | apply Kd.R_alloc | apply Kd.R_drewN | apply Kd.R_drew)); exact HO392.out)) k_ hk_), (Kd.fresh' (Kd.N_lt (by (with_reducible repeat (first | apply Kd.N_alloc | apply Kd.N_drewN | apply Kd.N_drew)); exact HO395.out)) k_ hk_), (Kd.fresh' (Kd.R_lt (by (with_reducible repeat (first | apply Kd.R_alloc | apply Kd.R_drewN | apply Kd.R_drew)); exact HO398.out)) k_ hk_), (Kd.fresh' (Kd.N_lt (by (with_reducible repeat (first | apply Kd.N_alloc | apply Kd.N_drewN | apply Kd.N_drew)); exact HO401.out)) k_ hk_), (Kd.fresh' (Kd.R_lt (by (with_reducible repeat (first | apply Kd.R_alloc | apply Kd.R_drewN | apply Kd.R_drew)); exact HO404.out)) k_ hk_)⟩)) (below_size (by repeat (first | (with_reducible first | exact HB.out | apply below_alloc | apply pw_below_drewN | apply below_drew1) | exact HB.out)))); have n9_ := Aside0.mk (below_step (by repeat (first | (with_reducible first | exact HB.out | apply below_alloc | apply pw_below_drewN | apply below_drew1) | exact HB.out)) hb); clear HO380; clear HO383; clear HO386; clear HO392; clear HO395; clear HO398; clear HO401; clear HO404; clear HB; have HO380 := n0_; have HO383 := n1_; have HO386 := n2_; have HO392 := n3_; have HO395 := n4_; have HO398 := n5_; have HO401 := n6_; have HO404 := n7_; have HO407 := n8_; have HB := n9_; clear n0_ n1_ n2_ n3_ n4_ n5_ n6_ n7_ n8_ n9_; (try clear hb); (try clear hb2); (try clear hk); (try clear hi); (try clear ho0); obtain ⟨Ao42, co42, eo42⟩ := Kd.N_slice HO395.out; subst eo42; obtain ⟨Ao43, co43, eo43⟩ := Kd.N_slice HO401.out; subst eo43; obtain ⟨Ao44, co44, eo44⟩ := Kd.N_slice HO407.out; subst eo44) | ((with_reducible refine gate_dst (N := 24) rfl ?_); (try (refine gate_guard (by rfl) ?_; dsimp only)); refine Kd.N_lit (Kd.slice 39 k39) _ 24 ?hg (N' := 24) ?hd (xs := ([t393, t399, t405] : List (List (S39)))) (inner := [.slice Ao42 t393.length co42, .slice Ao43 t399.length co43, .slice Ao44 t405.length co44]) (ok := (fun k_ => some k_ ≠ (.slice Ao25 y378.length co25 : Value).ownBlock ∧ some k_ ≠ (.slice Ao27 t381.length co27 : Value).ownBlock ∧ some k_ ≠ (v385 : Value).ownBlock ∧ some k_ ≠ (.slice Ao32 y390.length co32 : Value).ownBlock ∧ some k_ ≠ (.slice Ao36 y396.length co36 : Value).ownBlock ∧ some k_ ≠ (.slice Ao40 y402.length co40 : Value).ownBlock)) (okp := (fun k_ => some k_ ≠ (.slice Ao25 y378.length co25 : Value).ownBlock ∧ some k_ ≠ (.slice Ao27 t381.length co27 : Value).ownBlock ∧ some k_ ≠ (v385 : Value).ownBlock ∧ some k_ ≠ (.slice Ao32 y390.length co32 : Value).ownBlock ∧ some k_ ≠ (.slice Ao36 y396.length co36 : Value).ownBlock ∧ some k_ ≠ (.slice Ao40 y402.length co40 : Value).ownBlock)) ?hr ?hp (fun _ hk => hk) ((show ∀ k_, w41.heap.size ≤ k_ → (fun k_ => some k_ ≠ (.slice Ao25 y378.length co25 : Value).ownBlock ∧ some k_ ≠ (.slice Ao27 t381.length co27 : Value).ownBlock ∧ some k_ ≠ (v385 : Value).ownBlock ∧ some k_ ≠ (.slice Ao32 y390.length co32 : Value).ownBlock ∧ some k_ ≠ (.slice Ao36 y396.length co36 : Value).ownBlock ∧ some k_ ≠ (.slice Ao40 y402.length co40 : Value).ownBlock) k_ from fun k_ hk => ⟨Kd.fresh' (Kd.R_lt (by (with_reducible repeat (first | apply Kd.R_alloc | apply Kd.R_drewN | apply Kd.R_drew)); exact HO380.out)) k_ hk, Kd.fresh' (Kd.N_lt (by (with_reducible repeat (first | apply Kd.N_alloc | apply Kd.N_drewN | apply Kd.N_drew)); exact HO383.out)) k_ hk, Kd.fresh' (Kd.N_lt (by (with_reducible repeat (first | apply Kd.N_alloc | apply Kd.N_drewN | apply Kd.N_drew)); exact HO386.out)) k_ hk, Kd.fresh' (Kd.R_lt (by (with_reducible repeat (first | apply Kd.R_alloc | apply Kd.R_drewN | apply Kd.R_drew)); exact HO392.out)) k_ hk, Kd.fresh' (Kd.R_lt (by (with_reducible repeat (first | apply Kd.R_alloc | apply Kd.R_drewN | apply Kd.R_drew)); exact HO398.out)) k_ hk, Kd.fresh' (Kd.R_lt (by (with_reducible repeat (first | apply Kd.R_alloc | apply Kd.R_drewN | apply Kd.R_drew)); exact HO404.out)) k_ hk⟩) _ (Nat.le_refl _)) (Below.refl _ _) (Nat.le_refl _) (by simp) ?_; (case hd => rfl); (case hg => rfl); (case hr => first | (go_simp; done) | (go_simp; rfl)); (case hp => exact (Reps.one (show Kd.FK (Kd.slice 39 k39) _ _ t393 [.slice Ao42 t393.length co42] from (Kd.FK_slice_mk (Kd.N_reads' (Kd.N_mono (ok' := (fun k_ => some k_ ≠ (.slice Ao25 y378.length co25 : Value).ownBlock ∧ some k_ ≠ (.slice Ao27 t381.length co27 : Value).ownBlock ∧ some k_ ≠ (v385 : Value).ownBlock ∧ some k_ ≠ (.slice Ao32 y390.length co32 : Value).ownBlock ∧ some k_ ≠ (.slice Ao36 y396.length co36 : Value).ownBlock ∧ some k_ ≠ (.slice Ao40 y402.length co40 : Value).ownBlock)) (HO395.out) (fun k_ hk => ⟨hk.1.1.1.1.1, ⟨hk.1.1.1.1.2.1, ⟨hk.1.1.1.1.2.2.1, ⟨hk.1.1.1.1.2.2.2, ⟨hk.1.1.1.2, hk.1.2⟩⟩⟩⟩⟩))).2.1 (Kd.N_F (Kd.N_mono (ok' := (fun k_ => some k_ ≠ (.slice Ao25 y378.length co25 : Value).ownBlock ∧ some k_ ≠ (.slice Ao27 t381.length co27 : Value).ownBlock ∧ some k_ ≠ (v385 : Value).ownBlock ∧ some k_ ≠ (.slice Ao32 y390.length co32 : Value).ownBlock ∧ some k_ ≠ (.slice Ao36 y396.length co36 : Value).ownBlock ∧ some k_ ≠ (.slice Ao40 y402.length co40 : Value).ownBlock)) (HO395.out) (fun k_ hk => ⟨hk.1.1.1.1.1, ⟨hk.1.1.1.1.2.1, ⟨hk.1.1.1.1.2.2.1, ⟨hk.1.1.1.1.2.2.2, ⟨hk.1.1.1.2, hk.1.2⟩⟩⟩⟩⟩))))) (Reps.one (show Kd.FK (Kd.slice 39 k39) _ _ t399 [.slice Ao43 t399.length co43] from (Kd.FK_slice_mk (Kd.N_reads' (Kd.N_mono (ok' := (fun k_ => some k_ ≠ (.slice Ao25 y378.length co25 : Value).ownBlock ∧ some k_ ≠ (.slice Ao27 t381.length co27 : Value).ownBlock ∧ some k_ ≠ (v385 : Value).ownBlock ∧ some k_ ≠ (.slice Ao32 y390.length co32 : Value).ownBlock ∧ some k_ ≠ (.slice Ao36 y396.length co36 : Value).ownBlock ∧ some k_ ≠ (.slice Ao40 y402.length co40 : Value).ownBlock)) (HO401.out) (fun k_ hk => ⟨hk.1.1.1, ⟨hk.1.1.2.1, ⟨hk.1.1.2.2.1, ⟨hk.1.1.2.2.2.1, ⟨hk.1.1.2.2.2.2.2, hk.1.2⟩⟩⟩⟩⟩))).2.1 (Kd.N_F (Kd.N_mono (ok' := (fun k_ => some k_ ≠ (.slice Ao25 y378.length co25 : Value).ownBlock ∧ some k_ ≠ (.slice Ao27 t381.length co27 : Value).ownBlock ∧ some k_ ≠ (v385 : Value).ownBlock ∧ some k_ ≠ (.slice Ao32 y390.length co32 : Value).ownBlock ∧ some k_ ≠ (.slice Ao36 y396.length co36 : Value).ownBlock ∧ some k_ ≠ (.slice Ao40 y402.length co40 : Value).ownBlock)) (HO401.out) (fun k_ hk => ⟨hk.1.1.1, ⟨hk.1.1.2.1, ⟨hk.1.1.2.2.1, ⟨hk.1.1.2.2.2.1, ⟨hk.1.1.2.2.2.2.2, hk.1.2⟩⟩⟩⟩⟩))))) (Reps.one (show Kd.FK (Kd.slice 39 k39) _ _ t405 [.slice Ao44 t405.length co44] from (Kd.FK_slice_mk (Kd.N_reads' (Kd.N_mono (ok' := (fun k_ => some k_ ≠ (.slice Ao25 y378.length co25 : Value).ownBlock ∧ some k_ ≠ (.slice Ao27 t381.length co27 : Value).ownBlock ∧ some k_ ≠ (v385 : Value).ownBlock ∧ some k_ ≠ (.slice Ao32 y390.length co32 : Value).ownBlock ∧ some k_ ≠ (.slice Ao36 y396.length co36 : Value).ownBlock ∧ some k_ ≠ (.slice Ao40 y402.length co40 : Value).ownBlock)) (HO407.out) (fun k_ hk => ⟨hk.1, ⟨hk.2.1, ⟨hk.2.2.1, ⟨hk.2.2.2.1, ⟨hk.2.2.2.2.2.1, hk.2.2.2.2.2.2.2⟩⟩⟩⟩⟩))).2.1 (Kd.N_F (Kd.N_mono (ok' := (fun k_ => some k_ ≠ (.slice Ao25 y378.length co25 : Value).ownBlock ∧ some k_ ≠ (.slice Ao27 t381.length co27 : Value).ownBlock ∧ some k_ ≠ (v385 : Value).ownBlock ∧ some k_ ≠ (.slice Ao32 y390.length co32 : Value).ownBlock ∧ some k_ ≠ (.slice Ao36 y396.length co36 : Value).ownBlock ∧ some k_ ≠ (.slice Ao40 y402.length co40 : Value).ownBlock)) (HO407.out) (fun k_ hk => ⟨hk.1, ⟨hk.2.1, ⟨hk.2.2.1, ⟨hk.2.2.2.1, ⟨hk.2.2.2.2.2.1, hk.2.2.2.2.2.2.2⟩⟩⟩⟩⟩))))) (Reps.none _ _))))); intro v409 w45 ho46 hb hg_ hnew_; clear hg_ hnew_; (first | rw [← Ny408.out] at ho46 | (simp only [Int.reduceToNat] at ho46; rw [← Ny408.out] at ho46)); have n0_ := Aside0.mk (Kd.R_below (by (with_reducible repeat (first | apply Kd.R_alloc | apply Kd.R_drewN | apply Kd.R_drew)); exact HO380.out) hb); have n1_ := Aside0.mk (Kd.N_elder' (by (with_reducible repeat (first | apply Kd.N_alloc | apply Kd.N_drewN | apply Kd.N_drew)); exact HO383.out) (Kd.N_base ho46) hb); have n2_ := Aside0.mk (Kd.N_elder' (by (with_reducible repeat (first | apply Kd.N_alloc | apply Kd.N_drewN | apply Kd.N_drew)); exact HO386.out) (Kd.N_base ho46) hb); have n3_ := Aside0.mk (Kd.R_below (by (with_reducible repeat (first | apply Kd.R_alloc | apply Kd.R_drewN | apply Kd.R_drew)); exact HO392.out) hb); have n4_ := Aside0.mk (Kd.R_below (by (with_reducible repeat (first | apply Kd.R_alloc | apply Kd.R_drewN | apply Kd.R_drew)); exact HO398.out) hb); have n5_ := Aside0.mk (Kd.R_below (by (with_reducible repeat (first | apply Kd.R_alloc | apply Kd.R_drewN | apply Kd.R_drew)); exact HO404.out) hb); have n6_ := Aside0.mk (Kd.N_lower ho46 (below_size (by repeat (first | (with_reducible first | exact HB.out | apply below_alloc | apply pw_below_drewN | apply below_drew1) | exact HB.out)))); have n7_ := Aside0.mk (below_step (by repeat (first | (with_reducible first | exact HB.out | apply below_alloc | apply pw_below_drewN | apply below_drew1) | exact HB.out)) hb); clear HO380; clear HO383; clear HO386; clear HO392; clear HO398; clear HO404; clear HB; clear HO395; clear HO401; clear HO407; have HO380 := n0_; have HO383 := n1_; have HO386 := n2_; have HO392 := n3_; have HO398 := n4_; have HO404 := n5_; have HO410 := n6_; have HB := n7_; clear n0_ n1_ n2_ n3_ n4_ n5_ n6_ n7_; clear hb ho46; obtain ⟨Ao47, co47, eo47⟩ := Kd.N_slice HO410.out; subst eo47) | ((with_reducible refine gate_callee (f := 18) rfl ?_); refine goesL_ (some 25) rfl rfl Tryd.func18 (by kernel_rfl) rfl #[.slice Ao47 y408.length co47, .int .i64 2, .int .i64 5] rfl (by (try simp only [List.map_toArray, List.map_cons, List.map_nil]); first | done | rfl | (simp only [List.length_drop, List.length_take]; rfl)) ?_; (with_reducible refine (split_Join.calls k _ _ y408 2 5 t411 t414 _ ?side1 ?side2 A7.out).mono ?_); (case side1 => repeat (first | exact (Kd.N_reads' HO410.out).2.2 | (with_reducible refine Kd.C_alloc ?_ _) | (with_reducible refine Kd.C_drewN ?_ _) | (with_reducible refine Kd.C_drew ?_))); (case side2 => exact (Kd.N_reads' HO410.out).2.1); rintro e w48 ⟨v412, rfl, ho0, hb⟩; refine ⟨_, rfl, ?_⟩; have n0_ := Aside0.mk (Kd.R_below (by (with_reducible repeat (first | apply Kd.R_alloc | apply Kd.R_drewN | apply Kd.R_drew)); exact HO380.out) hb); have n1_ := Aside0.mk (Kd.N_below (by (with_reducible repeat (first | apply Kd.N_alloc | apply Kd.N_drewN | apply Kd.N_drew)); exact HO383.out) hb); have n2_ := Aside0.mk (Kd.N_below (by (with_reducible repeat (first | apply Kd.N_alloc | apply Kd.N_drewN | apply Kd.N_drew)); exact HO386.out) hb); have n3_ := Aside0.mk (Kd.R_below (by (with_reducible repeat (first | apply Kd.R_alloc | apply Kd.R_drewN | apply Kd.R_drew)); exact HO392.out) hb); have n4_ := Aside0.mk (Kd.R_below (by (with_reducible repeat (first | apply Kd.R_alloc | apply Kd.R_drewN | apply Kd.R_drew)); exact HO398.out) hb); have n5_ := Aside0.mk (Kd.R_below (by (with_reducible repeat (first | apply Kd.R_alloc | apply Kd.R_drewN | apply Kd.R_drew)); exact HO404.out) hb); have n6_ := Aside0.mk (Kd.N_below (by (with_reducible repeat (first | apply Kd.N_alloc | apply Kd.N_drewN | apply Kd.N_drew)); exact HO410.out) hb); have n7_ := Aside0.mk (Kd.V_lower (Kd.V_mono (ok' := fun k_ => some k_ ≠ (.slice Ao25 y378.length co25 : Value).ownBlock ∧ some k_ ≠ (.slice Ao27 t381.length co27 : Value).ownBlock ∧ some k_ ≠ (v385 : Value).ownBlock ∧ some k_ ≠ (.slice Ao32 y390.length co32 : Value).ownBlock ∧ some k_ ≠ (.slice Ao36 y396.length co36 : Value).ownBlock ∧ some k_ ≠ (.slice Ao40 y402.length co40 : Value).ownBlock ∧ some k_ ≠ (.slice Ao47 y408.length co47 : Value).ownBlock) ho0 (fun k_ hk_ => ⟨(Kd.fresh' (Kd.R_lt (by (with_reducible repeat (first | apply Kd.R_alloc | apply Kd.R_drewN | apply Kd.R_drew)); exact HO380.out)) k_ hk_), (Kd.fresh' (Kd.N_lt (by (with_reducible repeat (first | apply Kd.N_alloc | apply Kd.N_drewN | apply Kd.N_drew)); exact HO383.out)) k_ hk_), (Kd.fresh' (Kd.N_lt (by (with_reducible repeat (first | apply Kd.N_alloc | apply Kd.N_drewN | apply Kd.N_drew)); exact HO386.out)) k_ hk_), (Kd.fresh' (Kd.R_lt (by (with_reducible repeat (first | apply Kd.R_alloc | apply Kd.R_drewN | apply Kd.R_drew)); exact HO392.out)) k_ hk_), (Kd.fresh' (Kd.R_lt (by (with_reducible repeat (first | apply Kd.R_alloc | apply Kd.R_drewN | apply Kd.R_drew)); exact HO398.out)) k_ hk_), (Kd.fresh' (Kd.R_lt (by (with_reducible repeat (first | apply Kd.R_alloc | apply Kd.R_drewN | apply Kd.R_drew)); exact HO404.out)) k_ hk_), (Kd.fresh' (Kd.N_lt (by (with_reducible repeat (first | apply Kd.N_alloc | apply Kd.N_drewN | apply Kd.N_drew)); exact HO410.out)) k_ hk_)⟩)) (below_size (by repeat (first | (with_reducible first | exact HB.out | apply below_alloc | apply pw_below_drewN | apply below_drew1) | exact HB.out)))); have n8_ := Aside0.mk (below_step (by repeat (first | (with_reducible first | exact HB.out | apply below_alloc | apply pw_below_drewN | apply below_drew1) | exact HB.out)) hb); clear HO380; clear HO383; clear HO386; clear HO392; clear HO398; clear HO404; clear HO410; clear HB; have HO380 := n0_; have HO383 := n1_; have HO386 := n2_; have HO392 := n3_; have HO398 := n4_; have HO404 := n5_; have HO410 := n6_; have HO413 := n7_; have HB := n8_; clear n0_ n1_ n2_ n3_ n4_ n5_ n6_ n7_ n8_; (try clear hb); (try clear hb2); (try clear hk); (try clear hi); (try clear ho0)))
                    have n0_ := Aside0.mk (Kd.R_drew HO380.out)
                    have n1_ := Aside0.mk (Kd.N_drew HO383.out)
                    have n2_ := Aside0.mk (Kd.N_drew HO386.out)
                    have n3_ := Aside0.mk (Kd.R_drew HO392.out)
                    have n4_ := Aside0.mk (Kd.R_drew HO398.out)
                    have n5_ := Aside0.mk (Kd.R_drew HO404.out)
                    have n6_ := Aside0.mk (Kd.N_drew HO410.out)
                    have n7_ := Aside0.mk (Kd.V_drew HO413.out)
                    have n8_ := Aside0.mk (below_drew1 HB.out)
                    clear HO380
                    clear HO383
                    clear HO386
                    clear HO392
                    clear HO398
                    clear HO404
                    clear HO410
                    clear HO413
                    clear HB
                    have HO380 := n0_
                    have HO383 := n1_
                    have HO386 := n2_
                    have HO392 := n3_
                    have HO398 := n4_
                    have HO404 := n5_
                    have HO410 := n6_
                    have HO413 := n7_
                    have HB := n8_
                    clear n0_ n1_ n2_ n3_ n4_ n5_ n6_ n7_ n8_
                    obtain ⟨Ao50, co50, eo50⟩ := Kd.N_slice HO386.out
                    (first | subst eo50 | (injection eo50 with f1_ f2_ f3_; have f4_ := f1_.symm; have f5_ := f3_.symm; clear f1_ f2_ f3_; subst f4_; subst f5_))
                    have p415 : 0 ≤ (0 : Int) := (by omega)
                    have q415 : 0 < (t384.length : Int) := of_decide_eq_true (by first | (with_reducible assumption) | assumption)
                    obtain ⟨ad415, A415_0, c415_0, e415, hx415_0, hl415_0, hi415_0⟩ := at_L5 (Kd.N_reads' HO386.out).2.2 0 p415 q415
                    cases e415
                    obtain ⟨ce415, hce415, hMe415, hcc415⟩ := Kd.N_get HO386.out [] 0 p415 (by first | exact q415 | exact of_decide_eq_true (by first | (with_reducible assumption) | assumption) | (have e_ := (Kd.N_reads' HO386.out).1; omega))
                    obtain ⟨ua415_0, uc415_0, rfl, ul415_0, ge415_0⟩ := Kd.FK_slice_open hMe415
                    have hv415_0 := hcc415 0 _ rfl
                    rw [Nat.add_zero, show ((Kd.slice 39 k39)).sz = 1 from rfl, Nat.mul_one] at hv415_0
                    replace hv415_0 := Option.some.inj (hv415_0.symm.trans hx415_0)
                    injection hv415_0 with hva_ hvn_ hvc_
                    rw [hva_] at ge415_0
                    rw [hvc_] at ul415_0
                    have HL415_0 := Aside0.mk (show Kd.V k39 39 _ w.heap.size _ _ (rd_L5 t384 0) from Kd.V_mk ul415_0 ge415_0)
                    clear hva_ hvn_ hvc_ ge415_0 ul415_0
                    clear hcc415 hce415
                    have qi415 : (0 < t384.length) = True := eq_true (by omega)
                    (try rw [show ((0 : Int)).toNat = 0 from rfl] at hx415_0)
                    (try rw [Addr.add_zero'] at hx415_0)
                    have HR415_0 := Aside0.mk hi415_0
                    have HC415_0 := Aside0.mk hl415_0
                    clear hi415_0 hl415_0
                    replace p415 := eq_true p415
                    replace q415 := eq_true q415
                    have p423 : 0 ≤ (1 : Int) := (by omega)
                    have q423 : 1 < (t384.length : Int) := of_decide_eq_true (by first | (with_reducible assumption) | assumption)
                    obtain ⟨ad423, A423_0, c423_0, e423, hx423_0, hl423_0, hi423_0⟩ := at_L5 (Kd.N_reads' HO386.out).2.2 1 p423 q423
                    obtain rfl : ad415 = ad423 := (by injection e423)
                    obtain ⟨ce423, hce423, hMe423, hcc423⟩ := Kd.N_get HO386.out [] 1 p423 (by first | exact q423 | exact of_decide_eq_true (by first | (with_reducible assumption) | assumption) | (have e_ := (Kd.N_reads' HO386.out).1; omega))
                    obtain ⟨ua423_0, uc423_0, rfl, ul423_0, ge423_0⟩ := Kd.FK_slice_open hMe423
                    have hv423_0 := hcc423 0 _ rfl
                    rw [Nat.add_zero, show ((Kd.slice 39 k39)).sz = 1 from rfl, Nat.mul_one] at hv423_0
                    replace hv423_0 := Option.some.inj (hv423_0.symm.trans hx423_0)
                    injection hv423_0 with hva_ hvn_ hvc_
                    rw [hva_] at ge423_0
                    rw [hvc_] at ul423_0
                    have HL423_0 := Aside0.mk (show Kd.V k39 39 _ w.heap.size _ _ (rd_L5 t384 1) from Kd.V_mk ul423_0 ge423_0)
                    clear hva_ hvn_ hvc_ ge423_0 ul423_0
                    clear hcc423 hce423
                    (try simp only [show (1 : Int).toNat = 1 from rfl, Nat.reduceMul, Nat.reduceEqDiff, Go.Addr.add, ↓reduceIte] at hx423_0)
                    have qi423 : (1 < t384.length) = True := eq_true (by omega)
                    (try rw [show ((1 : Int)).toNat = 1 from rfl] at hx423_0)
                    have HR423_0 := Aside0.mk hi423_0
                    have HC423_0 := Aside0.mk hl423_0
                    clear hi423_0 hl423_0
                    replace p423 := eq_true p423
                    replace q423 := eq_true q423
                    refine start_ (n := 42) (S := fun w' => w'.cell? ad415 = some (.slice A415_0 (rd_L5 t384 0).length c415_0) ∧ w'.cell? ⟨ad415.block, ad415.off + 1, none⟩ = some (.slice A423_0 (rd_L5 t384 1).length c423_0)) (ds := []) #[false, false, false, false, false, false, false, false, false, false, false, false, false, false, false, false, false, false, false, false, false, false, false, false, false, false, false, false, false, false, false, false, false, false, false, false, false, false, false, false, false, false] (by kernel_rfl) rfl rfl ⟨hx415_0, hx423_0⟩ (fun hHeld => ?_); refine with_tabW swagelaw21_works.tab4 swagelaw21_works.bits4 (fun HT_ HW_ => ?_)
                    generalize w48.drew = w49 at HO380 HO383 HO386 HO392 HO398 HO404 HO410 HO413 HB HL415_0 HL423_0 HR415_0 HR423_0 hx415_0 hx423_0 hHeld ⊢
                    refine pure_ (i := 0) (N := some 28) (v := ?_) (a' := ?_) #[true, false, false, false, false, false, false, false, false, false, false, false, false, false, false, false, false, false, false, false, false, false, false, false, false, false, false, false, false, false, false, false, false, false, false, false, false, false, false, false, false, false] rfl rfl (any_of HT_.out (by kernel_rfl)) (fun _ _ _ h => h) (Or.inl ⟨by rfl, ?_⟩) ?_ ?_
                    rotate_left
                    · intro w'
                      go_simp
                      with_reducible rfl
                    rotate_left
                    · simp only [Act.put, List.setIfInBounds_toArray, List.set_cons_zero, List.set_cons_succ, i64_w, i32_w]
                      rfl
                    refine pure_ (i := 1) (N := some 29) (v := ?_) (a' := ?_) #[true, true, false, false, false, false, false, false, false, false, false, false, false, false, false, false, false, false, false, false, false, false, false, false, false, false, false, false, false, false, false, false, false, false, false, false, false, false, false, false, false, false] rfl rfl (any_of HT_.out (by kernel_rfl)) (fun _ _ _ h => h) (Or.inl ⟨by rfl, ?_⟩) ?_ ?_
                    rotate_left
                    · intro w'
                      go_simp
                      with_reducible rfl
                    rotate_left
                    · simp only [Act.put, List.setIfInBounds_toArray, List.set_cons_zero, List.set_cons_succ, i64_w, i32_w]
                      rfl
                    refine pure_ (i := 2) (N := some 30) (v := ?_) (a' := ?_) #[true, true, true, false, false, false, false, false, false, false, false, false, false, false, false, false, false, false, false, false, false, false, false, false, false, false, false, false, false, false, false, false, false, false, false, false, false, false, false, false, false, false] rfl rfl (any_of HT_.out (by kernel_rfl)) (fun _ _ _ h => h) (Or.inl ⟨by rfl, ?_⟩) ?_ ?_
                    rotate_left
                    · intro w'
                      go_simp
                      with_reducible rfl
                    rotate_left
                    · simp only [Act.put, List.setIfInBounds_toArray, List.set_cons_zero, List.set_cons_succ, i64_w, i32_w]
                      rfl
                    refine pure_ (i := 3) (N := some 31) (v := ?_) (a' := ?_) #[true, true, true, true, false, false, false, false, false, false, false, false, false, false, false, false, false, false, false, false, false, false, false, false, false, false, false, false, false, false, false, false, false, false, false, false, false, false, false, false, false, false] rfl rfl (any_of HT_.out (by kernel_rfl)) (fun _ _ _ h => h) (Or.inl ⟨by rfl, ?_⟩) ?_ ?_
                    rotate_left
                    · intro w'
                      go_simp
                      with_reducible rfl
                    rotate_left
                    · simp only [Act.put, List.setIfInBounds_toArray, List.set_cons_zero, List.set_cons_succ, i64_w, i32_w]
                      rfl
                    refine pure_ (i := 4) (N := some 32) (v := ?_) (a' := ?_) #[true, true, true, true, true, false, false, false, false, false, false, false, false, false, false, false, false, false, false, false, false, false, false, false, false, false, false, false, false, false, false, false, false, false, false, false, false, false, false, false, false, false] rfl rfl (any_of HT_.out (by kernel_rfl)) (fun _ _ _ h => h) (Or.inl ⟨by rfl, ?_⟩) ?_ ?_
                    rotate_left
                    · intro w'
                      go_simp
                      with_reducible rfl
                    rotate_left
                    · simp only [Act.put, List.setIfInBounds_toArray, List.set_cons_zero, List.set_cons_succ, i64_w, i32_w]
                      rfl
                    refine pure_ (i := 5) (N := some 33) (v := ?_) (a' := ?_) #[true, true, true, true, true, true, false, false, false, false, false, false, false, false, false, false, false, false, false, false, false, false, false, false, false, false, false, false, false, false, false, false, false, false, false, false, false, false, false, false, false, false] rfl rfl (any_of HT_.out (by kernel_rfl)) (fun _ _ _ h => h) (Or.inl ⟨by rfl, ?_⟩) ?_ ?_
                    rotate_left
                    · intro w'
                      go_simp
                      with_reducible rfl
                    rotate_left
                    · simp only [Act.put, List.setIfInBounds_toArray, List.set_cons_zero, List.set_cons_succ, i64_w, i32_w]
                      rfl
                    refine pure_ (i := 6) (N := some 34) (v := ?_) (a' := ?_) #[true, true, true, true, true, true, true, false, false, false, false, false, false, false, false, false, false, false, false, false, false, false, false, false, false, false, false, false, false, false, false, false, false, false, false, false, false, false, false, false, false, false] rfl rfl (any_of HT_.out (by kernel_rfl)) (fun _ _ _ h => h) (Or.inl ⟨by rfl, ?_⟩) ?_ ?_
                    rotate_left
                    · intro w'
                      go_simp
                      with_reducible rfl
                    rotate_left
                    · simp only [Act.put, List.setIfInBounds_toArray, List.set_cons_zero, List.set_cons_succ, i64_w, i32_w]
                      rfl
                    refine pure_ (i := 7) (N := some 35) (v := ?_) (a' := ?_) #[true, true, true, true, true, true, true, true, false, false, false, false, false, false, false, false, false, false, false, false, false, false, false, false, false, false, false, false, false, false, false, false, false, false, false, false, false, false, false, false, false, false] rfl rfl (any_of HT_.out (by kernel_rfl)) (fun _ _ _ h => h) (Or.inl ⟨by rfl, ?_⟩) ?_ ?_
                    rotate_left
                    · intro w'
                      go_simp
                      with_reducible rfl
                    rotate_left
                    · simp only [Act.put, List.setIfInBounds_toArray, List.set_cons_zero, List.set_cons_succ, i64_w, i32_w]
                      rfl
                    refine pure_ (i := 8) (N := some 36) (v := ?_) (a' := ?_) #[true, true, true, true, true, true, true, true, true, false, false, false, false, false, false, false, false, false, false, false, false, false, false, false, false, false, false, false, false, false, false, false, false, false, false, false, false, false, false, false, false, false] rfl rfl (any_of HT_.out (by kernel_rfl)) (fun _ _ _ h => h) (Or.inl ⟨by rfl, ?_⟩) ?_ ?_
                    rotate_left
                    · intro w'
                      go_simp
                      with_reducible rfl
                    rotate_left
                    · simp only [Act.put, List.setIfInBounds_toArray, List.set_cons_zero, List.set_cons_succ, i64_w, i32_w]
                      rfl
                    refine pure_ (i := 9) (N := some 37) (v := ?_) (a' := ?_) #[true, true, true, true, true, true, true, true, true, true, false, false, false, false, false, false, false, false, false, false, false, false, false, false, false, false, false, false, false, false, false, false, false, false, false, false, false, false, false, false, false, false] rfl rfl (any_of HT_.out (by kernel_rfl)) (fun _ _ _ h => h) (Or.inl ⟨by rfl, ?_⟩) ?_ ?_
                    rotate_left
                    · intro w'
                      go_simp
                      with_reducible rfl
                    rotate_left
                    · simp only [Act.put, List.setIfInBounds_toArray, List.set_cons_zero, List.set_cons_succ, i64_w, i32_w]
                      rfl
                    refine pure_ (i := 10) (N := some 38) (v := ?_) (a' := ?_) #[true, true, true, true, true, true, true, true, true, true, true, false, false, false, false, false, false, false, false, false, false, false, false, false, false, false, false, false, false, false, false, false, false, false, false, false, false, false, false, false, false, false] rfl rfl (any_of HT_.out (by kernel_rfl)) (fun _ _ _ h => h) (Or.inl ⟨by rfl, ?_⟩) ?_ ?_
                    rotate_left
                    · intro w'
                      go_simp
                      with_reducible rfl
                    rotate_left
                    · simp only [Act.put, List.setIfInBounds_toArray, List.set_cons_zero, List.set_cons_succ, i64_w, i32_w]
                      rfl
                    refine pure_ (i := 11) (N := some 39) (v := ?_) (a' := ?_) #[true, true, true, true, true, true, true, true, true, true, true, true, false, false, false, false, false, false, false, false, false, false, false, false, false, false, false, false, false, false, false, false, false, false, false, false, false, false, false, false, false, false] rfl rfl (any_of HT_.out (by kernel_rfl)) (fun _ _ _ h => h) (Or.inl ⟨by rfl, ?_⟩) ?_ ?_
                    rotate_left
                    · intro w'
                      go_simp
                      with_reducible rfl
                    rotate_left
                    · simp only [Act.put, List.setIfInBounds_toArray, List.set_cons_zero, List.set_cons_succ, i64_w, i32_w]
                      rfl
                    refine pure_ (i := 12) (N := some 40) (v := ?_) (a' := ?_) #[true, true, true, true, true, true, true, true, true, true, true, true, true, false, false, false, false, false, false, false, false, false, false, false, false, false, false, false, false, false, false, false, false, false, false, false, false, false, false, false, false, false] rfl rfl (any_of HT_.out (by kernel_rfl)) (fun _ _ _ h => h) (Or.inl ⟨by rfl, ?_⟩) ?_ ?_
                    rotate_left
                    · intro w'
                      go_simp
                      with_reducible rfl
                    rotate_left
                    · simp only [Act.put, List.setIfInBounds_toArray, List.set_cons_zero, List.set_cons_succ, i64_w, i32_w]
                      rfl
                    refine pure_ (i := 13) (N := some 41) (v := ?_) (a' := ?_) #[true, true, true, true, true, true, true, true, true, true, true, true, true, true, false, false, false, false, false, false, false, false, false, false, false, false, false, false, false, false, false, false, false, false, false, false, false, false, false, false, false, false] rfl rfl (any_of HT_.out (by kernel_rfl)) (fun _ _ _ h => h) (Or.inl ⟨by rfl, ?_⟩) ?_ ?_
                    rotate_left
                    · intro w'
                      go_simp
                      with_reducible rfl
                    rotate_left
                    · simp only [Act.put, List.setIfInBounds_toArray, List.set_cons_zero, List.set_cons_succ, i64_w, i32_w]
                      rfl
                    refine pure_ (i := 14) (N := some 42) (v := ?_) (a' := ?_) #[true, true, true, true, true, true, true, true, true, true, true, true, true, true, true, false, false, false, false, false, false, false, false, false, false, false, false, false, false, false, false, false, false, false, false, false, false, false, false, false, false, false] rfl rfl (any_of HT_.out (by kernel_rfl)) (fun _ _ _ h => h) (Or.inl ⟨by rfl, ?_⟩) ?_ ?_
                    rotate_left
                    · intro w'
                      go_simp
                      with_reducible rfl
                    rotate_left
                    · simp only [Act.put, List.setIfInBounds_toArray, List.set_cons_zero, List.set_cons_succ, i64_w, i32_w]
                      rfl
                    refine pure_ (i := 15) (N := some 43) (v := ?_) (a' := ?_) #[true, true, true, true, true, true, true, true, true, true, true, true, true, true, true, true, false, false, false, false, false, false, false, false, false, false, false, false, false, false, false, false, false, false, false, false, false, false, false, false, false, false] rfl rfl (any_of HT_.out (by kernel_rfl)) (fun _ _ _ h => h) (Or.inl ⟨by rfl, ?_⟩) ?_ ?_
                    rotate_left
                    · intro w'
                      go_simp
                      with_reducible rfl
                    rotate_left
                    · simp only [Act.put, List.setIfInBounds_toArray, List.set_cons_zero, List.set_cons_succ, i64_w, i32_w]
                      rfl
                    refine pure_ (i := 16) (N := some 44) (v := ?_) (a' := ?_) #[true, true, true, true, true, true, true, true, true, true, true, true, true, true, true, true, true, false, false, false, false, false, false, false, false, false, false, false, false, false, false, false, false, false, false, false, false, false, false, false, false, false] rfl rfl (any_of HT_.out (by kernel_rfl)) (fun _ _ _ h => h) (Or.inl ⟨by rfl, ?_⟩) ?_ ?_
                    rotate_left
                    · intro w'
                      go_simp
                      with_reducible rfl
                    rotate_left
                    · simp only [Act.put, List.setIfInBounds_toArray, List.set_cons_zero, List.set_cons_succ, i64_w, i32_w]
                      rfl
                    refine pure_ (i := 17) (N := some 45) (v := ?_) (a' := ?_) #[true, true, true, true, true, true, true, true, true, true, true, true, true, true, true, true, true, true, false, false, false, false, false, false, false, false, false, false, false, false, false, false, false, false, false, false, false, false, false, false, false, false] rfl rfl (any_of HT_.out (by kernel_rfl)) (fun _ _ _ h => h) (Or.inl ⟨by rfl, ?_⟩) ?_ ?_
                    rotate_left
                    · intro w'
                      go_simp
                      with_reducible rfl
                    rotate_left
                    · simp only [Act.put, List.setIfInBounds_toArray, List.set_cons_zero, List.set_cons_succ, i64_w, i32_w]
                      rfl
                    refine take_ (i := 18) (N := some 46) (v := ?_) (a' := ?_) #[true, true, true, true, true, true, true, true, true, true, true, true, true, true, true, true, true, true, true, false, false, false, false, false, false, false, false, false, false, false, false, false, false, false, false, false, false, false, false, false, false, false] rfl rfl (take_ofW HT_.out HW_.out (by kernel_rfl)) (fun _ _ _ h => h) (Or.inl ⟨by rfl, ?_⟩) hHeld ?_ ?_
                    rotate_left
                    · rintro w' ⟨s0, s1⟩
                      go_simp
                      with_reducible rfl
                    rotate_left
                    · simp only [Act.put, List.setIfInBounds_toArray, List.set_cons_zero, List.set_cons_succ, i64_w, i32_w]
                      rfl
                    refine one_ (i := 19) (N := some 47) #[true, true, true, true, true, true, true, true, true, true, true, true, true, true, true, true, true, true, true, true, false, false, false, false, false, false, false, false, false, false, false, false, false, false, false, false, false, false, false, false, false, false] rfl rfl (one_of HT_.out (by kernel_rfl)) (by decide) (fun K hK => ?_)
                    refine Kd.R_lit_step (Kd.int .i64) _ 2 ?hg (N := 47) ?hd (xs := ([1, 2, 3] : List Int)) (inner := [.int .i64 1, .int .i64 2, .int .i64 3]) (ok := fun _ => True) (okp := fun _ => True) ?hr ?hp (fun _ hk => hk) trivial (Below.refl _ _) (Nat.le_refl _) (by simp) ?_; (case hd => rfl); (case hg => rfl); (case hr => first | (go_simp; done) | (go_simp; rfl)); (case hp => exact (Reps.one (show Kd.M (Kd.int .i64) _ _ _ 1 [.int .i64 1] from rfl) (Reps.one (show Kd.M (Kd.int .i64) _ _ _ 2 [.int .i64 2] from rfl) (Reps.one (show Kd.M (Kd.int .i64) _ _ _ 3 [.int .i64 3] from rfl) (Reps.none _ _)))))
                    intro v417 w51 ho52 hb hg_ hnew_
                    have HS0_ := (hb.cell (World.block_lt_of_cell? _ _ (hHeld.1))).trans (hHeld.1)
                    have HS1_ := (hb.cell (World.block_lt_of_cell? _ _ (hHeld.2))).trans (hHeld.2)
                    clear hg_ hnew_
                    (first | rw [← Ny416.out] at ho52 | (simp only [Int.reduceToNat] at ho52; rw [← Ny416.out] at ho52))
                    have n0_ := Aside0.mk (Kd.R_elder' (by (with_reducible repeat (first | apply Kd.R_alloc | apply Kd.R_drewN | apply Kd.R_drew)); exact HO380.out) (Kd.R_base ho52) hb)
                    have n1_ := Aside0.mk (Kd.N_elder' (by (with_reducible repeat (first | apply Kd.N_alloc | apply Kd.N_drewN | apply Kd.N_drew)); exact HO383.out) (Kd.R_base ho52) hb)
                    have n2_ := Aside0.mk (Kd.N_elder' (by (with_reducible repeat (first | apply Kd.N_alloc | apply Kd.N_drewN | apply Kd.N_drew)); exact HO386.out) (Kd.R_base ho52) hb)
                    have n3_ := Aside0.mk (Kd.R_elder' (by (with_reducible repeat (first | apply Kd.R_alloc | apply Kd.R_drewN | apply Kd.R_drew)); exact HO392.out) (Kd.R_base ho52) hb)
                    have n4_ := Aside0.mk (Kd.R_elder' (by (with_reducible repeat (first | apply Kd.R_alloc | apply Kd.R_drewN | apply Kd.R_drew)); exact HO398.out) (Kd.R_base ho52) hb)
                    have n5_ := Aside0.mk (Kd.R_elder' (by (with_reducible repeat (first | apply Kd.R_alloc | apply Kd.R_drewN | apply Kd.R_drew)); exact HO404.out) (Kd.R_base ho52) hb)
                    have n6_ := Aside0.mk (Kd.N_elder' (by (with_reducible repeat (first | apply Kd.N_alloc | apply Kd.N_drewN | apply Kd.N_drew)); exact HO410.out) (Kd.R_base ho52) hb)
                    have n7_ := Aside0.mk (Kd.V_elder' (by (with_reducible repeat (first | apply Kd.V_alloc | apply Kd.V_drewN | apply Kd.V_drew)); exact HO413.out) (Kd.R_base ho52) hb)
                    have n8_ := Aside0.mk (Kd.V_elder' (by (with_reducible repeat (first | apply Kd.V_alloc | apply Kd.V_drewN | apply Kd.V_drew)); exact HL415_0.out) (Kd.R_base ho52) hb)
                    have n9_ := Aside0.mk (Kd.R_lower (Kd.R_new' (Kd.R_new' (Kd.R_new' (Kd.R_new' ho52 (Kd.R_lt (by (with_reducible repeat (first | apply Kd.R_alloc | apply Kd.R_drewN | apply Kd.R_drew)); exact HO380.out))) (Kd.R_lt (by (with_reducible repeat (first | apply Kd.R_alloc | apply Kd.R_drewN | apply Kd.R_drew)); exact HO392.out))) (Kd.R_lt (by (with_reducible repeat (first | apply Kd.R_alloc | apply Kd.R_drewN | apply Kd.R_drew)); exact HO398.out))) (Kd.R_lt (by (with_reducible repeat (first | apply Kd.R_alloc | apply Kd.R_drewN | apply Kd.R_drew)); exact HO404.out))) (below_size (by repeat (first | (with_reducible first | exact HB.out | apply below_alloc | apply pw_below_drewN | apply below_drew1) | exact HB.out))))
                    have n10_ := Aside0.mk (Kd.C_below (by repeat (first | (with_reducible exact HR415_0.out) | (with_reducible refine Kd.C_alloc ?_ _) | (with_reducible refine Kd.C_drewN ?_ _) | (with_reducible refine Kd.C_drew ?_) | exact HR415_0.out)) hb)
                    have n11_ := Aside0.mk (below_step (by repeat (first | (with_reducible first | exact HB.out | apply below_alloc | apply pw_below_drewN | apply below_drew1) | exact HB.out)) hb)
                    (try replace HL423_0 := Aside0.mk (Kd.V_below HL423_0.out hb))
                    (try replace HR423_0 := Aside0.mk (Kd.C_below HR423_0.out hb))
                    clear HO380
                    clear HO383
                    clear HO386
                    clear HO392
                    clear HO398
                    clear HO404
                    clear HO410
                    clear HO413
                    clear HL415_0
                    clear HR415_0
                    clear HB
                    have HO380 := n0_
                    have HO383 := n1_
                    have HO386 := n2_
                    have HO392 := n3_
                    have HO398 := n4_
                    have HO404 := n5_
                    have HO410 := n6_
                    have HO413 := n7_
                    have HL415_0 := n8_
                    have HO418 := n9_
                    have HR415_0 := n10_
                    have HB := n11_
                    clear n0_ n1_ n2_ n3_ n4_ n5_ n6_ n7_ n8_ n9_ n10_ n11_
                    clear hb ho52
                    obtain ⟨Ao53, co53, eo53⟩ := Kd.R_slice HO418.out
                    (first | subst eo53 | (injection eo53 with f1_ f2_ f3_; have f4_ := f1_.symm; have f5_ := f3_.symm; clear f1_ f2_ f3_; subst f4_; subst f5_))
                    refine hK.out _ _ ⟨HS0_, HS1_⟩ (fun hHeld => ?_)
                    clear hK K
                    refine norm_ (a' := ?_) ?_ ?_
                    rotate_left
                    · show Act.put _ (some 47) _ = _
                      simp only [Act.put, List.setIfInBounds_toArray, List.set_cons_zero, List.set_cons_succ, i64_w, i32_w]
                      rfl
                    refine one_ (i := 20) (N := some 48) #[true, true, true, true, true, true, true, true, true, true, true, true, true, true, true, true, true, true, true, true, true, false, false, false, false, false, false, false, false, false, false, false, false, false, false, false, false, false, false, false, false, false] rfl rfl (one_of HT_.out (by kernel_rfl)) (by decide) (fun K hK => ?_)
                    refine goes_ Tryd.func15 (by kernel_rfl) rfl #[.slice Ao53 y416.length co53] (by rfl) rfl rfl (by (try simp only [List.map_toArray, List.map_cons, List.map_nil]); first | done | rfl | (simp only [List.length_drop, List.length_take]; rfl)) ?_
                    with_reducible refine (swagelaw21_ref.calls k _ _ y416 t419 _ ?side1 ?side2 A13.out).mono ?_
                    (case side1 => repeat (first | exact (Kd.R_reads' HO418.out).2.2 | (with_reducible refine Kd.C_alloc ?_ _) | (with_reducible refine Kd.C_drewN ?_ _) | (with_reducible refine Kd.C_drew ?_)))
                    (case side2 => exact (Kd.R_reads' HO418.out).2.1)
                    rintro e w54 ⟨v420, rfl, ho0, hb⟩
                    have HS0_ := (hb.cell (World.block_lt_of_cell? _ _ (hHeld.1))).trans (hHeld.1)
                    have HS1_ := (hb.cell (World.block_lt_of_cell? _ _ (hHeld.2))).trans (hHeld.2)
                    refine ⟨_, rfl, ?_⟩
                    have n0_ := Aside0.mk (Kd.R_below (by (with_reducible repeat (first | apply Kd.R_alloc | apply Kd.R_drewN | apply Kd.R_drew)); exact HO380.out) hb)
                    have n1_ := Aside0.mk (Kd.N_elder' (by (with_reducible repeat (first | apply Kd.N_alloc | apply Kd.N_drewN | apply Kd.N_drew)); exact HO383.out) (Kd.N_base ho0) hb)
                    have n2_ := Aside0.mk (Kd.N_elder' (by (with_reducible repeat (first | apply Kd.N_alloc | apply Kd.N_drewN | apply Kd.N_drew)); exact HO386.out) (Kd.N_base ho0) hb)
                    have n3_ := Aside0.mk (Kd.R_below (by (with_reducible repeat (first | apply Kd.R_alloc | apply Kd.R_drewN | apply Kd.R_drew)); exact HO392.out) hb)
                    have n4_ := Aside0.mk (Kd.R_below (by (with_reducible repeat (first | apply Kd.R_alloc | apply Kd.R_drewN | apply Kd.R_drew)); exact HO398.out) hb)
                    have n5_ := Aside0.mk (Kd.R_below (by (with_reducible repeat (first | apply Kd.R_alloc | apply Kd.R_drewN | apply Kd.R_drew)); exact HO404.out) hb)
                    have n6_ := Aside0.mk (Kd.N_elder' (by (with_reducible repeat (first | apply Kd.N_alloc | apply Kd.N_drewN | apply Kd.N_drew)); exact HO410.out) (Kd.N_base ho0) hb)
                    have n7_ := Aside0.mk (Kd.V_elder' (by (with_reducible repeat (first | apply Kd.V_alloc | apply Kd.V_drewN | apply Kd.V_drew)); exact HO413.out) (Kd.N_base ho0) hb)
                    have n8_ := Aside0.mk (Kd.V_elder' (by (with_reducible repeat (first | apply Kd.V_alloc | apply Kd.V_drewN | apply Kd.V_drew)); exact HL415_0.out) (Kd.N_base ho0) hb)
                    have n9_ := Aside0.mk (Kd.R_below (by (with_reducible repeat (first | apply Kd.R_alloc | apply Kd.R_drewN | apply Kd.R_drew)); exact HO418.out) hb)
                    have n10_ := Aside0.mk (Kd.N_lower (Kd.N_mono (ok' := fun k_ => some k_ ≠ (.slice Ao25 y378.length co25 : Value).ownBlock ∧ some k_ ≠ (.slice Ao27 t381.length co27 : Value).ownBlock ∧ some k_ ≠ (.slice (some ad415) t384.length co50 : Value).ownBlock ∧ some k_ ≠ (.slice Ao32 y390.length co32 : Value).ownBlock ∧ some k_ ≠ (.slice Ao36 y396.length co36 : Value).ownBlock ∧ some k_ ≠ (.slice Ao40 y402.length co40 : Value).ownBlock ∧ some k_ ≠ (.slice Ao47 y408.length co47 : Value).ownBlock ∧ some k_ ≠ (.slice Ao53 y416.length co53 : Value).ownBlock) ho0 (fun k_ hk_ => ⟨(Kd.fresh' (Kd.R_lt (by (with_reducible repeat (first | apply Kd.R_alloc | apply Kd.R_drewN | apply Kd.R_drew)); exact HO380.out)) k_ hk_), (Kd.fresh' (Kd.N_lt (by (with_reducible repeat (first | apply Kd.N_alloc | apply Kd.N_drewN | apply Kd.N_drew)); exact HO383.out)) k_ hk_), (Kd.fresh' (Kd.N_lt (by (with_reducible repeat (first | apply Kd.N_alloc | apply Kd.N_drewN | apply Kd.N_drew)); exact HO386.out)) k_ hk_), (Kd.fresh' (Kd.R_lt (by (with_reducible repeat (first | apply Kd.R_alloc | apply Kd.R_drewN | apply Kd.R_drew)); exact HO392.out)) k_ hk_), (Kd.fresh' (Kd.R_lt (by (with_reducible repeat (first | apply Kd.R_alloc | apply Kd.R_drewN | apply Kd.R_drew)); exact HO398.out)) k_ hk_), (Kd.fresh' (Kd.R_lt (by (with_reducible repeat (first | apply Kd.R_alloc | apply Kd.R_drewN | apply Kd.R_drew)); exact HO404.out)) k_ hk_), (Kd.fresh' (Kd.N_lt (by (with_reducible repeat (first | apply Kd.N_alloc | apply Kd.N_drewN | apply Kd.N_drew)); exact HO410.out)) k_ hk_), (Kd.fresh' (Kd.R_lt (by (with_reducible repeat (first | apply Kd.R_alloc | apply Kd.R_drewN | apply Kd.R_drew)); exact HO418.out)) k_ hk_)⟩)) (below_size (by repeat (first | (with_reducible first | exact HB.out | apply below_alloc | apply pw_below_drewN | apply below_drew1) | exact HB.out))))
                    have n11_ := Aside0.mk (Kd.C_below (by repeat (first | (with_reducible exact HR415_0.out) | (with_reducible refine Kd.C_alloc ?_ _) | (with_reducible refine Kd.C_drewN ?_ _) | (with_reducible refine Kd.C_drew ?_) | exact HR415_0.out)) hb)
                    have n12_ := Aside0.mk (below_step (by repeat (first | (with_reducible first | exact HB.out | apply below_alloc | apply pw_below_drewN | apply below_drew1) | exact HB.out)) hb)
                    (try replace HL423_0 := Aside0.mk (Kd.V_below HL423_0.out hb))
                    (try replace HR423_0 := Aside0.mk (Kd.C_below HR423_0.out hb))
                    clear HO380
                    clear HO383
                    clear HO386
                    clear HO392
                    clear HO398
                    clear HO404
                    clear HO410
                    clear HO413
                    clear HL415_0
                    clear HO418
                    clear HR415_0
                    clear HB
                    have HO380 := n0_
                    have HO383 := n1_
                    have HO386 := n2_
                    have HO392 := n3_
                    have HO398 := n4_
                    have HO404 := n5_
                    have HO410 := n6_
                    have HO413 := n7_
                    have HL415_0 := n8_
                    have HO418 := n9_
                    have HO421 := n10_
                    have HR415_0 := n11_
                    have HB := n12_
                    clear n0_ n1_ n2_ n3_ n4_ n5_ n6_ n7_ n8_ n9_ n10_ n11_ n12_
                    (try clear hb)
                    (try clear hb2)
                    (try clear hk)
                    (try clear hi)
                    (try clear ho0)
                    obtain ⟨Ao55, co55, eo55⟩ := Kd.N_slice HO421.out
                    (first | subst eo55 | (injection eo55 with f1_ f2_ f3_; have f4_ := f1_.symm; have f5_ := f3_.symm; clear f1_ f2_ f3_; subst f4_; subst f5_))
                    refine hK.out _ _ ⟨HS0_, HS1_⟩ (fun hHeld => ?_)
                    clear hK K
                    refine norm_ (a' := ?_) ?_ ?_
                    rotate_left
                    · show Act.put _ (some 48) _ = _
                      simp only [Act.put, List.setIfInBounds_toArray, List.set_cons_zero, List.set_cons_succ, i64_w, i32_w]
                      rfl
                    refine one_ (i := 21) (N := some 49) #[true, true, true, true, true, true, true, true, true, true, true, true, true, true, true, true, true, true, true, true, true, true, false, false, false, false, false, false, false, false, false, false, false, false, false, false, false, false, false, false, false, false] rfl rfl (one_of HT_.out (by kernel_rfl)) (by decide) (fun K hK => ?_)
                    refine goes_ Tryd.func16 (by kernel_rfl) rfl #[.slice A415_0 (rd_L5 t384 0).length c415_0, .slice Ao55 t419.length co55] (by rfl) rfl rfl (by (try simp only [List.map_toArray, List.map_cons, List.map_nil]); first | done | rfl | (simp only [List.length_drop, List.length_take]; rfl)) ?_
                    with_reducible refine (swagelaw21_is.calls k _ _ (rd_L5 t384 0) _ _ t419 true _ ?side1 ?side2 ?side3 ?side4 A14.out).mono ?_
                    (case side1 => repeat (first | exact (by repeat (first | (with_reducible exact HR415_0.out) | (with_reducible refine Kd.C_alloc ?_ _) | (with_reducible refine Kd.C_drewN ?_ _) | (with_reducible refine Kd.C_drew ?_) | exact HR415_0.out)) | (with_reducible refine Kd.C_alloc ?_ _) | (with_reducible refine Kd.C_drewN ?_ _) | (with_reducible refine Kd.C_drew ?_)))
                    (case side2 => exact HC415_0.out)
                    (case side3 => repeat (first | exact (Kd.N_reads' HO421.out).2.2 | (with_reducible refine Kd.C_alloc ?_ _) | (with_reducible refine Kd.C_drewN ?_ _) | (with_reducible refine Kd.C_drew ?_)))
                    (case side4 => exact (Kd.N_reads' HO421.out).2.1)
                    rintro e w56 ⟨rfl, hb⟩
                    have HS0_ := (hb.cell (World.block_lt_of_cell? _ _ (hHeld.1))).trans (hHeld.1)
                    have HS1_ := (hb.cell (World.block_lt_of_cell? _ _ (hHeld.2))).trans (hHeld.2)
                    refine ⟨_, rfl, ?_⟩
                    have n0_ := Aside0.mk (Kd.R_below (by (with_reducible repeat (first | apply Kd.R_alloc | apply Kd.R_drewN | apply Kd.R_drew)); exact HO380.out) hb)
                    have n1_ := Aside0.mk (Kd.N_below (by (with_reducible repeat (first | apply Kd.N_alloc | apply Kd.N_drewN | apply Kd.N_drew)); exact HO383.out) hb)
                    have n2_ := Aside0.mk (Kd.N_below (by (with_reducible repeat (first | apply Kd.N_alloc | apply Kd.N_drewN | apply Kd.N_drew)); exact HO386.out) hb)
                    have n3_ := Aside0.mk (Kd.R_below (by (with_reducible repeat (first | apply Kd.R_alloc | apply Kd.R_drewN | apply Kd.R_drew)); exact HO392.out) hb)
                    have n4_ := Aside0.mk (Kd.R_below (by (with_reducible repeat (first | apply Kd.R_alloc | apply Kd.R_drewN | apply Kd.R_drew)); exact HO398.out) hb)
                    have n5_ := Aside0.mk (Kd.R_below (by (with_reducible repeat (first | apply Kd.R_alloc | apply Kd.R_drewN | apply Kd.R_drew)); exact HO404.out) hb)
                    have n6_ := Aside0.mk (Kd.N_below (by (with_reducible repeat (first | apply Kd.N_alloc | apply Kd.N_drewN | apply Kd.N_drew)); exact HO410.out) hb)
                    have n7_ := Aside0.mk (Kd.V_below (by (with_reducible repeat (first | apply Kd.V_alloc | apply Kd.V_drewN | apply Kd.V_drew)); exact HO413.out) hb)
                    have n8_ := Aside0.mk (Kd.V_below (by (with_reducible repeat (first | apply Kd.V_alloc | apply Kd.V_drewN | apply Kd.V_drew)); exact HL415_0.out) hb)
                    have n9_ := Aside0.mk (Kd.R_below (by (with_reducible repeat (first | apply Kd.R_alloc | apply Kd.R_drewN | apply Kd.R_drew)); exact HO418.out) hb)
                    have n10_ := Aside0.mk (Kd.N_below (by (with_reducible repeat (first | apply Kd.N_alloc | apply Kd.N_drewN | apply Kd.N_drew)); exact HO421.out) hb)
                    have n11_ := Aside0.mk (Kd.C_below (by repeat (first | (with_reducible exact HR415_0.out) | (with_reducible refine Kd.C_alloc ?_ _) | (with_reducible refine Kd.C_drewN ?_ _) | (with_reducible refine Kd.C_drew ?_) | exact HR415_0.out)) hb)
                    have n12_ := Aside0.mk (below_step (by repeat (first | (with_reducible first | exact HB.out | apply below_alloc | apply pw_below_drewN | apply below_drew1) | exact HB.out)) hb)
                    (try replace HL423_0 := Aside0.mk (Kd.V_below HL423_0.out hb))
                    (try replace HR423_0 := Aside0.mk (Kd.C_below HR423_0.out hb))
                    clear HO380
                    clear HO383
                    clear HO386
                    clear HO392
                    clear HO398
                    clear HO404
                    clear HO410
                    clear HO413
                    clear HL415_0
                    clear HO418
                    clear HO421
                    clear HR415_0
                    clear HB
                    have HO380 := n0_
                    have HO383 := n1_
                    have HO386 := n2_
                    have HO392 := n3_
                    have HO398 := n4_
                    have HO404 := n5_
                    have HO410 := n6_
                    have HO413 := n7_
                    have HL415_0 := n8_
                    have HO418 := n9_
                    have HO421 := n10_
                    have HR415_0 := n11_
                    have HB := n12_
                    clear n0_ n1_ n2_ n3_ n4_ n5_ n6_ n7_ n8_ n9_ n10_ n11_ n12_
                    (try clear hb)
                    (try clear hb2)
                    (try clear hk)
                    (try clear hi)
                    refine hK.out _ _ ⟨HS0_, HS1_⟩ (fun hHeld => ?_)
                    clear hK K
                    refine norm_ (a' := ?_) ?_ ?_
                    rotate_left
                    · show Act.put _ (some 49) _ = _
                      simp only [Act.put, List.setIfInBounds_toArray, List.set_cons_zero, List.set_cons_succ, i64_w, i32_w]
                      rfl
                    refine pure_ (i := 22) (N := some 50) (v := ?_) (a' := ?_) #[true, true, true, true, true, true, true, true, true, true, true, true, true, true, true, true, true, true, true, true, true, true, true, false, false, false, false, false, false, false, false, false, false, false, false, false, false, false, false, false, false, false] rfl rfl (any_of HT_.out (by kernel_rfl)) (fun _ _ _ h => h) (Or.inl ⟨by rfl, ?_⟩) ?_ ?_
                    rotate_left
                    · intro w'
                      go_simp
                      with_reducible rfl
                    rotate_left
                    · simp only [Act.put, List.setIfInBounds_toArray, List.set_cons_zero, List.set_cons_succ, i64_w, i32_w]
                      rfl
                    refine pure_ (i := 23) (N := some 51) (v := ?_) (a' := ?_) #[true, true, true, true, true, true, true, true, true, true, true, true, true, true, true, true, true, true, true, true, true, true, true, true, false, false, false, false, false, false, false, false, false, false, false, false, false, false, false, false, false, false] rfl rfl (any_of HT_.out (by kernel_rfl)) (fun _ _ _ h => h) (Or.inl ⟨by rfl, ?_⟩) ?_ ?_
                    rotate_left
                    · intro w'
                      go_simp
                      with_reducible rfl
                    rotate_left
                    · simp only [Act.put, List.setIfInBounds_toArray, List.set_cons_zero, List.set_cons_succ, i64_w, i32_w]
                      rfl
                    refine pure_ (i := 24) (N := some 52) (v := ?_) (a' := ?_) #[true, true, true, true, true, true, true, true, true, true, true, true, true, true, true, true, true, true, true, true, true, true, true, true, true, false, false, false, false, false, false, false, false, false, false, false, false, false, false, false, false, false] rfl rfl (any_of HT_.out (by kernel_rfl)) (fun _ _ _ h => h) (Or.inl ⟨by rfl, ?_⟩) ?_ ?_
                    rotate_left
                    · intro w'
                      go_simp
                      with_reducible rfl
                    rotate_left
                    · simp only [Act.put, List.setIfInBounds_toArray, List.set_cons_zero, List.set_cons_succ, i64_w, i32_w]
                      rfl
                    refine pure_ (i := 25) (N := some 53) (v := ?_) (a' := ?_) #[true, true, true, true, true, true, true, true, true, true, true, true, true, true, true, true, true, true, true, true, true, true, true, true, true, true, false, false, false, false, false, false, false, false, false, false, false, false, false, false, false, false] rfl rfl (any_of HT_.out (by kernel_rfl)) (fun _ _ _ h => h) (Or.inl ⟨by rfl, ?_⟩) ?_ ?_
                    rotate_left
                    · intro w'
                      go_simp
                      with_reducible rfl
                    rotate_left
                    · simp only [Act.put, List.setIfInBounds_toArray, List.set_cons_zero, List.set_cons_succ, i64_w, i32_w]
                      rfl
                    refine take_ (i := 26) (N := some 54) (v := ?_) (a' := ?_) #[true, true, true, true, true, true, true, true, true, true, true, true, true, true, true, true, true, true, true, true, true, true, true, true, true, true, true, false, false, false, false, false, false, false, false, false, false, false, false, false, false, false] rfl rfl (take_ofW HT_.out HW_.out (by kernel_rfl)) (fun _ _ _ h => h) (Or.inl ⟨by rfl, ?_⟩) hHeld ?_ ?_
                    rotate_left
                    · rintro w' ⟨s0, s1⟩
                      go_simp
                      with_reducible rfl
                    rotate_left
                    · simp only [Act.put, List.setIfInBounds_toArray, List.set_cons_zero, List.set_cons_succ, i64_w, i32_w]
                      rfl
                    refine one_ (i := 27) (N := some 55) #[true, true, true, true, true, true, true, true, true, true, true, true, true, true, true, true, true, true, true, true, true, true, true, true, true, true, true, true, false, false, false, false, false, false, false, false, false, false, false, false, false, false] rfl rfl (one_of HT_.out (by kernel_rfl)) (by decide) (fun K hK => ?_)
                    refine Kd.R_lit_step (Kd.int .i64) _ 2 ?hg (N := 55) ?hd (xs := ([4, 5, 0] : List Int)) (inner := [.int .i64 4, .int .i64 5, .int .i64 0]) (ok := fun _ => True) (okp := fun _ => True) ?hr ?hp (fun _ hk => hk) trivial (Below.refl _ _) (Nat.le_refl _) (by simp) ?_; (case hd => rfl); (case hg => rfl); (case hr => first | (go_simp; done) | (go_simp; rfl)); (case hp => exact (Reps.one (show Kd.M (Kd.int .i64) _ _ _ 4 [.int .i64 4] from rfl) (Reps.one (show Kd.M (Kd.int .i64) _ _ _ 5 [.int .i64 5] from rfl) (Reps.one (show Kd.M (Kd.int .i64) _ _ _ 0 [.int .i64 0] from rfl) (Reps.none _ _)))))
                    intro v425 w57 ho58 hb hg_ hnew_
                    have HS0_ := (hb.cell (World.block_lt_of_cell? _ _ (hHeld.1))).trans (hHeld.1)
                    have HS1_ := (hb.cell (World.block_lt_of_cell? _ _ (hHeld.2))).trans (hHeld.2)
                    clear hg_ hnew_
                    (first | rw [← Ny424.out] at ho58 | (simp only [Int.reduceToNat] at ho58; rw [← Ny424.out] at ho58))
                    have n0_ := Aside0.mk (Kd.R_elder' (by (with_reducible repeat (first | apply Kd.R_alloc | apply Kd.R_drewN | apply Kd.R_drew)); exact HO380.out) (Kd.R_base ho58) hb)
                    have n1_ := Aside0.mk (Kd.N_elder' (by (with_reducible repeat (first | apply Kd.N_alloc | apply Kd.N_drewN | apply Kd.N_drew)); exact HO383.out) (Kd.R_base ho58) hb)
                    have n2_ := Aside0.mk (Kd.N_elder' (by (with_reducible repeat (first | apply Kd.N_alloc | apply Kd.N_drewN | apply Kd.N_drew)); exact HO386.out) (Kd.R_base ho58) hb)
                    have n3_ := Aside0.mk (Kd.R_elder' (by (with_reducible repeat (first | apply Kd.R_alloc | apply Kd.R_drewN | apply Kd.R_drew)); exact HO392.out) (Kd.R_base ho58) hb)
                    have n4_ := Aside0.mk (Kd.R_elder' (by (with_reducible repeat (first | apply Kd.R_alloc | apply Kd.R_drewN | apply Kd.R_drew)); exact HO398.out) (Kd.R_base ho58) hb)
                    have n5_ := Aside0.mk (Kd.R_elder' (by (with_reducible repeat (first | apply Kd.R_alloc | apply Kd.R_drewN | apply Kd.R_drew)); exact HO404.out) (Kd.R_base ho58) hb)
                    have n6_ := Aside0.mk (Kd.N_elder' (by (with_reducible repeat (first | apply Kd.N_alloc | apply Kd.N_drewN | apply Kd.N_drew)); exact HO410.out) (Kd.R_base ho58) hb)
                    have n7_ := Aside0.mk (Kd.V_elder' (by (with_reducible repeat (first | apply Kd.V_alloc | apply Kd.V_drewN | apply Kd.V_drew)); exact HO413.out) (Kd.R_base ho58) hb)
                    have n8_ := Aside0.mk (Kd.V_elder' (by (with_reducible repeat (first | apply Kd.V_alloc | apply Kd.V_drewN | apply Kd.V_drew)); exact HL415_0.out) (Kd.R_base ho58) hb)
                    have n9_ := Aside0.mk (Kd.R_elder' (by (with_reducible repeat (first | apply Kd.R_alloc | apply Kd.R_drewN | apply Kd.R_drew)); exact HO418.out) (Kd.R_base ho58) hb)
                    have n10_ := Aside0.mk (Kd.N_elder' (by (with_reducible repeat (first | apply Kd.N_alloc | apply Kd.N_drewN | apply Kd.N_drew)); exact HO421.out) (Kd.R_base ho58) hb)
                    have n11_ := Aside0.mk (Kd.V_elder' (by (with_reducible repeat (first | apply Kd.V_alloc | apply Kd.V_drewN | apply Kd.V_drew)); exact HL423_0.out) (Kd.R_base ho58) hb)
                    have n12_ := Aside0.mk (Kd.R_lower (Kd.R_new' (Kd.R_new' (Kd.R_new' (Kd.R_new' (Kd.R_new' ho58 (Kd.R_lt (by (with_reducible repeat (first | apply Kd.R_alloc | apply Kd.R_drewN | apply Kd.R_drew)); exact HO380.out))) (Kd.R_lt (by (with_reducible repeat (first | apply Kd.R_alloc | apply Kd.R_drewN | apply Kd.R_drew)); exact HO392.out))) (Kd.R_lt (by (with_reducible repeat (first | apply Kd.R_alloc | apply Kd.R_drewN | apply Kd.R_drew)); exact HO398.out))) (Kd.R_lt (by (with_reducible repeat (first | apply Kd.R_alloc | apply Kd.R_drewN | apply Kd.R_drew)); exact HO404.out))) (Kd.R_lt (by (with_reducible repeat (first | apply Kd.R_alloc | apply Kd.R_drewN | apply Kd.R_drew)); exact HO418.out))) (below_size (by repeat (first | (with_reducible first | exact HB.out | apply below_alloc | apply pw_below_drewN | apply below_drew1) | exact HB.out))))
                    have n13_ := Aside0.mk (Kd.C_below (by repeat (first | (with_reducible exact HR415_0.out) | (with_reducible refine Kd.C_alloc ?_ _) | (with_reducible refine Kd.C_drewN ?_ _) | (with_reducible refine Kd.C_drew ?_) | exact HR415_0.out)) hb)
                    have n14_ := Aside0.mk (Kd.C_below (by repeat (first | (with_reducible exact HR423_0.out) | (with_reducible refine Kd.C_alloc ?_ _) | (with_reducible refine Kd.C_drewN ?_ _) | (with_reducible refine Kd.C_drew ?_) | exact HR423_0.out)) hb)
                    have n15_ := Aside0.mk (below_step (by repeat (first | (with_reducible first | exact HB.out | apply below_alloc | apply pw_below_drewN | apply below_drew1) | exact HB.out)) hb)
                    clear HO380
                    clear HO383
                    clear HO386
                    clear HO392
                    clear HO398
                    clear HO404
                    clear HO410
                    clear HO413
                    clear HL415_0
                    clear HO418
                    clear HO421
                    clear HL423_0
                    clear HR415_0
                    clear HR423_0
                    clear HB
                    have HO380 := n0_
                    have HO383 := n1_
                    have HO386 := n2_
                    have HO392 := n3_
                    have HO398 := n4_
                    have HO404 := n5_
                    have HO410 := n6_
                    have HO413 := n7_
                    have HL415_0 := n8_
                    have HO418 := n9_
                    have HO421 := n10_
                    have HL423_0 := n11_
                    have HO426 := n12_
                    have HR415_0 := n13_
                    have HR423_0 := n14_
                    have HB := n15_
                    clear n0_ n1_ n2_ n3_ n4_ n5_ n6_ n7_ n8_ n9_ n10_ n11_ n12_ n13_ n14_ n15_
                    clear hb ho58
                    obtain ⟨Ao59, co59, eo59⟩ := Kd.R_slice HO426.out
                    (first | subst eo59 | (injection eo59 with f1_ f2_ f3_; have f4_ := f1_.symm; have f5_ := f3_.symm; clear f1_ f2_ f3_; subst f4_; subst f5_))
                    refine hK.out _ _ ⟨HS0_, HS1_⟩ (fun hHeld => ?_)
                    clear hK K
                    refine norm_ (a' := ?_) ?_ ?_
                    rotate_left
                    · show Act.put _ (some 55) _ = _
                      simp only [Act.put, List.setIfInBounds_toArray, List.set_cons_zero, List.set_cons_succ, i64_w, i32_w]
                      rfl
                    refine one_ (i := 28) (N := some 56) #[true, true, true, true, true, true, true, true, true, true, true, true, true, true, true, true, true, true, true, true, true, true, true, true, true, true, true, true, true, false, false, false, false, false, false, false, false, false, false, false, false, false] rfl rfl (one_of HT_.out (by kernel_rfl)) (by decide) (fun K hK => ?_)
                    refine goes_ Tryd.func15 (by kernel_rfl) rfl #[.slice Ao59 y424.length co59] (by rfl) rfl rfl (by (try simp only [List.map_toArray, List.map_cons, List.map_nil]); first | done | rfl | (simp only [List.length_drop, List.length_take]; rfl)) ?_
                    with_reducible refine (swagelaw21_ref.calls k _ _ y424 t427 _ ?side1 ?side2 A17.out).mono ?_
                    (case side1 => repeat (first | exact (Kd.R_reads' HO426.out).2.2 | (with_reducible refine Kd.C_alloc ?_ _) | (with_reducible refine Kd.C_drewN ?_ _) | (with_reducible refine Kd.C_drew ?_)))
                    (case side2 => exact (Kd.R_reads' HO426.out).2.1)
                    rintro e w60 ⟨v428, rfl, ho0, hb⟩
                    have HS0_ := (hb.cell (World.block_lt_of_cell? _ _ (hHeld.1))).trans (hHeld.1)
                    have HS1_ := (hb.cell (World.block_lt_of_cell? _ _ (hHeld.2))).trans (hHeld.2)
                    refine ⟨_, rfl, ?_⟩
                    have n0_ := Aside0.mk (Kd.R_below (by (with_reducible repeat (first | apply Kd.R_alloc | apply Kd.R_drewN | apply Kd.R_drew)); exact HO380.out) hb)
                    have n1_ := Aside0.mk (Kd.N_elder' (by (with_reducible repeat (first | apply Kd.N_alloc | apply Kd.N_drewN | apply Kd.N_drew)); exact HO383.out) (Kd.N_base ho0) hb)
                    have n2_ := Aside0.mk (Kd.N_elder' (by (with_reducible repeat (first | apply Kd.N_alloc | apply Kd.N_drewN | apply Kd.N_drew)); exact HO386.out) (Kd.N_base ho0) hb)
                    have n3_ := Aside0.mk (Kd.R_below (by (with_reducible repeat (first | apply Kd.R_alloc | apply Kd.R_drewN | apply Kd.R_drew)); exact HO392.out) hb)
                    have n4_ := Aside0.mk (Kd.R_below (by (with_reducible repeat (first | apply Kd.R_alloc | apply Kd.R_drewN | apply Kd.R_drew)); exact HO398.out) hb)
                    have n5_ := Aside0.mk (Kd.R_below (by (with_reducible repeat (first | apply Kd.R_alloc | apply Kd.R_drewN | apply Kd.R_drew)); exact HO404.out) hb)
                    have n6_ := Aside0.mk (Kd.N_elder' (by (with_reducible repeat (first | apply Kd.N_alloc | apply Kd.N_drewN | apply Kd.N_drew)); exact HO410.out) (Kd.N_base ho0) hb)
                    have n7_ := Aside0.mk (Kd.V_elder' (by (with_reducible repeat (first | apply Kd.V_alloc | apply Kd.V_drewN | apply Kd.V_drew)); exact HO413.out) (Kd.N_base ho0) hb)
                    have n8_ := Aside0.mk (Kd.V_elder' (by (with_reducible repeat (first | apply Kd.V_alloc | apply Kd.V_drewN | apply Kd.V_drew)); exact HL415_0.out) (Kd.N_base ho0) hb)
                    have n9_ := Aside0.mk (Kd.R_below (by (with_reducible repeat (first | apply Kd.R_alloc | apply Kd.R_drewN | apply Kd.R_drew)); exact HO418.out) hb)
                    have n10_ := Aside0.mk (Kd.N_elder' (by (with_reducible repeat (first | apply Kd.N_alloc | apply Kd.N_drewN | apply Kd.N_drew)); exact HO421.out) (Kd.N_base ho0) hb)
                    have n11_ := Aside0.mk (Kd.V_elder' (by (with_reducible repeat (first | apply Kd.V_alloc | apply Kd.V_drewN | apply Kd.V_drew)); exact HL423_0.out) (Kd.N_base ho0) hb)
                    have n12_ := Aside0.mk (Kd.R_below (by (with_reducible repeat (first | apply Kd.R_alloc | apply Kd.R_drewN | apply Kd.R_drew)); exact HO426.out) hb)
                    have n13_ := Aside0.mk (Kd.N_lower (Kd.N_mono (ok' := fun k_ => some k_ ≠ (.slice Ao25 y378.length co25 : Value).ownBlock ∧ some k_ ≠ (.slice Ao27 t381.length co27 : Value).ownBlock ∧ some k_ ≠ (.slice (some ad415) t384.length co50 : Value).ownBlock ∧ some k_ ≠ (.slice Ao32 y390.length co32 : Value).ownBlock ∧ some k_ ≠ (.slice Ao36 y396.length co36 : Value).ownBlock ∧ some k_ ≠ (.slice Ao40 y402.length co40 : Value).ownBlock ∧ some k_ ≠ (.slice Ao47 y408.length co47 : Value).ownBlock ∧ some k_ ≠ (.slice Ao53 y416.length co53 : Value).ownBlock ∧ some k_ ≠ (.slice Ao55 t419.length co55 : Value).ownBlock ∧ some k_ ≠ (.slice Ao59 y424.length co59 : Value).ownBlock) ho0 (fun k_ hk_ => ⟨(Kd.fresh' (Kd.R_lt (by (with_reducible repeat (first | apply Kd.R_alloc | apply Kd.R_drewN | apply Kd.R_drew)); exact HO380.out)) k_ hk_), (Kd.fresh' (Kd.N_lt (by (with_reducible repeat (first | apply Kd.N_alloc | apply Kd.N_drewN | apply Kd.N_drew)); exact HO383.out)) k_ hk_), (Kd.fresh' (Kd.N_lt (by (with_reducible repeat (first | apply Kd.N_alloc | apply Kd.N_drewN | apply Kd.N_drew)); exact HO386.out)) k_ hk_), (Kd.fresh' (Kd.R_lt (by (with_reducible repeat (first | apply Kd.R_alloc | apply Kd.R_drewN | apply Kd.R_drew)); exact HO392.out)) k_ hk_), (Kd.fresh' (Kd.R_lt (by (with_reducible repeat (first | apply Kd.R_alloc | apply Kd.R_drewN | apply Kd.R_drew)); exact HO398.out)) k_ hk_), (Kd.fresh' (Kd.R_lt (by (with_reducible repeat (first | apply Kd.R_alloc | apply Kd.R_drewN | apply Kd.R_drew)); exact HO404.out)) k_ hk_), (Kd.fresh' (Kd.N_lt (by (with_reducible repeat (first | apply Kd.N_alloc | apply Kd.N_drewN | apply Kd.N_drew)); exact HO410.out)) k_ hk_), (Kd.fresh' (Kd.R_lt (by (with_reducible repeat (first | apply Kd.R_alloc | apply Kd.R_drewN | apply Kd.R_drew)); exact HO418.out)) k_ hk_), (Kd.fresh' (Kd.N_lt (by (with_reducible repeat (first | apply Kd.N_alloc | apply Kd.N_drewN | apply Kd.N_drew)); exact HO421.out)) k_ hk_), (Kd.fresh' (Kd.R_lt (by (with_reducible repeat (first | apply Kd.R_alloc | apply Kd.R_drewN | apply Kd.R_drew)); exact HO426.out)) k_ hk_)⟩)) (below_size (by repeat (first | (with_reducible first | exact HB.out | apply below_alloc | apply pw_below_drewN | apply below_drew1) | exact HB.out))))
                    have n14_ := Aside0.mk (Kd.C_below (by repeat (first | (with_reducible exact HR415_0.out) | (with_reducible refine Kd.C_alloc ?_ _) | (with_reducible refine Kd.C_drewN ?_ _) | (with_reducible refine Kd.C_drew ?_) | exact HR415_0.out)) hb)
                    have n15_ := Aside0.mk (Kd.C_below (by repeat (first | (with_reducible exact HR423_0.out) | (with_reducible refine Kd.C_alloc ?_ _) | (with_reducible refine Kd.C_drewN ?_ _) | (with_reducible refine Kd.C_drew ?_) | exact HR423_0.out)) hb)
                    have n16_ := Aside0.mk (below_step (by repeat (first | (with_reducible first | exact HB.out | apply below_alloc | apply pw_below_drewN | apply below_drew1) | exact HB.out)) hb)
                    clear HO380
                    clear HO383
                    clear HO386
                    clear HO392
                    clear HO398
                    clear HO404
                    clear HO410
                    clear HO413
                    clear HL415_0
                    clear HO418
                    clear HO421
                    clear HL423_0
                    clear HO426
                    clear HR415_0
                    clear HR423_0
                    clear HB
                    have HO380 := n0_
                    have HO383 := n1_
                    have HO386 := n2_
                    have HO392 := n3_
                    have HO398 := n4_
                    have HO404 := n5_
                    have HO410 := n6_
                    have HO413 := n7_
                    have HL415_0 := n8_
                    have HO418 := n9_
                    have HO421 := n10_
                    have HL423_0 := n11_
                    have HO426 := n12_
                    have HO429 := n13_
                    have HR415_0 := n14_
                    have HR423_0 := n15_
                    have HB := n16_
                    clear n0_ n1_ n2_ n3_ n4_ n5_ n6_ n7_ n8_ n9_ n10_ n11_ n12_ n13_ n14_ n15_ n16_
                    (try clear hb)
                    (try clear hb2)
                    (try clear hk)
                    (try clear hi)
                    (try clear ho0)
                    obtain ⟨Ao61, co61, eo61⟩ := Kd.N_slice HO429.out
                    (first | subst eo61 | (injection eo61 with f1_ f2_ f3_; have f4_ := f1_.symm; have f5_ := f3_.symm; clear f1_ f2_ f3_; subst f4_; subst f5_))
                    refine hK.out _ _ ⟨HS0_, HS1_⟩ (fun hHeld => ?_)
                    clear hK K
                    refine norm_ (a' := ?_) ?_ ?_
                    rotate_left
                    · show Act.put _ (some 56) _ = _
                      simp only [Act.put, List.setIfInBounds_toArray, List.set_cons_zero, List.set_cons_succ, i64_w, i32_w]
                      rfl
                    refine one_ (i := 29) (N := some 57) #[true, true, true, true, true, true, true, true, true, true, true, true, true, true, true, true, true, true, true, true, true, true, true, true, true, true, true, true, true, true, false, false, false, false, false, false, false, false, false, false, false, false] rfl rfl (one_of HT_.out (by kernel_rfl)) (by decide) (fun K hK => ?_)
                    refine goes_ Tryd.func16 (by kernel_rfl) rfl #[.slice A423_0 (rd_L5 t384 1).length c423_0, .slice Ao61 t427.length co61] (by rfl) rfl rfl (by (try simp only [List.map_toArray, List.map_cons, List.map_nil]); first | done | rfl | (simp only [List.length_drop, List.length_take]; rfl)) ?_
                    with_reducible refine (swagelaw21_is.calls k _ _ (rd_L5 t384 1) _ _ t427 true _ ?side1 ?side2 ?side3 ?side4 A18.out).mono ?_
                    (case side1 => repeat (first | exact (by repeat (first | (with_reducible exact HR423_0.out) | (with_reducible refine Kd.C_alloc ?_ _) | (with_reducible refine Kd.C_drewN ?_ _) | (with_reducible refine Kd.C_drew ?_) | exact HR423_0.out)) | (with_reducible refine Kd.C_alloc ?_ _) | (with_reducible refine Kd.C_drewN ?_ _) | (with_reducible refine Kd.C_drew ?_)))
                    (case side2 => exact HC423_0.out)
                    (case side3 => repeat (first | exact (Kd.N_reads' HO429.out).2.2 | (with_reducible refine Kd.C_alloc ?_ _) | (with_reducible refine Kd.C_drewN ?_ _) | (with_reducible refine Kd.C_drew ?_)))
                    (case side4 => exact (Kd.N_reads' HO429.out).2.1)
                    rintro e w62 ⟨rfl, hb⟩
                    have HS0_ := (hb.cell (World.block_lt_of_cell? _ _ (hHeld.1))).trans (hHeld.1)
                    have HS1_ := (hb.cell (World.block_lt_of_cell? _ _ (hHeld.2))).trans (hHeld.2)
                    refine ⟨_, rfl, ?_⟩
                    have n0_ := Aside0.mk (Kd.R_below (by (with_reducible repeat (first | apply Kd.R_alloc | apply Kd.R_drewN | apply Kd.R_drew)); exact HO380.out) hb)
                    have n1_ := Aside0.mk (Kd.N_below (by (with_reducible repeat (first | apply Kd.N_alloc | apply Kd.N_drewN | apply Kd.N_drew)); exact HO383.out) hb)
                    have n2_ := Aside0.mk (Kd.N_below (by (with_reducible repeat (first | apply Kd.N_alloc | apply Kd.N_drewN | apply Kd.N_drew)); exact HO386.out) hb)
                    have n3_ := Aside0.mk (Kd.R_below (by (with_reducible repeat (first | apply Kd.R_alloc | apply Kd.R_drewN | apply Kd.R_drew)); exact HO392.out) hb)
                    have n4_ := Aside0.mk (Kd.R_below (by (with_reducible repeat (first | apply Kd.R_alloc | apply Kd.R_drewN | apply Kd.R_drew)); exact HO398.out) hb)
                    have n5_ := Aside0.mk (Kd.R_below (by (with_reducible repeat (first | apply Kd.R_alloc | apply Kd.R_drewN | apply Kd.R_drew)); exact HO404.out) hb)
                    have n6_ := Aside0.mk (Kd.N_below (by (with_reducible repeat (first | apply Kd.N_alloc | apply Kd.N_drewN | apply Kd.N_drew)); exact HO410.out) hb)
                    have n7_ := Aside0.mk (Kd.V_below (by (with_reducible repeat (first | apply Kd.V_alloc | apply Kd.V_drewN | apply Kd.V_drew)); exact HO413.out) hb)
                    have n8_ := Aside0.mk (Kd.V_below (by (with_reducible repeat (first | apply Kd.V_alloc | apply Kd.V_drewN | apply Kd.V_drew)); exact HL415_0.out) hb)
                    have n9_ := Aside0.mk (Kd.R_below (by (with_reducible repeat (first | apply Kd.R_alloc | apply Kd.R_drewN | apply Kd.R_drew)); exact HO418.out) hb)
                    have n10_ := Aside0.mk (Kd.N_below (by (with_reducible repeat (first | apply Kd.N_alloc | apply Kd.N_drewN | apply Kd.N_drew)); exact HO421.out) hb)
                    have n11_ := Aside0.mk (Kd.V_below (by (with_reducible repeat (first | apply Kd.V_alloc | apply Kd.V_drewN | apply Kd.V_drew)); exact HL423_0.out) hb)
                    have n12_ := Aside0.mk (Kd.R_below (by (with_reducible repeat (first | apply Kd.R_alloc | apply Kd.R_drewN | apply Kd.R_drew)); exact HO426.out) hb)
                    have n13_ := Aside0.mk (Kd.N_below (by (with_reducible repeat (first | apply Kd.N_alloc | apply Kd.N_drewN | apply Kd.N_drew)); exact HO429.out) hb)
                    have n14_ := Aside0.mk (Kd.C_below (by repeat (first | (with_reducible exact HR415_0.out) | (with_reducible refine Kd.C_alloc ?_ _) | (with_reducible refine Kd.C_drewN ?_ _) | (with_reducible refine Kd.C_drew ?_) | exact HR415_0.out)) hb)
                    have n15_ := Aside0.mk (Kd.C_below (by repeat (first | (with_reducible exact HR423_0.out) | (with_reducible refine Kd.C_alloc ?_ _) | (with_reducible refine Kd.C_drewN ?_ _) | (with_reducible refine Kd.C_drew ?_) | exact HR423_0.out)) hb)
                    have n16_ := Aside0.mk (below_step (by repeat (first | (with_reducible first | exact HB.out | apply below_alloc | apply pw_below_drewN | apply below_drew1) | exact HB.out)) hb)
                    clear HO380
                    clear HO383
                    clear HO386
                    clear HO392
                    clear HO398
                    clear HO404
                    clear HO410
                    clear HO413
                    clear HL415_0
                    clear HO418
                    clear HO421
                    clear HL423_0
                    clear HO426
                    clear HO429
                    clear HR415_0
                    clear HR423_0
                    clear HB
                    have HO380 := n0_
                    have HO383 := n1_
                    have HO386 := n2_
                    have HO392 := n3_
                    have HO398 := n4_
                    have HO404 := n5_
                    have HO410 := n6_
                    have HO413 := n7_
                    have HL415_0 := n8_
                    have HO418 := n9_
                    have HO421 := n10_
                    have HL423_0 := n11_
                    have HO426 := n12_
                    have HO429 := n13_
                    have HR415_0 := n14_
                    have HR423_0 := n15_
                    have HB := n16_
                    clear n0_ n1_ n2_ n3_ n4_ n5_ n6_ n7_ n8_ n9_ n10_ n11_ n12_ n13_ n14_ n15_ n16_
                    (try clear hb)
                    (try clear hb2)
                    (try clear hk)
                    (try clear hi)
                    refine hK.out _ _ ⟨HS0_, HS1_⟩ (fun hHeld => ?_)
                    clear hK K
                    refine norm_ (a' := ?_) ?_ ?_
                    rotate_left
                    · show Act.put _ (some 57) _ = _
                      simp only [Act.put, List.setIfInBounds_toArray, List.set_cons_zero, List.set_cons_succ, i64_w, i32_w]
                      rfl
                    refine pure_ (i := 30) (N := some 58) (v := ?_) (a' := ?_) #[true, true, true, true, true, true, true, true, true, true, true, true, true, true, true, true, true, true, true, true, true, true, true, true, true, true, true, true, true, true, true, false, false, false, false, false, false, false, false, false, false, false] rfl rfl (any_of HT_.out (by kernel_rfl)) (fun _ _ _ h => h) (Or.inl ⟨by rfl, ?_⟩) ?_ ?_
                    rotate_left
                    · intro w'
                      go_simp
                      with_reducible rfl
                    rotate_left
                    · simp only [Act.put, List.setIfInBounds_toArray, List.set_cons_zero, List.set_cons_succ, i64_w, i32_w]
                      rfl
                    refine pure_ (i := 31) (N := some 59) (v := ?_) (a' := ?_) #[true, true, true, true, true, true, true, true, true, true, true, true, true, true, true, true, true, true, true, true, true, true, true, true, true, true, true, true, true, true, true, true, false, false, false, false, false, false, false, false, false, false] rfl rfl (any_of HT_.out (by kernel_rfl)) (fun _ _ _ h => h) (Or.inl ⟨by rfl, ?_⟩) ?_ ?_
                    rotate_left
                    · intro w'
                      go_simp
                      with_reducible rfl
                    rotate_left
                    · simp only [Act.put, List.setIfInBounds_toArray, List.set_cons_zero, List.set_cons_succ, i64_w, i32_w]
                      rfl
                    refine pure_ (i := 32) (N := some 60) (v := ?_) (a' := ?_) #[true, true, true, true, true, true, true, true, true, true, true, true, true, true, true, true, true, true, true, true, true, true, true, true, true, true, true, true, true, true, true, true, true, false, false, false, false, false, false, false, false, false] rfl rfl (any_of HT_.out (by kernel_rfl)) (fun _ _ _ h => h) (Or.inl ⟨by rfl, ?_⟩) ?_ ?_
                    rotate_left
                    · intro w'
                      go_simp
                      with_reducible rfl
                    rotate_left
                    · simp only [Act.put, List.setIfInBounds_toArray, List.set_cons_zero, List.set_cons_succ, i64_w, i32_w]
                      rfl
                    refine pure_ (i := 33) (N := some 61) (v := ?_) (a' := ?_) #[true, true, true, true, true, true, true, true, true, true, true, true, true, true, true, true, true, true, true, true, true, true, true, true, true, true, true, true, true, true, true, true, true, true, false, false, false, false, false, false, false, false] rfl rfl (any_of HT_.out (by kernel_rfl)) (fun _ _ _ h => h) (Or.inl ⟨by rfl, ?_⟩) ?_ ?_
                    rotate_left
                    · intro w'
                      go_simp
                      with_reducible rfl
                    rotate_left
                    · simp only [Act.put, List.setIfInBounds_toArray, List.set_cons_zero, List.set_cons_succ, i64_w, i32_w]
                      rfl
                    refine pure_ (i := 34) (N := some 62) (v := ?_) (a' := ?_) #[true, true, true, true, true, true, true, true, true, true, true, true, true, true, true, true, true, true, true, true, true, true, true, true, true, true, true, true, true, true, true, true, true, true, true, false, false, false, false, false, false, false] rfl rfl (any_of HT_.out (by kernel_rfl)) (fun _ _ _ h => h) (Or.inl ⟨by rfl, ?_⟩) ?_ ?_
                    rotate_left
                    · intro w'
                      go_simp
                      with_reducible rfl
                    rotate_left
                    · simp only [Act.put, List.setIfInBounds_toArray, List.set_cons_zero, List.set_cons_succ, i64_w, i32_w]
                      rfl
                    refine pure_ (i := 35) (N := some 63) (v := ?_) (a' := ?_) #[true, true, true, true, true, true, true, true, true, true, true, true, true, true, true, true, true, true, true, true, true, true, true, true, true, true, true, true, true, true, true, true, true, true, true, true, false, false, false, false, false, false] rfl rfl (any_of HT_.out (by kernel_rfl)) (fun _ _ _ h => h) (Or.inl ⟨by rfl, ?_⟩) ?_ ?_
                    rotate_left
                    · intro w'
                      go_simp
                      with_reducible rfl
                    rotate_left
                    · simp only [Act.put, List.setIfInBounds_toArray, List.set_cons_zero, List.set_cons_succ, i64_w, i32_w]
                      rfl
                    refine pure_ (i := 36) (N := some 64) (v := ?_) (a' := ?_) #[true, true, true, true, true, true, true, true, true, true, true, true, true, true, true, true, true, true, true, true, true, true, true, true, true, true, true, true, true, true, true, true, true, true, true, true, true, false, false, false, false, false] rfl rfl (any_of HT_.out (by kernel_rfl)) (fun _ _ _ h => h) (Or.inl ⟨by rfl, ?_⟩) ?_ ?_
                    rotate_left
                    · intro w'
                      go_simp
                      with_reducible rfl
                    rotate_left
                    · simp only [Act.put, List.setIfInBounds_toArray, List.set_cons_zero, List.set_cons_succ, i64_w, i32_w]
                      rfl
                    refine one_ (i := 37) (N := some 65) #[true, true, true, true, true, true, true, true, true, true, true, true, true, true, true, true, true, true, true, true, true, true, true, true, true, true, true, true, true, true, true, true, true, true, true, true, true, true, false, false, false, false] rfl rfl (one_of HT_.out (by kernel_rfl)) (by decide) (fun K hK => ?_)
                    refine Kd.R_lit_step (Kd.int .i64) _ 2 ?hg (N := 65) ?hd (xs := ([1, 2, 13, 20, 130] : List Int)) (inner := [.int .i64 1, .int .i64 2, .int .i64 13, .int .i64 20, .int .i64 130]) (ok := fun _ => True) (okp := fun _ => True) ?hr ?hp (fun _ hk => hk) trivial (Below.refl _ _) (Nat.le_refl _) (by simp) ?_; (case hd => rfl); (case hg => rfl); (case hr => first | (go_simp; done) | (go_simp; rfl)); (case hp => exact (Reps.one (show Kd.M (Kd.int .i64) _ _ _ 1 [.int .i64 1] from rfl) (Reps.one (show Kd.M (Kd.int .i64) _ _ _ 2 [.int .i64 2] from rfl) (Reps.one (show Kd.M (Kd.int .i64) _ _ _ 13 [.int .i64 13] from rfl) (Reps.one (show Kd.M (Kd.int .i64) _ _ _ 20 [.int .i64 20] from rfl) (Reps.one (show Kd.M (Kd.int .i64) _ _ _ 130 [.int .i64 130] from rfl) (Reps.none _ _)))))))
                    intro v432 w63 ho64 hb hg_ hnew_
                    have HS0_ := (hb.cell (World.block_lt_of_cell? _ _ (hHeld.1))).trans (hHeld.1)
                    have HS1_ := (hb.cell (World.block_lt_of_cell? _ _ (hHeld.2))).trans (hHeld.2)
                    clear hg_ hnew_
                    (first | rw [← Ny431.out] at ho64 | (simp only [Int.reduceToNat] at ho64; rw [← Ny431.out] at ho64))
                    have n0_ := Aside0.mk (Kd.R_elder' (by (with_reducible repeat (first | apply Kd.R_alloc | apply Kd.R_drewN | apply Kd.R_drew)); exact HO380.out) (Kd.R_base ho64) hb)
                    have n1_ := Aside0.mk (Kd.N_elder' (by (with_reducible repeat (first | apply Kd.N_alloc | apply Kd.N_drewN | apply Kd.N_drew)); exact HO383.out) (Kd.R_base ho64) hb)
                    have n2_ := Aside0.mk (Kd.N_elder' (by (with_reducible repeat (first | apply Kd.N_alloc | apply Kd.N_drewN | apply Kd.N_drew)); exact HO386.out) (Kd.R_base ho64) hb)
                    have n3_ := Aside0.mk (Kd.R_elder' (by (with_reducible repeat (first | apply Kd.R_alloc | apply Kd.R_drewN | apply Kd.R_drew)); exact HO392.out) (Kd.R_base ho64) hb)
                    have n4_ := Aside0.mk (Kd.R_elder' (by (with_reducible repeat (first | apply Kd.R_alloc | apply Kd.R_drewN | apply Kd.R_drew)); exact HO398.out) (Kd.R_base ho64) hb)
                    have n5_ := Aside0.mk (Kd.R_elder' (by (with_reducible repeat (first | apply Kd.R_alloc | apply Kd.R_drewN | apply Kd.R_drew)); exact HO404.out) (Kd.R_base ho64) hb)
                    have n6_ := Aside0.mk (Kd.N_elder' (by (with_reducible repeat (first | apply Kd.N_alloc | apply Kd.N_drewN | apply Kd.N_drew)); exact HO410.out) (Kd.R_base ho64) hb)
                    have n7_ := Aside0.mk (Kd.V_elder' (by (with_reducible repeat (first | apply Kd.V_alloc | apply Kd.V_drewN | apply Kd.V_drew)); exact HO413.out) (Kd.R_base ho64) hb)
                    have n8_ := Aside0.mk (Kd.V_elder' (by (with_reducible repeat (first | apply Kd.V_alloc | apply Kd.V_drewN | apply Kd.V_drew)); exact HL415_0.out) (Kd.R_base ho64) hb)
                    have n9_ := Aside0.mk (Kd.R_elder' (by (with_reducible repeat (first | apply Kd.R_alloc | apply Kd.R_drewN | apply Kd.R_drew)); exact HO418.out) (Kd.R_base ho64) hb)
                    have n10_ := Aside0.mk (Kd.N_elder' (by (with_reducible repeat (first | apply Kd.N_alloc | apply Kd.N_drewN | apply Kd.N_drew)); exact HO421.out) (Kd.R_base ho64) hb)
                    have n11_ := Aside0.mk (Kd.V_elder' (by (with_reducible repeat (first | apply Kd.V_alloc | apply Kd.V_drewN | apply Kd.V_drew)); exact HL423_0.out) (Kd.R_base ho64) hb)
                    have n12_ := Aside0.mk (Kd.R_elder' (by (with_reducible repeat (first | apply Kd.R_alloc | apply Kd.R_drewN | apply Kd.R_drew)); exact HO426.out) (Kd.R_base ho64) hb)
                    have n13_ := Aside0.mk (Kd.N_elder' (by (with_reducible repeat (first | apply Kd.N_alloc | apply Kd.N_drewN | apply Kd.N_drew)); exact HO429.out) (Kd.R_base ho64) hb)
                    have n14_ := Aside0.mk (Kd.R_lower (Kd.R_new' (Kd.R_new' (Kd.R_new' (Kd.R_new' (Kd.R_new' (Kd.R_new' ho64 (Kd.R_lt (by (with_reducible repeat (first | apply Kd.R_alloc | apply Kd.R_drewN | apply Kd.R_drew)); exact HO380.out))) (Kd.R_lt (by (with_reducible repeat (first | apply Kd.R_alloc | apply Kd.R_drewN | apply Kd.R_drew)); exact HO392.out))) (Kd.R_lt (by (with_reducible repeat (first | apply Kd.R_alloc | apply Kd.R_drewN | apply Kd.R_drew)); exact HO398.out))) (Kd.R_lt (by (with_reducible repeat (first | apply Kd.R_alloc | apply Kd.R_drewN | apply Kd.R_drew)); exact HO404.out))) (Kd.R_lt (by (with_reducible repeat (first | apply Kd.R_alloc | apply Kd.R_drewN | apply Kd.R_drew)); exact HO418.out))) (Kd.R_lt (by (with_reducible repeat (first | apply Kd.R_alloc | apply Kd.R_drewN | apply Kd.R_drew)); exact HO426.out))) (below_size (by repeat (first | (with_reducible first | exact HB.out | apply below_alloc | apply pw_below_drewN | apply below_drew1) | exact HB.out))))
                    have n15_ := Aside0.mk (Kd.C_below (by repeat (first | (with_reducible exact HR415_0.out) | (with_reducible refine Kd.C_alloc ?_ _) | (with_reducible refine Kd.C_drewN ?_ _) | (with_reducible refine Kd.C_drew ?_) | exact HR415_0.out)) hb)
                    have n16_ := Aside0.mk (Kd.C_below (by repeat (first | (with_reducible exact HR423_0.out) | (with_reducible refine Kd.C_alloc ?_ _) | (with_reducible refine Kd.C_drewN ?_ _) | (with_reducible refine Kd.C_drew ?_) | exact HR423_0.out)) hb)
                    have n17_ := Aside0.mk (below_step (by repeat (first | (with_reducible first | exact HB.out | apply below_alloc | apply pw_below_drewN | apply below_drew1) | exact HB.out)) hb)
                    clear HO380
                    clear HO383
                    clear HO386
                    clear HO392
                    clear HO398
                    clear HO404
                    clear HO410
                    clear HO413
                    clear HL415_0
                    clear HO418
                    clear HO421
                    clear HL423_0
                    clear HO426
                    clear HO429
                    clear HR415_0
                    clear HR423_0
                    clear HB
                    have HO380 := n0_
                    have HO383 := n1_
                    have HO386 := n2_
                    have HO392 := n3_
                    have HO398 := n4_
                    have HO404 := n5_
                    have HO410 := n6_
                    have HO413 := n7_
                    have HL415_0 := n8_
                    have HO418 := n9_
                    have HO421 := n10_
                    have HL423_0 := n11_
                    have HO426 := n12_
                    have HO429 := n13_
                    have HO433 := n14_
                    have HR415_0 := n15_
                    have HR423_0 := n16_
                    have HB := n17_
                    clear n0_ n1_ n2_ n3_ n4_ n5_ n6_ n7_ n8_ n9_ n10_ n11_ n12_ n13_ n14_ n15_ n16_ n17_
                    clear hb ho64
                    obtain ⟨Ao65, co65, eo65⟩ := Kd.R_slice HO433.out
                    (first | subst eo65 | (injection eo65 with f1_ f2_ f3_; have f4_ := f1_.symm; have f5_ := f3_.symm; clear f1_ f2_ f3_; subst f4_; subst f5_))
                    refine hK.out _ _ ⟨HS0_, HS1_⟩ (fun hHeld => ?_)
                    clear hK K
                    refine norm_ (a' := ?_) ?_ ?_
                    rotate_left
                    · show Act.put _ (some 65) _ = _
                      simp only [Act.put, List.setIfInBounds_toArray, List.set_cons_zero, List.set_cons_succ, i64_w, i32_w]
                      rfl
                    refine one_ (i := 38) (N := some 66) #[true, true, true, true, true, true, true, true, true, true, true, true, true, true, true, true, true, true, true, true, true, true, true, true, true, true, true, true, true, true, true, true, true, true, true, true, true, true, true, false, false, false] rfl rfl (one_of HT_.out (by kernel_rfl)) (by decide) (fun K hK => ?_)
                    refine goes_ Tryd.func15 (by kernel_rfl) rfl #[.slice Ao65 y431.length co65] (by rfl) rfl rfl (by (try simp only [List.map_toArray, List.map_cons, List.map_nil]); first | done | rfl | (simp only [List.length_drop, List.length_take]; rfl)) ?_
                    with_reducible refine (swagelaw21_ref.calls k _ _ y431 t434 _ ?side1 ?side2 A21.out).mono ?_
                    (case side1 => repeat (first | exact (Kd.R_reads' HO433.out).2.2 | (with_reducible refine Kd.C_alloc ?_ _) | (with_reducible refine Kd.C_drewN ?_ _) | (with_reducible refine Kd.C_drew ?_)))
                    (case side2 => exact (Kd.R_reads' HO433.out).2.1)
                    rintro e w66 ⟨v435, rfl, ho0, hb⟩
                    have HS0_ := (hb.cell (World.block_lt_of_cell? _ _ (hHeld.1))).trans (hHeld.1)
                    have HS1_ := (hb.cell (World.block_lt_of_cell? _ _ (hHeld.2))).trans (hHeld.2)
                    refine ⟨_, rfl, ?_⟩
                    have n0_ := Aside0.mk (Kd.R_below (by (with_reducible repeat (first | apply Kd.R_alloc | apply Kd.R_drewN | apply Kd.R_drew)); exact HO380.out) hb)
                    have n1_ := Aside0.mk (Kd.N_elder' (by (with_reducible repeat (first | apply Kd.N_alloc | apply Kd.N_drewN | apply Kd.N_drew)); exact HO383.out) (Kd.N_base ho0) hb)
                    have n2_ := Aside0.mk (Kd.N_elder' (by (with_reducible repeat (first | apply Kd.N_alloc | apply Kd.N_drewN | apply Kd.N_drew)); exact HO386.out) (Kd.N_base ho0) hb)
                    have n3_ := Aside0.mk (Kd.R_below (by (with_reducible repeat (first | apply Kd.R_alloc | apply Kd.R_drewN | apply Kd.R_drew)); exact HO392.out) hb)
                    have n4_ := Aside0.mk (Kd.R_below (by (with_reducible repeat (first | apply Kd.R_alloc | apply Kd.R_drewN | apply Kd.R_drew)); exact HO398.out) hb)
                    have n5_ := Aside0.mk (Kd.R_below (by (with_reducible repeat (first | apply Kd.R_alloc | apply Kd.R_drewN | apply Kd.R_drew)); exact HO404.out) hb)
                    have n6_ := Aside0.mk (Kd.N_elder' (by (with_reducible repeat (first | apply Kd.N_alloc | apply Kd.N_drewN | apply Kd.N_drew)); exact HO410.out) (Kd.N_base ho0) hb)
                    have n7_ := Aside0.mk (Kd.V_elder' (by (with_reducible repeat (first | apply Kd.V_alloc | apply Kd.V_drewN | apply Kd.V_drew)); exact HO413.out) (Kd.N_base ho0) hb)
                    have n8_ := Aside0.mk (Kd.V_elder' (by (with_reducible repeat (first | apply Kd.V_alloc | apply Kd.V_drewN | apply Kd.V_drew)); exact HL415_0.out) (Kd.N_base ho0) hb)
                    have n9_ := Aside0.mk (Kd.R_below (by (with_reducible repeat (first | apply Kd.R_alloc | apply Kd.R_drewN | apply Kd.R_drew)); exact HO418.out) hb)
                    have n10_ := Aside0.mk (Kd.N_elder' (by (with_reducible repeat (first | apply Kd.N_alloc | apply Kd.N_drewN | apply Kd.N_drew)); exact HO421.out) (Kd.N_base ho0) hb)
                    have n11_ := Aside0.mk (Kd.V_elder' (by (with_reducible repeat (first | apply Kd.V_alloc | apply Kd.V_drewN | apply Kd.V_drew)); exact HL423_0.out) (Kd.N_base ho0) hb)
                    have n12_ := Aside0.mk (Kd.R_below (by (with_reducible repeat (first | apply Kd.R_alloc | apply Kd.R_drewN | apply Kd.R_drew)); exact HO426.out) hb)
                    have n13_ := Aside0.mk (Kd.N_elder' (by (with_reducible repeat (first | apply Kd.N_alloc | apply Kd.N_drewN | apply Kd.N_drew)); exact HO429.out) (Kd.N_base ho0) hb)
                    have n14_ := Aside0.mk (Kd.R_below (by (with_reducible repeat (first | apply Kd.R_alloc | apply Kd.R_drewN | apply Kd.R_drew)); exact HO433.out) hb)
                    have n15_ := Aside0.mk (Kd.N_lower (Kd.N_mono (ok' := fun k_ => some k_ ≠ (.slice Ao25 y378.length co25 : Value).ownBlock ∧ some k_ ≠ (.slice Ao27 t381.length co27 : Value).ownBlock ∧ some k_ ≠ (.slice (some ad415) t384.length co50 : Value).ownBlock ∧ some k_ ≠ (.slice Ao32 y390.length co32 : Value).ownBlock ∧ some k_ ≠ (.slice Ao36 y396.length co36 : Value).ownBlock ∧ some k_ ≠ (.slice Ao40 y402.length co40 : Value).ownBlock ∧ some k_ ≠ (.slice Ao47 y408.length co47 : Value).ownBlock ∧ some k_ ≠ (.slice Ao53 y416.length co53 : Value).ownBlock ∧ some k_ ≠ (.slice Ao55 t419.length co55 : Value).ownBlock ∧ some k_ ≠ (.slice Ao59 y424.length co59 : Value).ownBlock ∧ some k_ ≠ (.slice Ao61 t427.length co61 : Value).ownBlock ∧ some k_ ≠ (.slice Ao65 y431.length co65 : Value).ownBlock) ho0 (fun k_ hk_ => ⟨(Kd.fresh' (Kd.R_lt (by (with_reducible repeat (first | apply Kd.R_alloc | apply Kd.R_drewN | apply Kd.R_drew)); exact HO380.out)) k_ hk_), (Kd.fresh' (Kd.N_lt (by (with_reducible repeat (first | apply Kd.N_alloc | apply Kd.N_drewN | apply Kd.N_drew)); exact HO383.out)) k_ hk_), (Kd.fresh' (Kd.N_lt (by (with_reducible repeat (first | apply Kd.N_alloc | apply Kd.N_drewN | apply Kd.N_drew)); exact HO386.out)) k_ hk_), (Kd.fresh' (Kd.R_lt (by (with_reducible repeat (first | apply Kd.R_alloc | apply Kd.R_drewN | apply Kd.R_drew)); exact HO392.out)) k_ hk_), (Kd.fresh' (Kd.R_lt (by (with_reducible repeat (first | apply Kd.R_alloc | apply Kd.R_drewN | apply Kd.R_drew)); exact HO398.out)) k_ hk_), (Kd.fresh' (Kd.R_lt (by (with_reducible repeat (first | apply Kd.R_alloc | apply Kd.R_drewN | apply Kd.R_drew)); exact HO404.out)) k_ hk_), (Kd.fresh' (Kd.N_lt (by (with_reducible repeat (first | apply Kd.N_alloc | apply Kd.N_drewN | apply Kd.N_drew)); exact HO410.out)) k_ hk_), (Kd.fresh' (Kd.R_lt (by (with_reducible repeat (first | apply Kd.R_alloc | apply Kd.R_drewN | apply Kd.R_drew)); exact HO418.out)) k_ hk_), (Kd.fresh' (Kd.N_lt (by (with_reducible repeat (first | apply Kd.N_alloc | apply Kd.N_drewN | apply Kd.N_drew)); exact HO421.out)) k_ hk_), (Kd.fresh' (Kd.R_lt (by (with_reducible repeat (first | apply Kd.R_alloc | apply Kd.R_drewN | apply Kd.R_drew)); exact HO426.out)) k_ hk_), (Kd.fresh' (Kd.N_lt (by (with_reducible repeat (first | apply Kd.N_alloc | apply Kd.N_drewN | apply Kd.N_drew)); exact HO429.out)) k_ hk_), (Kd.fresh' (Kd.R_lt (by (with_reducible repeat (first | apply Kd.R_alloc | apply Kd.R_drewN | apply Kd.R_drew)); exact HO433.out)) k_ hk_)⟩)) (below_size (by repeat (first | (with_reducible first | exact HB.out | apply below_alloc | apply pw_below_drewN | apply below_drew1) | exact HB.out))))
                    have n16_ := Aside0.mk (Kd.C_below (by repeat (first | (with_reducible exact HR415_0.out) | (with_reducible refine Kd.C_alloc ?_ _) | (with_reducible refine Kd.C_drewN ?_ _) | (with_reducible refine Kd.C_drew ?_) | exact HR415_0.out)) hb)
                    have n17_ := Aside0.mk (Kd.C_below (by repeat (first | (with_reducible exact HR423_0.out) | (with_reducible refine Kd.C_alloc ?_ _) | (with_reducible refine Kd.C_drewN ?_ _) | (with_reducible refine Kd.C_drew ?_) | exact HR423_0.out)) hb)
                    have n18_ := Aside0.mk (below_step (by repeat (first | (with_reducible first | exact HB.out | apply below_alloc | apply pw_below_drewN | apply below_drew1) | exact HB.out)) hb)
                    clear HO380
                    clear HO383
                    clear HO386
                    clear HO392
                    clear HO398
                    clear HO404
                    clear HO410
                    clear HO413
                    clear HL415_0
                    clear HO418
                    clear HO421
                    clear HL423_0
                    clear HO426
                    clear HO429
                    clear HO433
                    clear HR415_0
                    clear HR423_0
                    clear HB
                    have HO380 := n0_
                    have HO383 := n1_
                    have HO386 := n2_
                    have HO392 := n3_
                    have HO398 := n4_
                    have HO404 := n5_
                    have HO410 := n6_
                    have HO413 := n7_
                    have HL415_0 := n8_
                    have HO418 := n9_
                    have HO421 := n10_
                    have HL423_0 := n11_
                    have HO426 := n12_
                    have HO429 := n13_
                    have HO433 := n14_
                    have HO436 := n15_
                    have HR415_0 := n16_
                    have HR423_0 := n17_
                    have HB := n18_
                    clear n0_ n1_ n2_ n3_ n4_ n5_ n6_ n7_ n8_ n9_ n10_ n11_ n12_ n13_ n14_ n15_ n16_ n17_ n18_
                    (try clear hb)
                    (try clear hb2)
                    (try clear hk)
                    (try clear hi)
                    (try clear ho0)
                    obtain ⟨Ao67, co67, eo67⟩ := Kd.V_slice HO413.out
                    (first | subst eo67 | (injection eo67 with f1_ f2_ f3_; have f4_ := f1_.symm; have f5_ := f3_.symm; clear f1_ f2_ f3_; subst f4_; subst f5_))
                    obtain ⟨Ao68, co68, eo68⟩ := Kd.N_slice HO436.out
                    (first | subst eo68 | (injection eo68 with f1_ f2_ f3_; have f4_ := f1_.symm; have f5_ := f3_.symm; clear f1_ f2_ f3_; subst f4_; subst f5_))
                    refine hK.out _ _ ⟨HS0_, HS1_⟩ (fun hHeld => ?_)
                    clear hK K
                    refine norm_ (a' := ?_) ?_ ?_
                    rotate_left
                    · show Act.put _ (some 66) _ = _
                      simp only [Act.put, List.setIfInBounds_toArray, List.set_cons_zero, List.set_cons_succ, i64_w, i32_w]
                      rfl
                    refine one_ (i := 39) (N := some 67) #[true, true, true, true, true, true, true, true, true, true, true, true, true, true, true, true, true, true, true, true, true, true, true, true, true, true, true, true, true, true, true, true, true, true, true, true, true, true, true, true, false, false] rfl rfl (one_of HT_.out (by kernel_rfl)) (by decide) (fun K hK => ?_)
                    refine goes_ Tryd.func16 (by kernel_rfl) rfl #[.slice Ao67 t411.length co67, .slice Ao68 t434.length co68] (by rfl) rfl rfl (by (try simp only [List.map_toArray, List.map_cons, List.map_nil]); first | done | rfl | (simp only [List.length_drop, List.length_take]; rfl)) ?_
                    with_reducible refine (swagelaw21_is.calls k _ _ t411 _ _ t434 t437 _ ?side1 ?side2 ?side3 ?side4 A22.out).mono ?_
                    (case side1 => repeat (first | exact (Kd.V_reads' HO413.out).2.2 | (with_reducible refine Kd.C_alloc ?_ _) | (with_reducible refine Kd.C_drewN ?_ _) | (with_reducible refine Kd.C_drew ?_)))
                    (case side2 => exact (Kd.V_reads' HO413.out).2.1)
                    (case side3 => repeat (first | exact (Kd.N_reads' HO436.out).2.2 | (with_reducible refine Kd.C_alloc ?_ _) | (with_reducible refine Kd.C_drewN ?_ _) | (with_reducible refine Kd.C_drew ?_)))
                    (case side4 => exact (Kd.N_reads' HO436.out).2.1)
                    rintro e w69 ⟨rfl, hb⟩
                    have HS0_ := (hb.cell (World.block_lt_of_cell? _ _ (hHeld.1))).trans (hHeld.1)
                    have HS1_ := (hb.cell (World.block_lt_of_cell? _ _ (hHeld.2))).trans (hHeld.2)
                    refine ⟨_, rfl, ?_⟩
                    have n0_ := Aside0.mk (Kd.R_below (by (with_reducible repeat (first | apply Kd.R_alloc | apply Kd.R_drewN | apply Kd.R_drew)); exact HO380.out) hb)
                    have n1_ := Aside0.mk (Kd.N_below (by (with_reducible repeat (first | apply Kd.N_alloc | apply Kd.N_drewN | apply Kd.N_drew)); exact HO383.out) hb)
                    have n2_ := Aside0.mk (Kd.N_below (by (with_reducible repeat (first | apply Kd.N_alloc | apply Kd.N_drewN | apply Kd.N_drew)); exact HO386.out) hb)
                    have n3_ := Aside0.mk (Kd.R_below (by (with_reducible repeat (first | apply Kd.R_alloc | apply Kd.R_drewN | apply Kd.R_drew)); exact HO392.out) hb)
                    have n4_ := Aside0.mk (Kd.R_below (by (with_reducible repeat (first | apply Kd.R_alloc | apply Kd.R_drewN | apply Kd.R_drew)); exact HO398.out) hb)
                    have n5_ := Aside0.mk (Kd.R_below (by (with_reducible repeat (first | apply Kd.R_alloc | apply Kd.R_drewN | apply Kd.R_drew)); exact HO404.out) hb)
                    have n6_ := Aside0.mk (Kd.N_below (by (with_reducible repeat (first | apply Kd.N_alloc | apply Kd.N_drewN | apply Kd.N_drew)); exact HO410.out) hb)
                    have n7_ := Aside0.mk (Kd.V_below (by (with_reducible repeat (first | apply Kd.V_alloc | apply Kd.V_drewN | apply Kd.V_drew)); exact HO413.out) hb)
                    have n8_ := Aside0.mk (Kd.V_below (by (with_reducible repeat (first | apply Kd.V_alloc | apply Kd.V_drewN | apply Kd.V_drew)); exact HL415_0.out) hb)
                    have n9_ := Aside0.mk (Kd.R_below (by (with_reducible repeat (first | apply Kd.R_alloc | apply Kd.R_drewN | apply Kd.R_drew)); exact HO418.out) hb)
                    have n10_ := Aside0.mk (Kd.N_below (by (with_reducible repeat (first | apply Kd.N_alloc | apply Kd.N_drewN | apply Kd.N_drew)); exact HO421.out) hb)
                    have n11_ := Aside0.mk (Kd.V_below (by (with_reducible repeat (first | apply Kd.V_alloc | apply Kd.V_drewN | apply Kd.V_drew)); exact HL423_0.out) hb)
                    have n12_ := Aside0.mk (Kd.R_below (by (with_reducible repeat (first | apply Kd.R_alloc | apply Kd.R_drewN | apply Kd.R_drew)); exact HO426.out) hb)
                    have n13_ := Aside0.mk (Kd.N_below (by (with_reducible repeat (first | apply Kd.N_alloc | apply Kd.N_drewN | apply Kd.N_drew)); exact HO429.out) hb)
                    have n14_ := Aside0.mk (Kd.R_below (by (with_reducible repeat (first | apply Kd.R_alloc | apply Kd.R_drewN | apply Kd.R_drew)); exact HO433.out) hb)
                    have n15_ := Aside0.mk (Kd.N_below (by (with_reducible repeat (first | apply Kd.N_alloc | apply Kd.N_drewN | apply Kd.N_drew)); exact HO436.out) hb)
                    have n16_ := Aside0.mk (Kd.C_below (by repeat (first | (with_reducible exact HR415_0.out) | (with_reducible refine Kd.C_alloc ?_ _) | (with_reducible refine Kd.C_drewN ?_ _) | (with_reducible refine Kd.C_drew ?_) | exact HR415_0.out)) hb)
                    have n17_ := Aside0.mk (Kd.C_below (by repeat (first | (with_reducible exact HR423_0.out) | (with_reducible refine Kd.C_alloc ?_ _) | (with_reducible refine Kd.C_drewN ?_ _) | (with_reducible refine Kd.C_drew ?_) | exact HR423_0.out)) hb)
                    have n18_ := Aside0.mk (below_step (by repeat (first | (with_reducible first | exact HB.out | apply below_alloc | apply pw_below_drewN | apply below_drew1) | exact HB.out)) hb)
                    clear HO380
                    clear HO383
                    clear HO386
                    clear HO392
                    clear HO398
                    clear HO404
                    clear HO410
                    clear HO413
                    clear HL415_0
                    clear HO418
                    clear HO421
                    clear HL423_0
                    clear HO426
                    clear HO429
                    clear HO433
                    clear HO436
                    clear HR415_0
                    clear HR423_0
                    clear HB
                    have HO380 := n0_
                    have HO383 := n1_
                    have HO386 := n2_
                    have HO392 := n3_
                    have HO398 := n4_
                    have HO404 := n5_
                    have HO410 := n6_
                    have HO413 := n7_
                    have HL415_0 := n8_
                    have HO418 := n9_
                    have HO421 := n10_
                    have HL423_0 := n11_
                    have HO426 := n12_
                    have HO429 := n13_
                    have HO433 := n14_
                    have HO436 := n15_
                    have HR415_0 := n16_
                    have HR423_0 := n17_
                    have HB := n18_
                    clear n0_ n1_ n2_ n3_ n4_ n5_ n6_ n7_ n8_ n9_ n10_ n11_ n12_ n13_ n14_ n15_ n16_ n17_ n18_
                    (try clear hb)
                    (try clear hb2)
                    (try clear hk)
                    (try clear hi)
                    refine hK.out _ _ ⟨HS0_, HS1_⟩ (fun hHeld => ?_)
                    clear hK K
                    refine norm_ (a' := ?_) ?_ ?_
                    rotate_left
                    · show Act.put _ (some 67) _ = _
                      simp only [Act.put, List.setIfInBounds_toArray, List.set_cons_zero, List.set_cons_succ, i64_w, i32_w]
                      rfl
                    refine pure_ (i := 40) (N := some 68) (v := ?_) (a' := ?_) #[true, true, true, true, true, true, true, true, true, true, true, true, true, true, true, true, true, true, true, true, true, true, true, true, true, true, true, true, true, true, true, true, true, true, true, true, true, true, true, true, true, false] rfl rfl (any_of HT_.out (by kernel_rfl)) (fun _ _ _ h => h) (Or.inl ⟨by rfl, ?_⟩) ?_ ?_
                    rotate_left
                    · intro w'
                      go_simp
                      with_reducible rfl
                    rotate_left
                    · simp only [Act.put, List.setIfInBounds_toArray, List.set_cons_zero, List.set_cons_succ, i64_w, i32_w]
                      rfl
                    refine pure_ (i := 41) (N := some 0) (v := ?_) (a' := ?_) #[true, true, true, true, true, true, true, true, true, true, true, true, true, true, true, true, true, true, true, true, true, true, true, true, true, true, true, true, true, true, true, true, true, true, true, true, true, true, true, true, true, true] rfl rfl (any_of HT_.out (by kernel_rfl)) (fun _ _ _ h => h) (Or.inl ⟨by rfl, ?_⟩) ?_ ?_
                    rotate_left
                    · intro w'
                      go_simp
                      with_reducible rfl
                    rotate_left
                    · simp only [Act.put, List.setIfInBounds_toArray, List.set_cons_zero, List.set_cons_succ, i64_w, i32_w]
                      rfl
                    refine done_ (done_of HT_.out (by kernel_rfl)) ?_
                    try go_wp2
                    go_ret
                    exact ⟨by first | rfl | (simp [errW_none, errW_some] <;> rfl) | (simp [*, errW_none, errW_some] <;> rfl), by repeat (first | (with_reducible first | exact HB.out | apply below_alloc | apply pw_below_drewN | apply below_drew1) | exact HB.out)⟩
                  · rw [if_neg c20] at H
                    have c20b0 : (t388 == 3) = false := beq_eq_false_iff_ne.mpr c20
                    have c20b1 : (t388 != 3) = true := bne_iff_ne.mpr c20
                    obtain rfl := Option.some.inj H
                    exact absurd hT.out (by simp)
                · replace c19 := Bool.eq_false_iff.mpr c19
                  subst c19
                  have H1 : (some false) = some r := by rw [if_neg (show ¬ (false = true) by decide)] at H; exact H
                  clear H
                  have H := H1
                  clear H1
                  obtain rfl := Option.some.inj H
                  exact absurd hT.out (by simp)
              · rw [if_neg c16] at H
                exact absurd H (by simp)
            · replace c15 := Bool.eq_false_iff.mpr c15
              subst c15
              have H1 : (some false) = some r := by rw [if_neg (show ¬ (false = true) by decide)] at H; exact H
              clear H
              have H := H1
              clear H1
              obtain rfl := Option.some.inj H
              exact absurd hT.out (by simp)
          · rw [if_neg c12] at H
            exact absurd H (by simp)
        · rw [if_neg c11] at H
          have c11b0 : ((t384.length : Int) == 2) = false := beq_eq_false_iff_ne.mpr c11
          have c11b1 : ((t384.length : Int) != 2) = true := bne_iff_ne.mpr c11
          obtain rfl := Option.some.inj H
          exact absurd hT.out (by simp)
      · rw [if_neg c10] at H
        have c10b0 : (t414 == 0) = false := beq_eq_false_iff_ne.mpr c10
        have c10b1 : (t414 != 0) = true := bne_iff_ne.mpr c10
        obtain rfl := Option.some.inj H
        exact absurd hT.out (by simp)
    · rw [if_neg c9] at H
      have c9b0 : (t389 == 0) = false := beq_eq_false_iff_ne.mpr c9
      have c9b1 : (t389 != 0) = true := bne_iff_ne.mpr c9
      obtain rfl := Option.some.inj H
      exact absurd hT.out (by simp)
  · rw [if_neg c8] at H
    have c8b0 : (t387 == 0) = false := beq_eq_false_iff_ne.mpr c8
    have c8b1 : (t387 != 0) = true := bne_iff_ne.mpr c8
    obtain rfl := Option.some.inj H
    exact absurd hT.out (by simp)

end Go.Proofs.YtakmkhokbcjapaaDoor.XA
end

section
namespace Go.Proofs.YtakmkhokbcjapaaDoor.XA
open Go.RowKit Go.Proofs.YtakmkhokbcjapaaDoorW.PrintWords Go.Proofs.YtakmkhokbcjapaaDoorW.PrintLast Go.Proofs.YtakmkhokbcjapaaDoorW.PrintMore
attribute [local go_sem] max2_int min2_int max_two min_two max_three min_three max_four min_four   -- for this text's walks alone
set_option linter.unusedVariables false
set_option linter.unusedSimpArgs false

/-! ### split_Enters: function 21 -/
def split_Enters.f (k : Nat) (a0 : Int) (a1 : Int) (a2 : Int) (a3 : Int) (a4 : Int) : Option (Bool × Int) := (split_Block.f k a0 a1 a2 a3).bind fun bt560 => (if bt560.2 = 0 then (if (mn a0 a1) > (mx a4 1) then (some (decide (bt560.1 < (mx a0 a1)), 0)) else (some (false, 0))) else (some (false, bt560.2)))
set_option maxHeartbeats 8000000 in
set_option maxRecDepth 100000 in
theorem split_Enters.calls (k : Nat) (a0 : Int) (a1 : Int) (a2 : Int) (a3 : Int) (a4 : Int) (r1 : Bool) (r2 : Int) (w : World) (h : split_Enters.f k a0 a1 a2 a3 a4 = some (r1, r2)) :
    Calls Tryd.prog 21 #[.int .i64 a0, .int .i64 a1, .int .i64 a2, .int .i64 a3, .int .i64 a4] w fun e w' => e = .returned (.tuple #[.bool r1, .int .i64 r2]) ∧ Below w.heap.size w w' := by
  have HB := Aside0.mk (Below.refl w.heap.size w)
  have H : ((split_Block.f k a0 a1 a2 a3).bind fun bt560 => (if bt560.2 = 0 then (if (mn a0 a1) > (mx a4 1) then (some (decide (bt560.1 < (mx a0 a1)), 0)) else (some (false, 0))) else (some (false, bt560.2)))) = some (r1, r2) := h
  clear h
  replace H := Option.bind_eq_some_iff.mp H
  obtain ⟨⟨t560, t561⟩, A60, H⟩ := H
  replace H : (if t561 = 0 then (if (mn a0 a1) > (mx a4 1) then (some (decide (t560 < (mx a0 a1)), 0)) else (some (false, 0))) else (some (false, t561))) = some (r1, r2) := H
  have A6 := Aside0.mk A60
  clear A60
  by_cases c7 : t561 = 0
  · rw [if_pos c7] at H
    have c7b0 : (t561 == 0) = true := beq_iff_eq.mpr c7
    have c7b1 : (t561 != 0) = false := bne_eq_false_iff_eq.mpr c7
    clear c7
    obtain ⟨ji8, hji8⟩ : ∃ j_ : Int, (mn a0 a1) = j_ := ⟨_, rfl⟩
    replace H : (if (ji8) > (mx a4 1) then (some (decide (t560 < (mx a0 a1)), 0)) else (some (false, 0))) = some (r1, r2) := by first | (rw [hji8] at H; exact H) | (simp only [hji8] at H ⊢; exact H)
    (try rw [hji8] at A6)
    have hji8_ : (if a1 < a0 then a1 else a0) = ji8 := hji8
    obtain ⟨ji9, hji9⟩ : ∃ j_ : Int, (mx a4 1) = j_ := ⟨_, rfl⟩
    replace H : (if (ji8) > (ji9) then (some (decide (t560 < (mx a0 a1)), 0)) else (some (false, 0))) = some (r1, r2) := by first | (rw [hji9] at H; exact H) | (simp only [hji9] at H ⊢; exact H)
    (try rw [hji9] at A6)
    (try (have hji9l : 1 ≤ ji9 := by (rw [← hji9]; unfold mx; (repeat' split) <;> omega)))
    (try (have hji9m : 0 ≤ ji9 := by omega))
    have hji9_ : (if a4 < 1 then 1 else a4) = ji9 := hji9
    by_cases c10 : (ji8) > (ji9)
    · rw [if_pos c10] at H
      have c10b0 : decide ((ji9) < (ji8)) = true := decide_eq_true c10
      clear c10
      obtain ⟨ji11, hji11⟩ : ∃ j_ : Int, (mx a0 a1) = j_ := ⟨_, rfl⟩
      replace H : (some (decide (t560 < (ji11)), 0)) = some (r1, r2) := by first | (rw [hji11] at H; exact H) | (simp only [hji11] at H ⊢; exact H)
      (try rw [hji11] at A6)
      have hji11_ : (if a0 < a1 then a1 else a0) = ji11 := hji11
      simp only [Option.some.injEq, Prod.mk.injEq] at H
      obtain ⟨rfl, rfl⟩ := H
      go_enter Tryd.func21, Tryd.ntmps21
      go_wp2_with (first | ((with_reducible refine gate_callee (f := 20) rfl ?_); refine goesL_ (some 19) rfl rfl Tryd.func20 (by kernel_rfl) rfl #[.int .i64 a0, .int .i64 a1, .int .i64 a2, .int .i64 a3] rfl (by (try simp only [List.map_toArray, List.map_cons, List.map_nil]); first | done | rfl | (simp only [List.length_drop, List.length_take]; rfl)) ?_; (with_reducible refine (split_Block.calls k a0 a1 a2 a3 t560 t561 _ A6.out).mono ?_); rintro e w12 ⟨rfl, hb⟩; refine ⟨_, rfl, ?_⟩; have n0_ := Aside0.mk (below_step (by repeat (first | (with_reducible first | exact HB.out | apply below_alloc | apply pw_below_drewN | apply below_drew1) | exact HB.out)) hb); clear HB; have HB := n0_; clear n0_; (try clear hb); (try clear hb2); (try clear hk); (try clear hi)))
      go_ret2
      exact ⟨by first | rfl | (simp [errW_none, errW_some] <;> rfl) | (simp only [← hji8, ← hji9, ← hji11]; first | rfl | (simp [errW_none, errW_some] <;> rfl)) | (simp [*, errW_none, errW_some] <;> rfl), by repeat (first | (with_reducible first | exact HB.out | apply below_alloc | apply pw_below_drewN | apply below_drew1) | exact HB.out)⟩
    · rw [if_neg c10] at H
      have c10b0 : decide ((ji9) < (ji8)) = false := decide_eq_false c10
      clear c10
      simp only [Option.some.injEq, Prod.mk.injEq] at H
      obtain ⟨rfl, rfl⟩ := H
      go_enter Tryd.func21, Tryd.ntmps21
      go_wp2_with (first | ((with_reducible refine gate_callee (f := 20) rfl ?_); refine goesL_ (some 19) rfl rfl Tryd.func20 (by kernel_rfl) rfl #[.int .i64 a0, .int .i64 a1, .int .i64 a2, .int .i64 a3] rfl (by (try simp only [List.map_toArray, List.map_cons, List.map_nil]); first | done | rfl | (simp only [List.length_drop, List.length_take]; rfl)) ?_; (with_reducible refine (split_Block.calls k a0 a1 a2 a3 t560 t561 _ A6.out).mono ?_); rintro e w13 ⟨rfl, hb⟩; refine ⟨_, rfl, ?_⟩; have n0_ := Aside0.mk (below_step (by repeat (first | (with_reducible first | exact HB.out | apply below_alloc | apply pw_below_drewN | apply below_drew1) | exact HB.out)) hb); clear HB; have HB := n0_; clear n0_; (try clear hb); (try clear hb2); (try clear hk); (try clear hi)))
      go_ret2
      exact ⟨by first | rfl | (simp [errW_none, errW_some] <;> rfl) | (simp only [← hji8, ← hji9]; first | rfl | (simp [errW_none, errW_some] <;> rfl)) | (simp [*, errW_none, errW_some] <;> rfl), by repeat (first | (with_reducible first | exact HB.out | apply below_alloc | apply pw_below_drewN | apply below_drew1) | exact HB.out)⟩
  · rw [if_neg c7] at H
    have c7b0 : (t561 == 0) = false := beq_eq_false_iff_ne.mpr c7
    have c7b1 : (t561 != 0) = true := bne_iff_ne.mpr c7
    simp only [Option.some.injEq, Prod.mk.injEq] at H
    obtain ⟨rfl, rfl⟩ := H
    go_enter Tryd.func21, Tryd.ntmps21
    go_wp2_with (first | ((with_reducible refine gate_callee (f := 20) rfl ?_); refine goesL_ (some 19) rfl rfl Tryd.func20 (by kernel_rfl) rfl #[.int .i64 a0, .int .i64 a1, .int .i64 a2, .int .i64 a3] rfl (by (try simp only [List.map_toArray, List.map_cons, List.map_nil]); first | done | rfl | (simp only [List.length_drop, List.length_take]; rfl)) ?_; (with_reducible refine (split_Block.calls k a0 a1 a2 a3 t560 t561 _ A6.out).mono ?_); rintro e w14 ⟨rfl, hb⟩; refine ⟨_, rfl, ?_⟩; have n0_ := Aside0.mk (below_step (by repeat (first | (with_reducible first | exact HB.out | apply below_alloc | apply pw_below_drewN | apply below_drew1) | exact HB.out)) hb); clear HB; have HB := n0_; clear n0_; (try clear hb); (try clear hb2); (try clear hk); (try clear hi)))
    go_ret2
    exact ⟨by first | rfl | (simp [errW_none, errW_some] <;> rfl) | (simp [*, errW_none, errW_some] <;> rfl), by repeat (first | (with_reducible first | exact HB.out | apply below_alloc | apply pw_below_drewN | apply below_drew1) | exact HB.out)⟩

/-! ### split_Depth: function 22 -/
mutual
def split_Depth.j0 : Nat → Int → Int → Int → Int → Int → Int → Bool → Option (Int × Int)
  | 0, _, _, _, _, _, _, _ => none
  | k + 1, x0, x1, x2, x3, x4, x13, x31 => if x31 = true then (some (0, x13)) else ((split_Block.f k x0 x1 x2 x3).bind fun bt564 => ((split_Depth.f k bt564.1 bt564.1 x2 x3 x4).bind fun bt566 => (some (wrap64 (bt566.1 + 1), bt566.2))))
def split_Depth.f : Nat → Int → Int → Int → Int → Int → Option (Int × Int)
  | 0, _, _, _, _, _ => none
  | k + 1, a0, a1, a2, a3, a4 => (split_Enters.f k a0 a1 a2 a3 a4).bind fun bt562 => (if bt562.2 = 0 then (split_Depth.j0 k a0 a1 a2 a3 a4 bt562.2 (!bt562.1)) else (split_Depth.j0 k a0 a1 a2 a3 a4 bt562.2 true))
end
set_option maxHeartbeats 8000000 in
set_option maxRecDepth 100000 in
theorem split_Depth.calls (k : Nat) : ∀ (a0 : Int) (a1 : Int) (a2 : Int) (a3 : Int) (a4 : Int) (r1 : Int) (r2 : Int) (w : World) (h : split_Depth.f k a0 a1 a2 a3 a4 = some (r1, r2)),
    Calls Tryd.prog 22 #[.int .i64 a0, .int .i64 a1, .int .i64 a2, .int .i64 a3, .int .i64 a4] w fun e w' => e = .returned (.tuple #[.int .i64 r1, .int .i64 r2]) ∧ Below w.heap.size w w' := by
  induction k using Nat.strongRecOn with
  | _ k ih =>
  intro a0 a1 a2 a3 a4 r1 r2 w h
  cases k with
  | zero => exact absurd h (by simp [split_Depth.f])
  | succ k =>
  simp only [split_Depth.f] at h
  have HB := Aside0.mk (Below.refl w.heap.size w)
  have H : ((split_Enters.f k a0 a1 a2 a3 a4).bind fun bt562 => (if bt562.2 = 0 then (split_Depth.j0 k a0 a1 a2 a3 a4 bt562.2 (!bt562.1)) else (split_Depth.j0 k a0 a1 a2 a3 a4 bt562.2 true))) = some (r1, r2) := h
  clear h
  replace H := Option.bind_eq_some_iff.mp H
  obtain ⟨⟨t562, t563⟩, A60, H⟩ := H
  replace H : (if t563 = 0 then (split_Depth.j0 k a0 a1 a2 a3 a4 t563 (!t562)) else (split_Depth.j0 k a0 a1 a2 a3 a4 t563 true)) = some (r1, r2) := H
  have A6 := Aside0.mk A60
  clear A60
  have HC7 := Aside0.mk H
  clear H
  go_enter Tryd.func22, Tryd.ntmps22
  go_upto_region 2 with (first | ((with_reducible refine gate_callee (f := 21) rfl ?_); refine goesL_ (some 23) rfl rfl Tryd.func21 (by kernel_rfl) rfl #[.int .i64 a0, .int .i64 a1, .int .i64 a2, .int .i64 a3, .int .i64 a4] rfl (by (try simp only [List.map_toArray, List.map_cons, List.map_nil]); first | done | rfl | (simp only [List.length_drop, List.length_take]; rfl)) ?_; (with_reducible refine (split_Enters.calls k a0 a1 a2 a3 a4 t562 t563 _ A6.out).mono ?_); rintro e w8 ⟨rfl, hb⟩; refine ⟨_, rfl, ?_⟩; have n0_ := Aside0.mk (below_step (by repeat (first | (with_reducible first | exact HB.out | apply below_alloc | apply pw_below_drewN | apply below_drew1) | exact HB.out)) hb); clear HB; have HB := n0_; clear n0_; (try clear hb); (try clear hb2); (try clear hk); (try clear hi)))
  (try simp only [Act.put, List.setIfInBounds_toArray, List.set_cons_zero, List.set_cons_succ])
  go_cut [31] (fun v31 wc => ∃ (kq : Nat) (x31_6 : Bool), v31 = .bool x31_6 ∧ Aside0 (split_Depth.j0 kq a0 a1 a2 a3 a4 t563 x31_6 = some (r1, r2)) ∧ Aside0 (kq ≤ k) ∧ Aside0 (Below w.heap.size w wc))
  case first =>
    have H := HC7.out
    clear HC7
    by_cases c9 : t563 = 0
    · rw [if_pos c9] at H
      have c9b0 : (t563 == 0) = true := beq_iff_eq.mpr c9
      have c9b1 : (t563 != 0) = false := bne_eq_false_iff_eq.mpr c9
      clear c9
      (first | rw [c9b0] | (simp only [i64_w, i32_w]; rw [c9b0]) | skip)
      have H' := Aside0.mk H
      clear H
      go_wp2
      go_meet
      case rel => exact ⟨_, (!t562), (by first | rfl | (simp; done) | (simp [*]; done)), H', ⟨by first | omega | exact Nat.le_refl _⟩, ⟨by repeat (first | (with_reducible first | exact HB.out | apply below_alloc | apply pw_below_drewN | apply below_drew1) | exact HB.out)⟩⟩
    · rw [if_neg c9] at H
      have c9b0 : (t563 == 0) = false := beq_eq_false_iff_ne.mpr c9
      have c9b1 : (t563 != 0) = true := bne_iff_ne.mpr c9
      (first | rw [c9b0] | (simp only [i64_w, i32_w]; rw [c9b0]) | skip)
      have H' := Aside0.mk H
      clear H
      go_wp2
      go_meet
      case rel => exact ⟨_, (true), (by first | rfl | (simp; done) | (simp [*]; done)), H', ⟨by first | omega | exact Nat.le_refl _⟩, ⟨by repeat (first | (with_reducible first | exact HB.out | apply below_alloc | apply pw_below_drewN | apply below_drew1) | exact HB.out)⟩⟩
  case rest =>
    clear HC7
    obtain ⟨kq, x31_6, rfl, HA, HJ6, HB⟩ := hcut
    cases kq with
    | zero => exact absurd HA.out (by simp [split_Depth.j0])
    | succ kj6 =>
      have H := HA.out
      clear HA
      simp only [split_Depth.j0] at H
      by_cases c10 : x31_6 = true
      · subst c10
        have H1 : (some (0, t563)) = some (r1, r2) := by rw [if_pos rfl] at H; exact H
        clear H
        have H := H1
        clear H1
        simp only [Option.some.injEq, Prod.mk.injEq] at H
        obtain ⟨rfl, rfl⟩ := H
        go_wp2
        go_ret2
        exact ⟨by first | rfl | (simp [errW_none, errW_some] <;> rfl) | (simp [*, errW_none, errW_some] <;> rfl), by repeat (first | (with_reducible first | exact HB.out | apply below_alloc | apply pw_below_drewN | apply below_drew1) | exact HB.out)⟩
      · replace c10 := Bool.eq_false_iff.mpr c10
        subst c10
        have H1 : ((split_Block.f kj6 a0 a1 a2 a3).bind fun bt564 => ((split_Depth.f kj6 bt564.1 bt564.1 a2 a3 a4).bind fun bt566 => (some (wrap64 (bt566.1 + 1), bt566.2)))) = some (r1, r2) := by rw [if_neg (show ¬ (false = true) by decide)] at H; exact H
        clear H
        have H := H1
        clear H1
        replace H := Option.bind_eq_some_iff.mp H
        obtain ⟨⟨t564, t565⟩, A110, H⟩ := H
        replace H : ((split_Depth.f kj6 t564 t564 a2 a3 a4).bind fun bt566 => (some (wrap64 (bt566.1 + 1), bt566.2))) = some (r1, r2) := H
        have A11 := Aside0.mk A110
        clear A110
        replace H := Option.bind_eq_some_iff.mp H
        obtain ⟨⟨t566, t567⟩, A120, H⟩ := H
        replace H : (some (wrap64 (t566 + 1), t567)) = some (r1, r2) := H
        have A12 := Aside0.mk A120
        clear A120
        simp only [Option.some.injEq, Prod.mk.injEq] at H
        obtain ⟨rfl, rfl⟩ := H
        go_wp2_with (first | ((with_reducible refine gate_callee (f := 20) rfl ?_); refine goesL_ (some 38) rfl rfl Tryd.func20 (by kernel_rfl) rfl #[.int .i64 a0, .int .i64 a1, .int .i64 a2, .int .i64 a3] rfl (by (try simp only [List.map_toArray, List.map_cons, List.map_nil]); first | done | rfl | (simp only [List.length_drop, List.length_take]; rfl)) ?_; (with_reducible refine (split_Block.calls kj6 a0 a1 a2 a3 t564 t565 _ A11.out).mono ?_); rintro e w13 ⟨rfl, hb⟩; refine ⟨_, rfl, ?_⟩; have n0_ := Aside0.mk (below_step (by repeat (first | (with_reducible first | exact HB.out | apply below_alloc | apply pw_below_drewN | apply below_drew1) | exact HB.out)) hb); clear HB; have HB := n0_; clear n0_; (try clear hb); (try clear hb2); (try clear hk); (try clear hi)) | ((with_reducible refine gate_callee (f := 22) rfl ?_); refine goesL_ (some 47) rfl rfl Tryd.func22 (by kernel_rfl) rfl #[.int .i64 t564, .int .i64 t564, .int .i64 a2, .int .i64 a3, .int .i64 a4] rfl (by (try simp only [List.map_toArray, List.map_cons, List.map_nil]); first | done | rfl | (simp only [List.length_drop, List.length_take]; rfl)) ?_; (with_reducible refine (ih kj6 (by have := HJ6.out; omega) t564 t564 a2 a3 a4 t566 t567 _ A12.out).mono ?_); rintro e w14 ⟨rfl, hb⟩; refine ⟨_, rfl, ?_⟩; have n0_ := Aside0.mk (below_step (by repeat (first | (with_reducible first | exact HB.out | apply below_alloc | apply pw_below_drewN | apply below_drew1) | exact HB.out)) hb); clear HB; have HB := n0_; clear n0_; (try clear hb); (try clear hb2); (try clear hk); (try clear hi)))
        go_ret2
        exact ⟨by first | rfl | (simp [errW_none, errW_some] <;> rfl) | (simp [*, errW_none, errW_some] <;> rfl), by repeat (first | (with_reducible first | exact HB.out | apply below_alloc | apply pw_below_drewN | apply below_drew1) | exact HB.out)⟩

end Go.Proofs.YtakmkhokbcjapaaDoor.XA
end

section
namespace Go.Proofs.YtakmkhokbcjapaaDoor.XA
open Go.RowKit Go.Proofs.YtakmkhokbcjapaaDoorW.PrintWords Go.Proofs.YtakmkhokbcjapaaDoorW.PrintLast Go.Proofs.YtakmkhokbcjapaaDoorW.PrintMore
attribute [local go_sem] max2_int min2_int max_two min_two max_three min_three max_four min_four   -- for this text's walks alone
set_option linter.unusedVariables false
set_option linter.unusedSimpArgs false

/-! ### swagelaw21_SplitEnds: function 8 -/
def swagelaw21_SplitEnds.j0 : Nat → Int → Int → Int → Int → Int → Int → Bool → Bool → Option (Bool)
  | 0, _, _, _, _, _, _, _, _ => none
  | k + 1, x0, x1, x2, x3, x4, x5, x15, x102 => if x102 = true then (some false) else (if x5 < x4 then (some true) else ((split_Enters.f k x0 x1 x2 x3 x5).bind fun bt705 => (if bt705.2 = 0 then (if x15 = true then (some true) else (some (!bt705.1))) else (some false))))
def swagelaw21_SplitEnds.f (k : Nat) (a0 : Int) (a1 : Int) (a2 : Int) (a3 : Int) (a4 : Int) (a5 : Int) : Option (Bool) := (swagelaw21_works.f k).bind fun t698 => (if t698 = true then ((split_Block.f k a0 a1 a2 a3).bind fun bt699 => ((split_Enters.f k a0 a1 a2 a3 a4).bind fun bt701 => ((split_Depth.f k a0 a1 a2 a3 a4).bind fun bt703 => (if bt699.2 = 0 then (if bt701.2 = 0 then (if bt703.2 = 0 then (if ((decide (bt703.1 > 0)) != bt701.1) = true then (swagelaw21_SplitEnds.j0 k a0 a1 a2 a3 a4 a5 bt701.1 true) else (if bt703.1 > 0 then (if bt703.1 ≥ (mx a0 a1) then (swagelaw21_SplitEnds.j0 k a0 a1 a2 a3 a4 a5 bt701.1 true) else (if bt701.1 = true then (if bt699.1 < 1 then (swagelaw21_SplitEnds.j0 k a0 a1 a2 a3 a4 a5 bt701.1 true) else (if bt699.1 ≥ (mx a0 a1) then (swagelaw21_SplitEnds.j0 k a0 a1 a2 a3 a4 a5 bt701.1 true) else (if a2 = 1 then (swagelaw21_SplitEnds.j0 k a0 a1 a2 a3 a4 a5 bt701.1 (a3 == 1)) else (swagelaw21_SplitEnds.j0 k a0 a1 a2 a3 a4 a5 bt701.1 false)))) else (swagelaw21_SplitEnds.j0 k a0 a1 a2 a3 a4 a5 bt701.1 false))) else (if bt701.1 = true then (if bt699.1 < 1 then (swagelaw21_SplitEnds.j0 k a0 a1 a2 a3 a4 a5 bt701.1 true) else (if bt699.1 ≥ (mx a0 a1) then (swagelaw21_SplitEnds.j0 k a0 a1 a2 a3 a4 a5 bt701.1 true) else (if a2 = 1 then (swagelaw21_SplitEnds.j0 k a0 a1 a2 a3 a4 a5 bt701.1 (a3 == 1)) else (swagelaw21_SplitEnds.j0 k a0 a1 a2 a3 a4 a5 bt701.1 false)))) else (swagelaw21_SplitEnds.j0 k a0 a1 a2 a3 a4 a5 bt701.1 false)))) else (swagelaw21_SplitEnds.j0 k a0 a1 a2 a3 a4 a5 bt701.1 true)) else (swagelaw21_SplitEnds.j0 k a0 a1 a2 a3 a4 a5 bt701.1 true)) else (if bt701.2 = bt699.2 then (some (bt703.2 == bt699.2)) else (some false)))))) else (some false))
set_option maxHeartbeats 8000000 in
set_option maxRecDepth 100000 in
theorem swagelaw21_SplitEnds.calls (k : Nat) (a0 : Int) (a1 : Int) (a2 : Int) (a3 : Int) (a4 : Int) (a5 : Int) (r : Bool) (w : World) (hT : Aside0 (r = true)) (h : swagelaw21_SplitEnds.f k a0 a1 a2 a3 a4 a5 = some r) :
    Calls Tryd.prog 8 #[.int .i64 a0, .int .i64 a1, .int .i64 a2, .int .i64 a3, .int .i64 a4, .int .i64 a5] w fun e w' => e = .returned (.bool r) ∧ Below w.heap.size w w' := by
  have HB := Aside0.mk (Below.refl w.heap.size w)
  have H : ((swagelaw21_works.f k).bind fun t698 => (if t698 = true then ((split_Block.f k a0 a1 a2 a3).bind fun bt699 => ((split_Enters.f k a0 a1 a2 a3 a4).bind fun bt701 => ((split_Depth.f k a0 a1 a2 a3 a4).bind fun bt703 => (if bt699.2 = 0 then (if bt701.2 = 0 then (if bt703.2 = 0 then (if ((decide (bt703.1 > 0)) != bt701.1) = true then (swagelaw21_SplitEnds.j0 k a0 a1 a2 a3 a4 a5 bt701.1 true) else (if bt703.1 > 0 then (if bt703.1 ≥ (mx a0 a1) then (swagelaw21_SplitEnds.j0 k a0 a1 a2 a3 a4 a5 bt701.1 true) else (if bt701.1 = true then (if bt699.1 < 1 then (swagelaw21_SplitEnds.j0 k a0 a1 a2 a3 a4 a5 bt701.1 true) else (if bt699.1 ≥ (mx a0 a1) then (swagelaw21_SplitEnds.j0 k a0 a1 a2 a3 a4 a5 bt701.1 true) else (if a2 = 1 then (swagelaw21_SplitEnds.j0 k a0 a1 a2 a3 a4 a5 bt701.1 (a3 == 1)) else (swagelaw21_SplitEnds.j0 k a0 a1 a2 a3 a4 a5 bt701.1 false)))) else (swagelaw21_SplitEnds.j0 k a0 a1 a2 a3 a4 a5 bt701.1 false))) else (if bt701.1 = true then (if bt699.1 < 1 then (swagelaw21_SplitEnds.j0 k a0 a1 a2 a3 a4 a5 bt701.1 true) else (if bt699.1 ≥ (mx a0 a1) then (swagelaw21_SplitEnds.j0 k a0 a1 a2 a3 a4 a5 bt701.1 true) else (if a2 = 1 then (swagelaw21_SplitEnds.j0 k a0 a1 a2 a3 a4 a5 bt701.1 (a3 == 1)) else (swagelaw21_SplitEnds.j0 k a0 a1 a2 a3 a4 a5 bt701.1 false)))) else (swagelaw21_SplitEnds.j0 k a0 a1 a2 a3 a4 a5 bt701.1 false)))) else (swagelaw21_SplitEnds.j0 k a0 a1 a2 a3 a4 a5 bt701.1 true)) else (swagelaw21_SplitEnds.j0 k a0 a1 a2 a3 a4 a5 bt701.1 true)) else (if bt701.2 = bt699.2 then (some (bt703.2 == bt699.2)) else (some false)))))) else (some false))) = some r := h
  clear h
  replace H := Option.bind_eq_some_iff.mp H
  obtain ⟨t698, A70, H⟩ := H
  replace H : (if t698 = true then ((split_Block.f k a0 a1 a2 a3).bind fun bt699 => ((split_Enters.f k a0 a1 a2 a3 a4).bind fun bt701 => ((split_Depth.f k a0 a1 a2 a3 a4).bind fun bt703 => (if bt699.2 = 0 then (if bt701.2 = 0 then (if bt703.2 = 0 then (if ((decide (bt703.1 > 0)) != bt701.1) = true then (swagelaw21_SplitEnds.j0 k a0 a1 a2 a3 a4 a5 bt701.1 true) else (if bt703.1 > 0 then (if bt703.1 ≥ (mx a0 a1) then (swagelaw21_SplitEnds.j0 k a0 a1 a2 a3 a4 a5 bt701.1 true) else (if bt701.1 = true then (if bt699.1 < 1 then (swagelaw21_SplitEnds.j0 k a0 a1 a2 a3 a4 a5 bt701.1 true) else (if bt699.1 ≥ (mx a0 a1) then (swagelaw21_SplitEnds.j0 k a0 a1 a2 a3 a4 a5 bt701.1 true) else (if a2 = 1 then (swagelaw21_SplitEnds.j0 k a0 a1 a2 a3 a4 a5 bt701.1 (a3 == 1)) else (swagelaw21_SplitEnds.j0 k a0 a1 a2 a3 a4 a5 bt701.1 false)))) else (swagelaw21_SplitEnds.j0 k a0 a1 a2 a3 a4 a5 bt701.1 false))) else (if bt701.1 = true then (if bt699.1 < 1 then (swagelaw21_SplitEnds.j0 k a0 a1 a2 a3 a4 a5 bt701.1 true) else (if bt699.1 ≥ (mx a0 a1) then (swagelaw21_SplitEnds.j0 k a0 a1 a2 a3 a4 a5 bt701.1 true) else (if a2 = 1 then (swagelaw21_SplitEnds.j0 k a0 a1 a2 a3 a4 a5 bt701.1 (a3 == 1)) else (swagelaw21_SplitEnds.j0 k a0 a1 a2 a3 a4 a5 bt701.1 false)))) else (swagelaw21_SplitEnds.j0 k a0 a1 a2 a3 a4 a5 bt701.1 false)))) else (swagelaw21_SplitEnds.j0 k a0 a1 a2 a3 a4 a5 bt701.1 true)) else (swagelaw21_SplitEnds.j0 k a0 a1 a2 a3 a4 a5 bt701.1 true)) else (if bt701.2 = bt699.2 then (some (bt703.2 == bt699.2)) else (some false)))))) else (some false)) = some r := H
  have A7 := Aside0.mk A70
  clear A70
  by_cases c8 : t698 = true
  · subst c8
    have H1 : ((split_Block.f k a0 a1 a2 a3).bind fun bt699 => ((split_Enters.f k a0 a1 a2 a3 a4).bind fun bt701 => ((split_Depth.f k a0 a1 a2 a3 a4).bind fun bt703 => (if bt699.2 = 0 then (if bt701.2 = 0 then (if bt703.2 = 0 then (if ((decide (bt703.1 > 0)) != bt701.1) = true then (swagelaw21_SplitEnds.j0 k a0 a1 a2 a3 a4 a5 bt701.1 true) else (if bt703.1 > 0 then (if bt703.1 ≥ (mx a0 a1) then (swagelaw21_SplitEnds.j0 k a0 a1 a2 a3 a4 a5 bt701.1 true) else (if bt701.1 = true then (if bt699.1 < 1 then (swagelaw21_SplitEnds.j0 k a0 a1 a2 a3 a4 a5 bt701.1 true) else (if bt699.1 ≥ (mx a0 a1) then (swagelaw21_SplitEnds.j0 k a0 a1 a2 a3 a4 a5 bt701.1 true) else (if a2 = 1 then (swagelaw21_SplitEnds.j0 k a0 a1 a2 a3 a4 a5 bt701.1 (a3 == 1)) else (swagelaw21_SplitEnds.j0 k a0 a1 a2 a3 a4 a5 bt701.1 false)))) else (swagelaw21_SplitEnds.j0 k a0 a1 a2 a3 a4 a5 bt701.1 false))) else (if bt701.1 = true then (if bt699.1 < 1 then (swagelaw21_SplitEnds.j0 k a0 a1 a2 a3 a4 a5 bt701.1 true) else (if bt699.1 ≥ (mx a0 a1) then (swagelaw21_SplitEnds.j0 k a0 a1 a2 a3 a4 a5 bt701.1 true) else (if a2 = 1 then (swagelaw21_SplitEnds.j0 k a0 a1 a2 a3 a4 a5 bt701.1 (a3 == 1)) else (swagelaw21_SplitEnds.j0 k a0 a1 a2 a3 a4 a5 bt701.1 false)))) else (swagelaw21_SplitEnds.j0 k a0 a1 a2 a3 a4 a5 bt701.1 false)))) else (swagelaw21_SplitEnds.j0 k a0 a1 a2 a3 a4 a5 bt701.1 true)) else (swagelaw21_SplitEnds.j0 k a0 a1 a2 a3 a4 a5 bt701.1 true)) else (if bt701.2 = bt699.2 then (some (bt703.2 == bt699.2)) else (some false)))))) = some r := by rw [if_pos rfl] at H; exact H
    clear H
    have H := H1
    clear H1
    replace H := Option.bind_eq_some_iff.mp H
    obtain ⟨⟨t699, t700⟩, A90, H⟩ := H
    replace H : ((split_Enters.f k a0 a1 a2 a3 a4).bind fun bt701 => ((split_Depth.f k a0 a1 a2 a3 a4).bind fun bt703 => (if t700 = 0 then (if bt701.2 = 0 then (if bt703.2 = 0 then (if ((decide (bt703.1 > 0)) != bt701.1) = true then (swagelaw21_SplitEnds.j0 k a0 a1 a2 a3 a4 a5 bt701.1 true) else (if bt703.1 > 0 then (if bt703.1 ≥ (mx a0 a1) then (swagelaw21_SplitEnds.j0 k a0 a1 a2 a3 a4 a5 bt701.1 true) else (if bt701.1 = true then (if t699 < 1 then (swagelaw21_SplitEnds.j0 k a0 a1 a2 a3 a4 a5 bt701.1 true) else (if t699 ≥ (mx a0 a1) then (swagelaw21_SplitEnds.j0 k a0 a1 a2 a3 a4 a5 bt701.1 true) else (if a2 = 1 then (swagelaw21_SplitEnds.j0 k a0 a1 a2 a3 a4 a5 bt701.1 (a3 == 1)) else (swagelaw21_SplitEnds.j0 k a0 a1 a2 a3 a4 a5 bt701.1 false)))) else (swagelaw21_SplitEnds.j0 k a0 a1 a2 a3 a4 a5 bt701.1 false))) else (if bt701.1 = true then (if t699 < 1 then (swagelaw21_SplitEnds.j0 k a0 a1 a2 a3 a4 a5 bt701.1 true) else (if t699 ≥ (mx a0 a1) then (swagelaw21_SplitEnds.j0 k a0 a1 a2 a3 a4 a5 bt701.1 true) else (if a2 = 1 then (swagelaw21_SplitEnds.j0 k a0 a1 a2 a3 a4 a5 bt701.1 (a3 == 1)) else (swagelaw21_SplitEnds.j0 k a0 a1 a2 a3 a4 a5 bt701.1 false)))) else (swagelaw21_SplitEnds.j0 k a0 a1 a2 a3 a4 a5 bt701.1 false)))) else (swagelaw21_SplitEnds.j0 k a0 a1 a2 a3 a4 a5 bt701.1 true)) else (swagelaw21_SplitEnds.j0 k a0 a1 a2 a3 a4 a5 bt701.1 true)) else (if bt701.2 = t700 then (some (bt703.2 == t700)) else (some false))))) = some r := H
    have A9 := Aside0.mk A90
    clear A90
    replace H := Option.bind_eq_some_iff.mp H
    obtain ⟨⟨t701, t702⟩, A100, H⟩ := H
    replace H : ((split_Depth.f k a0 a1 a2 a3 a4).bind fun bt703 => (if t700 = 0 then (if t702 = 0 then (if bt703.2 = 0 then (if ((decide (bt703.1 > 0)) != t701) = true then (swagelaw21_SplitEnds.j0 k a0 a1 a2 a3 a4 a5 t701 true) else (if bt703.1 > 0 then (if bt703.1 ≥ (mx a0 a1) then (swagelaw21_SplitEnds.j0 k a0 a1 a2 a3 a4 a5 t701 true) else (if t701 = true then (if t699 < 1 then (swagelaw21_SplitEnds.j0 k a0 a1 a2 a3 a4 a5 t701 true) else (if t699 ≥ (mx a0 a1) then (swagelaw21_SplitEnds.j0 k a0 a1 a2 a3 a4 a5 t701 true) else (if a2 = 1 then (swagelaw21_SplitEnds.j0 k a0 a1 a2 a3 a4 a5 t701 (a3 == 1)) else (swagelaw21_SplitEnds.j0 k a0 a1 a2 a3 a4 a5 t701 false)))) else (swagelaw21_SplitEnds.j0 k a0 a1 a2 a3 a4 a5 t701 false))) else (if t701 = true then (if t699 < 1 then (swagelaw21_SplitEnds.j0 k a0 a1 a2 a3 a4 a5 t701 true) else (if t699 ≥ (mx a0 a1) then (swagelaw21_SplitEnds.j0 k a0 a1 a2 a3 a4 a5 t701 true) else (if a2 = 1 then (swagelaw21_SplitEnds.j0 k a0 a1 a2 a3 a4 a5 t701 (a3 == 1)) else (swagelaw21_SplitEnds.j0 k a0 a1 a2 a3 a4 a5 t701 false)))) else (swagelaw21_SplitEnds.j0 k a0 a1 a2 a3 a4 a5 t701 false)))) else (swagelaw21_SplitEnds.j0 k a0 a1 a2 a3 a4 a5 t701 true)) else (swagelaw21_SplitEnds.j0 k a0 a1 a2 a3 a4 a5 t701 true)) else (if t702 = t700 then (some (bt703.2 == t700)) else (some false)))) = some r := H
    have A10 := Aside0.mk A100
    clear A100
    replace H := Option.bind_eq_some_iff.mp H
    obtain ⟨⟨t703, t704⟩, A110, H⟩ := H
    replace H : (if t700 = 0 then (if t702 = 0 then (if t704 = 0 then (if ((decide (t703 > 0)) != t701) = true then (swagelaw21_SplitEnds.j0 k a0 a1 a2 a3 a4 a5 t701 true) else (if t703 > 0 then (if t703 ≥ (mx a0 a1) then (swagelaw21_SplitEnds.j0 k a0 a1 a2 a3 a4 a5 t701 true) else (if t701 = true then (if t699 < 1 then (swagelaw21_SplitEnds.j0 k a0 a1 a2 a3 a4 a5 t701 true) else (if t699 ≥ (mx a0 a1) then (swagelaw21_SplitEnds.j0 k a0 a1 a2 a3 a4 a5 t701 true) else (if a2 = 1 then (swagelaw21_SplitEnds.j0 k a0 a1 a2 a3 a4 a5 t701 (a3 == 1)) else (swagelaw21_SplitEnds.j0 k a0 a1 a2 a3 a4 a5 t701 false)))) else (swagelaw21_SplitEnds.j0 k a0 a1 a2 a3 a4 a5 t701 false))) else (if t701 = true then (if t699 < 1 then (swagelaw21_SplitEnds.j0 k a0 a1 a2 a3 a4 a5 t701 true) else (if t699 ≥ (mx a0 a1) then (swagelaw21_SplitEnds.j0 k a0 a1 a2 a3 a4 a5 t701 true) else (if a2 = 1 then (swagelaw21_SplitEnds.j0 k a0 a1 a2 a3 a4 a5 t701 (a3 == 1)) else (swagelaw21_SplitEnds.j0 k a0 a1 a2 a3 a4 a5 t701 false)))) else (swagelaw21_SplitEnds.j0 k a0 a1 a2 a3 a4 a5 t701 false)))) else (swagelaw21_SplitEnds.j0 k a0 a1 a2 a3 a4 a5 t701 true)) else (swagelaw21_SplitEnds.j0 k a0 a1 a2 a3 a4 a5 t701 true)) else (if t702 = t700 then (some (t704 == t700)) else (some false))) = some r := H
    have A11 := Aside0.mk A110
    clear A110
    by_cases c12 : t700 = 0
    · rw [if_pos c12] at H
      have c12b0 : (t700 == 0) = true := beq_iff_eq.mpr c12
      have c12b1 : (t700 != 0) = false := bne_eq_false_iff_eq.mpr c12
      clear c12
      have HC13 := Aside0.mk H
      clear H
      go_enter Tryd.func8, Tryd.ntmps8
      go_upto_region 8 with (first | ((with_reducible refine gate_callee (f := 10) rfl ?_); refine goesL_ (some 20) rfl rfl Tryd.func10 (by kernel_rfl) rfl #[] rfl (by (try simp only [List.map_toArray, List.map_cons, List.map_nil]); first | done | rfl | (simp only [List.length_drop, List.length_take]; rfl)) ?_; (with_reducible refine (swagelaw21_works.calls k  true _ A7.out).mono ?_); rintro e w14 ⟨rfl, hb⟩; refine ⟨_, rfl, ?_⟩; have n0_ := Aside0.mk (below_step (by repeat (first | (with_reducible first | exact HB.out | apply below_alloc | apply pw_below_drewN | apply below_drew1) | exact HB.out)) hb); clear HB; have HB := n0_; clear n0_; (try clear hb); (try clear hb2); (try clear hk); (try clear hi)) | ((with_reducible refine gate_callee (f := 20) rfl ?_); refine goesL_ (some 27) rfl rfl Tryd.func20 (by kernel_rfl) rfl #[.int .i64 a0, .int .i64 a1, .int .i64 a2, .int .i64 a3] rfl (by (try simp only [List.map_toArray, List.map_cons, List.map_nil]); first | done | rfl | (simp only [List.length_drop, List.length_take]; rfl)) ?_; (with_reducible refine (split_Block.calls k a0 a1 a2 a3 t699 t700 _ A9.out).mono ?_); rintro e w15 ⟨rfl, hb⟩; refine ⟨_, rfl, ?_⟩; have n0_ := Aside0.mk (below_step (by repeat (first | (with_reducible first | exact HB.out | apply below_alloc | apply pw_below_drewN | apply below_drew1) | exact HB.out)) hb); clear HB; have HB := n0_; clear n0_; (try clear hb); (try clear hb2); (try clear hk); (try clear hi)) | ((with_reducible refine gate_callee (f := 21) rfl ?_); refine goesL_ (some 36) rfl rfl Tryd.func21 (by kernel_rfl) rfl #[.int .i64 a0, .int .i64 a1, .int .i64 a2, .int .i64 a3, .int .i64 a4] rfl (by (try simp only [List.map_toArray, List.map_cons, List.map_nil]); first | done | rfl | (simp only [List.length_drop, List.length_take]; rfl)) ?_; (with_reducible refine (split_Enters.calls k a0 a1 a2 a3 a4 t701 t702 _ A10.out).mono ?_); rintro e w16 ⟨rfl, hb⟩; refine ⟨_, rfl, ?_⟩; have n0_ := Aside0.mk (below_step (by repeat (first | (with_reducible first | exact HB.out | apply below_alloc | apply pw_below_drewN | apply below_drew1) | exact HB.out)) hb); clear HB; have HB := n0_; clear n0_; (try clear hb); (try clear hb2); (try clear hk); (try clear hi)) | ((with_reducible refine gate_callee (f := 22) rfl ?_); refine goesL_ (some 45) rfl rfl Tryd.func22 (by kernel_rfl) rfl #[.int .i64 a0, .int .i64 a1, .int .i64 a2, .int .i64 a3, .int .i64 a4] rfl (by (try simp only [List.map_toArray, List.map_cons, List.map_nil]); first | done | rfl | (simp only [List.length_drop, List.length_take]; rfl)) ?_; (with_reducible refine (split_Depth.calls k a0 a1 a2 a3 a4 t703 t704 _ A11.out).mono ?_); rintro e w17 ⟨rfl, hb⟩; refine ⟨_, rfl, ?_⟩; have n0_ := Aside0.mk (below_step (by repeat (first | (with_reducible first | exact HB.out | apply below_alloc | apply pw_below_drewN | apply below_drew1) | exact HB.out)) hb); clear HB; have HB := n0_; clear n0_; (try clear hb); (try clear hb2); (try clear hk); (try clear hi)))
      (try simp only [Act.put, List.setIfInBounds_toArray, List.set_cons_zero, List.set_cons_succ])
      go_cut [102] (fun v102 wc => ∃ (kq : Nat) (x102_12 : Bool), v102 = .bool x102_12 ∧ Aside0 (swagelaw21_SplitEnds.j0 kq a0 a1 a2 a3 a4 a5 t701 x102_12 = some r) ∧ Aside0 (kq ≤ k) ∧ Aside0 (Below w.heap.size w wc))
      case first =>
        have H := HC13.out
        clear HC13
        by_cases c18 : t702 = 0
        · rw [if_pos c18] at H
          have c18b0 : (t702 == 0) = true := beq_iff_eq.mpr c18
          have c18b1 : (t702 != 0) = false := bne_eq_false_iff_eq.mpr c18
          clear c18
          (first | rw [c18b0] | (simp only [i64_w, i32_w]; rw [c18b0]) | skip)
          by_cases c19 : t704 = 0
          · rw [if_pos c19] at H
            have c19b0 : (t704 == 0) = true := beq_iff_eq.mpr c19
            have c19b1 : (t704 != 0) = false := bne_eq_false_iff_eq.mpr c19
            clear c19
            by_cases c20 : ((decide (t703 > 0)) != t701) = true
            · rw [if_pos c20] at H
              have c20b0 : ((decide (t703 > 0)) != t701) = true := c20
              (try (have c20b1 : decide ((decide (t703 > 0)) = t701) = false := by simpa using c20))
              (try (have c20b2 : ((decide (t703 > 0)) == t701) = false := by simpa using c20))
              (try (have c20b3 : ¬ ((decide (t703 > 0)) = t701) := by simpa using c20))
              clear c20
              have H' := Aside0.mk H
              clear H
              go_wp2
              go_meet
              case rel => exact ⟨_, (true), (by first | rfl | (simp; done) | (simp [*]; done)), H', ⟨by first | omega | exact Nat.le_refl _⟩, ⟨by repeat (first | (with_reducible first | exact HB.out | apply below_alloc | apply pw_below_drewN | apply below_drew1) | exact HB.out)⟩⟩
            · rw [if_neg c20] at H
              have c20b0 : ((decide (t703 > 0)) != t701) = false := by simpa using c20
              (try (have c20b1 : decide ((decide (t703 > 0)) = t701) = true := by simpa using c20))
              (try (have c20b2 : ((decide (t703 > 0)) == t701) = true := by simpa using c20))
              clear c20
              by_cases c21 : t703 > 0
              · rw [if_pos c21] at H
                have c21b0 : decide (0 < t703) = true := decide_eq_true c21
                clear c21
                obtain ⟨ji22, hji22⟩ : ∃ j_ : Int, (mx a0 a1) = j_ := ⟨_, rfl⟩
                replace H : (if t703 ≥ (ji22) then (swagelaw21_SplitEnds.j0 k a0 a1 a2 a3 a4 a5 t701 true) else (if t701 = true then (if t699 < 1 then (swagelaw21_SplitEnds.j0 k a0 a1 a2 a3 a4 a5 t701 true) else (if t699 ≥ (ji22) then (swagelaw21_SplitEnds.j0 k a0 a1 a2 a3 a4 a5 t701 true) else (if a2 = 1 then (swagelaw21_SplitEnds.j0 k a0 a1 a2 a3 a4 a5 t701 (a3 == 1)) else (swagelaw21_SplitEnds.j0 k a0 a1 a2 a3 a4 a5 t701 false)))) else (swagelaw21_SplitEnds.j0 k a0 a1 a2 a3 a4 a5 t701 false))) = some r := by first | (rw [hji22] at H; exact H) | (simp only [hji22] at H ⊢; exact H)
                have hji22_ : (if a0 < a1 then a1 else a0) = ji22 := hji22
                by_cases c23 : t703 ≥ (ji22)
                · rw [if_pos c23] at H
                  have c23b0 : decide ((ji22) ≤ t703) = true := decide_eq_true c23
                  clear c23
                  have H' := Aside0.mk H
                  clear H
                  (first | ((have hq_ : t701 = true := by simpa [c21b0] using c20b0); subst hq_) | ((have hq_ : t701 = false := by simpa [c21b0] using c20b0); subst hq_) | skip)
                  go_wp2
                  go_meet
                  case rel => exact ⟨_, (true), (by first | rfl | (simp; done) | (exfalso; revert c20b0; simp [c21b0]; done) | (simp [*]; done)), H', ⟨by first | omega | exact Nat.le_refl _⟩, ⟨by repeat (first | (with_reducible first | exact HB.out | apply below_alloc | apply pw_below_drewN | apply below_drew1) | exact HB.out)⟩⟩
                · rw [if_neg c23] at H
                  have c23b0 : decide ((ji22) ≤ t703) = false := decide_eq_false c23
                  clear c23
                  by_cases c24 : t701 = true
                  · subst c24
                    have H1 : (if t699 < 1 then (swagelaw21_SplitEnds.j0 k a0 a1 a2 a3 a4 a5 true true) else (if t699 ≥ (ji22) then (swagelaw21_SplitEnds.j0 k a0 a1 a2 a3 a4 a5 true true) else (if a2 = 1 then (swagelaw21_SplitEnds.j0 k a0 a1 a2 a3 a4 a5 true (a3 == 1)) else (swagelaw21_SplitEnds.j0 k a0 a1 a2 a3 a4 a5 true false)))) = some r := by rw [if_pos rfl] at H; exact H
                    clear H
                    have H := H1
                    clear H1
                    by_cases c25 : t699 < 1
                    · rw [if_pos c25] at H
                      have c25b0 : decide (t699 < 1) = true := decide_eq_true c25
                      clear c25
                      have H' := Aside0.mk H
                      clear H
                      (first | ((have hq_ : t701 = true := by simpa [c21b0] using c20b0); subst hq_) | ((have hq_ : t701 = false := by simpa [c21b0] using c20b0); subst hq_) | skip)
                      go_wp2
                      go_meet
                      case rel => exact ⟨_, (true), (by first | rfl | (simp; done) | (exfalso; revert c20b0; simp [c21b0]; done) | (simp [*]; done)), H', ⟨by first | omega | exact Nat.le_refl _⟩, ⟨by repeat (first | (with_reducible first | exact HB.out | apply below_alloc | apply pw_below_drewN | apply below_drew1) | exact HB.out)⟩⟩
                    · rw [if_neg c25] at H
                      have c25b0 : decide (t699 < 1) = false := decide_eq_false c25
                      clear c25
                      by_cases c26 : t699 ≥ (ji22)
                      · rw [if_pos c26] at H
                        have c26b0 : decide ((ji22) ≤ t699) = true := decide_eq_true c26
                        clear c26
                        have H' := Aside0.mk H
                        clear H
                        (first | ((have hq_ : t701 = true := by simpa [c21b0] using c20b0); subst hq_) | ((have hq_ : t701 = false := by simpa [c21b0] using c20b0); subst hq_) | skip)
                        go_wp2
                        go_meet
                        case rel => exact ⟨_, (true), (by first | rfl | (simp; done) | (exfalso; revert c20b0; simp [c21b0]; done) | (simp [*]; done)), H', ⟨by first | omega | exact Nat.le_refl _⟩, ⟨by repeat (first | (with_reducible first | exact HB.out | apply below_alloc | apply pw_below_drewN | apply below_drew1) | exact HB.out)⟩⟩
                      · rw [if_neg c26] at H
                        have c26b0 : decide ((ji22) ≤ t699) = false := decide_eq_false c26
                        clear c26
                        by_cases c27 : a2 = 1
                        · rw [if_pos c27] at H
                          have c27b0 : (a2 == 1) = true := beq_iff_eq.mpr c27
                          have c27b1 : (a2 != 1) = false := bne_eq_false_iff_eq.mpr c27
                          clear c27
                          have H' := Aside0.mk H
                          clear H
                          (first | ((have hq_ : t701 = true := by simpa [c21b0] using c20b0); subst hq_) | ((have hq_ : t701 = false := by simpa [c21b0] using c20b0); subst hq_) | skip)
                          go_wp2
                          go_meet
                          case rel => exact ⟨_, ((a3 == 1)), (by first | rfl | (simp; done) | (exfalso; revert c20b0; simp [c21b0]; done) | (simp [*]; done)), H', ⟨by first | omega | exact Nat.le_refl _⟩, ⟨by repeat (first | (with_reducible first | exact HB.out | apply below_alloc | apply pw_below_drewN | apply below_drew1) | exact HB.out)⟩⟩
                        · rw [if_neg c27] at H
                          have c27b0 : (a2 == 1) = false := beq_eq_false_iff_ne.mpr c27
                          have c27b1 : (a2 != 1) = true := bne_iff_ne.mpr c27
                          have H' := Aside0.mk H
                          clear H
                          (first | ((have hq_ : t701 = true := by simpa [c21b0] using c20b0); subst hq_) | ((have hq_ : t701 = false := by simpa [c21b0] using c20b0); subst hq_) | skip)
                          go_wp2
                          go_meet
                          case rel => exact ⟨_, (false), (by first | rfl | (simp; done) | (exfalso; revert c20b0; simp [c21b0]; done) | (simp [*]; done)), H', ⟨by first | omega | exact Nat.le_refl _⟩, ⟨by repeat (first | (with_reducible first | exact HB.out | apply below_alloc | apply pw_below_drewN | apply below_drew1) | exact HB.out)⟩⟩
                  · replace c24 := Bool.eq_false_iff.mpr c24
                    subst c24
                    have H1 : (swagelaw21_SplitEnds.j0 k a0 a1 a2 a3 a4 a5 false false) = some r := by rw [if_neg (show ¬ (false = true) by decide)] at H; exact H
                    clear H
                    have H := H1
                    clear H1
                    have H' := Aside0.mk H
                    clear H
                    (first | ((have hq_ : t701 = true := by simpa [c21b0] using c20b0); subst hq_) | ((have hq_ : t701 = false := by simpa [c21b0] using c20b0); subst hq_) | skip)
                    go_wp2
                    go_meet
                    case rel => exact ⟨_, (false), (by first | rfl | (simp; done) | (exfalso; revert c20b0; simp [c21b0]; done) | (simp [*]; done)), H', ⟨by first | omega | exact Nat.le_refl _⟩, ⟨by repeat (first | (with_reducible first | exact HB.out | apply below_alloc | apply pw_below_drewN | apply below_drew1) | exact HB.out)⟩⟩
              · rw [if_neg c21] at H
                have c21b0 : decide (0 < t703) = false := decide_eq_false c21
                clear c21
                by_cases c28 : t701 = true
                · subst c28
                  have H1 : (if t699 < 1 then (swagelaw21_SplitEnds.j0 k a0 a1 a2 a3 a4 a5 true true) else (if t699 ≥ (mx a0 a1) then (swagelaw21_SplitEnds.j0 k a0 a1 a2 a3 a4 a5 true true) else (if a2 = 1 then (swagelaw21_SplitEnds.j0 k a0 a1 a2 a3 a4 a5 true (a3 == 1)) else (swagelaw21_SplitEnds.j0 k a0 a1 a2 a3 a4 a5 true false)))) = some r := by rw [if_pos rfl] at H; exact H
                  clear H
                  have H := H1
                  clear H1
                  by_cases c29 : t699 < 1
                  · rw [if_pos c29] at H
                    have c29b0 : decide (t699 < 1) = true := decide_eq_true c29
                    clear c29
                    have H' := Aside0.mk H
                    clear H
                    (first | ((have hq_ : t701 = true := by simpa [c21b0] using c20b0); subst hq_) | ((have hq_ : t701 = false := by simpa [c21b0] using c20b0); subst hq_) | skip)
                    go_wp2
                    go_meet
                    case rel => exact ⟨_, (true), (by first | rfl | (simp; done) | (exfalso; revert c20b0; simp [c21b0]; done) | (simp [*]; done)), H', ⟨by first | omega | exact Nat.le_refl _⟩, ⟨by repeat (first | (with_reducible first | exact HB.out | apply below_alloc | apply pw_below_drewN | apply below_drew1) | exact HB.out)⟩⟩
                  · rw [if_neg c29] at H
                    have c29b0 : decide (t699 < 1) = false := decide_eq_false c29
                    clear c29
                    obtain ⟨ji30, hji30⟩ : ∃ j_ : Int, (mx a0 a1) = j_ := ⟨_, rfl⟩
                    replace H : (if t699 ≥ (ji30) then (swagelaw21_SplitEnds.j0 k a0 a1 a2 a3 a4 a5 true true) else (if a2 = 1 then (swagelaw21_SplitEnds.j0 k a0 a1 a2 a3 a4 a5 true (a3 == 1)) else (swagelaw21_SplitEnds.j0 k a0 a1 a2 a3 a4 a5 true false))) = some r := by first | (rw [hji30] at H; exact H) | (simp only [hji30] at H ⊢; exact H)
                    have hji30_ : (if a0 < a1 then a1 else a0) = ji30 := hji30
                    by_cases c31 : t699 ≥ (ji30)
                    · rw [if_pos c31] at H
                      have c31b0 : decide ((ji30) ≤ t699) = true := decide_eq_true c31
                      clear c31
                      have H' := Aside0.mk H
                      clear H
                      (first | ((have hq_ : t701 = true := by simpa [c21b0] using c20b0); subst hq_) | ((have hq_ : t701 = false := by simpa [c21b0] using c20b0); subst hq_) | skip)
                      go_wp2
                      go_meet
                      case rel => exact ⟨_, (true), (by first | rfl | (simp; done) | (exfalso; revert c20b0; simp [c21b0]; done) | (simp [*]; done)), H', ⟨by first | omega | exact Nat.le_refl _⟩, ⟨by repeat (first | (with_reducible first | exact HB.out | apply below_alloc | apply pw_below_drewN | apply below_drew1) | exact HB.out)⟩⟩
                    · rw [if_neg c31] at H
                      have c31b0 : decide ((ji30) ≤ t699) = false := decide_eq_false c31
                      clear c31
                      by_cases c32 : a2 = 1
                      · rw [if_pos c32] at H
                        have c32b0 : (a2 == 1) = true := beq_iff_eq.mpr c32
                        have c32b1 : (a2 != 1) = false := bne_eq_false_iff_eq.mpr c32
                        clear c32
                        have H' := Aside0.mk H
                        clear H
                        (first | ((have hq_ : t701 = true := by simpa [c21b0] using c20b0); subst hq_) | ((have hq_ : t701 = false := by simpa [c21b0] using c20b0); subst hq_) | skip)
                        go_wp2
                        go_meet
                        case rel => exact ⟨_, ((a3 == 1)), (by first | rfl | (simp; done) | (exfalso; revert c20b0; simp [c21b0]; done) | (simp [*]; done)), H', ⟨by first | omega | exact Nat.le_refl _⟩, ⟨by repeat (first | (with_reducible first | exact HB.out | apply below_alloc | apply pw_below_drewN | apply below_drew1) | exact HB.out)⟩⟩
                      · rw [if_neg c32] at H
                        have c32b0 : (a2 == 1) = false := beq_eq_false_iff_ne.mpr c32
                        have c32b1 : (a2 != 1) = true := bne_iff_ne.mpr c32
                        have H' := Aside0.mk H
                        clear H
                        (first | ((have hq_ : t701 = true := by simpa [c21b0] using c20b0); subst hq_) | ((have hq_ : t701 = false := by simpa [c21b0] using c20b0); subst hq_) | skip)
                        go_wp2
                        go_meet
                        case rel => exact ⟨_, (false), (by first | rfl | (simp; done) | (exfalso; revert c20b0; simp [c21b0]; done) | (simp [*]; done)), H', ⟨by first | omega | exact Nat.le_refl _⟩, ⟨by repeat (first | (with_reducible first | exact HB.out | apply below_alloc | apply pw_below_drewN | apply below_drew1) | exact HB.out)⟩⟩
                · replace c28 := Bool.eq_false_iff.mpr c28
                  subst c28
                  have H1 : (swagelaw21_SplitEnds.j0 k a0 a1 a2 a3 a4 a5 false false) = some r := by rw [if_neg (show ¬ (false = true) by decide)] at H; exact H
                  clear H
                  have H := H1
                  clear H1
                  have H' := Aside0.mk H
                  clear H
                  (first | ((have hq_ : t701 = true := by simpa [c21b0] using c20b0); subst hq_) | ((have hq_ : t701 = false := by simpa [c21b0] using c20b0); subst hq_) | skip)
                  go_wp2
                  go_meet
                  case rel => exact ⟨_, (false), (by first | rfl | (simp; done) | (exfalso; revert c20b0; simp [c21b0]; done) | (simp [*]; done)), H', ⟨by first | omega | exact Nat.le_refl _⟩, ⟨by repeat (first | (with_reducible first | exact HB.out | apply below_alloc | apply pw_below_drewN | apply below_drew1) | exact HB.out)⟩⟩
          · rw [if_neg c19] at H
            have c19b0 : (t704 == 0) = false := beq_eq_false_iff_ne.mpr c19
            have c19b1 : (t704 != 0) = true := bne_iff_ne.mpr c19
            have H' := Aside0.mk H
            clear H
            (first | ((have hq_ : t701 = true := by simpa [c21b0] using c20b0); subst hq_) | ((have hq_ : t701 = false := by simpa [c21b0] using c20b0); subst hq_) | skip)
            go_wp2
            go_meet
            case rel => exact ⟨_, (true), (by first | rfl | (simp; done) | (exfalso; revert c20b0; simp [c21b0]; done) | (simp [*]; done)), H', ⟨by first | omega | exact Nat.le_refl _⟩, ⟨by repeat (first | (with_reducible first | exact HB.out | apply below_alloc | apply pw_below_drewN | apply below_drew1) | exact HB.out)⟩⟩
        · rw [if_neg c18] at H
          have c18b0 : (t702 == 0) = false := beq_eq_false_iff_ne.mpr c18
          have c18b1 : (t702 != 0) = true := bne_iff_ne.mpr c18
          (first | rw [c18b0] | (simp only [i64_w, i32_w]; rw [c18b0]) | skip)
          have H' := Aside0.mk H
          clear H
          (first | ((have hq_ : t701 = true := by simpa [c21b0] using c20b0); subst hq_) | ((have hq_ : t701 = false := by simpa [c21b0] using c20b0); subst hq_) | skip)
          go_wp2
          go_meet
          case rel => exact ⟨_, (true), (by first | rfl | (simp; done) | (exfalso; revert c20b0; simp [c21b0]; done) | (simp [*]; done)), H', ⟨by first | omega | exact Nat.le_refl _⟩, ⟨by repeat (first | (with_reducible first | exact HB.out | apply below_alloc | apply pw_below_drewN | apply below_drew1) | exact HB.out)⟩⟩
      case rest =>
        clear HC13
        try clear c8
        try clear c12
        obtain ⟨kq, x102_12, rfl, HA, HJ12, HB⟩ := hcut
        cases kq with
        | zero => exact absurd HA.out (by simp [swagelaw21_SplitEnds.j0])
        | succ kj12 =>
          have H := HA.out
          clear HA
          simp only [swagelaw21_SplitEnds.j0] at H
          by_cases c33 : x102_12 = true
          · subst c33
            have H1 : (some false) = some r := by rw [if_pos rfl] at H; exact H
            clear H
            have H := H1
            clear H1
            obtain rfl := Option.some.inj H
            exact absurd hT.out (by simp)
          · replace c33 := Bool.eq_false_iff.mpr c33
            subst c33
            have H1 : (if a5 < a4 then (some true) else ((split_Enters.f kj12 a0 a1 a2 a3 a5).bind fun bt705 => (if bt705.2 = 0 then (if t701 = true then (some true) else (some (!bt705.1))) else (some false)))) = some r := by rw [if_neg (show ¬ (false = true) by decide)] at H; exact H
            clear H
            have H := H1
            clear H1
            by_cases c34 : a5 < a4
            · rw [if_pos c34] at H
              have c34b0 : decide (a5 < a4) = true := decide_eq_true c34
              clear c34
              obtain rfl := Option.some.inj H
              go_wp2
              go_ret
              exact ⟨by first | rfl | (simp [errW_none, errW_some] <;> rfl) | (simp [*, errW_none, errW_some] <;> rfl), by repeat (first | (with_reducible first | exact HB.out | apply below_alloc | apply pw_below_drewN | apply below_drew1) | exact HB.out)⟩
            · rw [if_neg c34] at H
              have c34b0 : decide (a5 < a4) = false := decide_eq_false c34
              clear c34
              replace H := Option.bind_eq_some_iff.mp H
              obtain ⟨⟨t705, t706⟩, A350, H⟩ := H
              replace H : (if t706 = 0 then (if t701 = true then (some true) else (some (!t705))) else (some false)) = some r := H
              have A35 := Aside0.mk A350
              clear A350
              by_cases c36 : t706 = 0
              · rw [if_pos c36] at H
                have c36b0 : (t706 == 0) = true := beq_iff_eq.mpr c36
                have c36b1 : (t706 != 0) = false := bne_eq_false_iff_eq.mpr c36
                clear c36
                by_cases c37 : t701 = true
                · subst c37
                  have H1 : (some true) = some r := by rw [if_pos rfl] at H; exact H
                  clear H
                  have H := H1
                  clear H1
                  obtain rfl := Option.some.inj H
                  go_wp2_with (first | ((with_reducible refine gate_callee (f := 21) rfl ?_); refine goesL_ (some 112) rfl rfl Tryd.func21 (by kernel_rfl) rfl #[.int .i64 a0, .int .i64 a1, .int .i64 a2, .int .i64 a3, .int .i64 a5] rfl (by (try simp only [List.map_toArray, List.map_cons, List.map_nil]); first | done | rfl | (simp only [List.length_drop, List.length_take]; rfl)) ?_; (with_reducible refine (split_Enters.calls kj12 a0 a1 a2 a3 a5 t705 t706 _ A35.out).mono ?_); rintro e w38 ⟨rfl, hb⟩; refine ⟨_, rfl, ?_⟩; have n0_ := Aside0.mk (below_step (by repeat (first | (with_reducible first | exact HB.out | apply below_alloc | apply pw_below_drewN | apply below_drew1) | exact HB.out)) hb); clear HB; have HB := n0_; clear n0_; (try clear hb); (try clear hb2); (try clear hk); (try clear hi)))
                  go_ret
                  exact ⟨by first | rfl | (simp [errW_none, errW_some] <;> rfl) | (simp [*, errW_none, errW_some] <;> rfl), by repeat (first | (with_reducible first | exact HB.out | apply below_alloc | apply pw_below_drewN | apply below_drew1) | exact HB.out)⟩
                · replace c37 := Bool.eq_false_iff.mpr c37
                  subst c37
                  have H1 : (some (!t705)) = some r := by rw [if_neg (show ¬ (false = true) by decide)] at H; exact H
                  clear H
                  have H := H1
                  clear H1
                  obtain rfl := Option.some.inj H
                  go_wp2_with (first | ((with_reducible refine gate_callee (f := 21) rfl ?_); refine goesL_ (some 112) rfl rfl Tryd.func21 (by kernel_rfl) rfl #[.int .i64 a0, .int .i64 a1, .int .i64 a2, .int .i64 a3, .int .i64 a5] rfl (by (try simp only [List.map_toArray, List.map_cons, List.map_nil]); first | done | rfl | (simp only [List.length_drop, List.length_take]; rfl)) ?_; (with_reducible refine (split_Enters.calls kj12 a0 a1 a2 a3 a5 t705 t706 _ A35.out).mono ?_); rintro e w39 ⟨rfl, hb⟩; refine ⟨_, rfl, ?_⟩; have n0_ := Aside0.mk (below_step (by repeat (first | (with_reducible first | exact HB.out | apply below_alloc | apply pw_below_drewN | apply below_drew1) | exact HB.out)) hb); clear HB; have HB := n0_; clear n0_; (try clear hb); (try clear hb2); (try clear hk); (try clear hi)))
                  go_ret
                  exact ⟨by first | rfl | (simp [errW_none, errW_some] <;> rfl) | (simp [*, errW_none, errW_some] <;> rfl), by repeat (first | (with_reducible first | exact HB.out | apply below_alloc | apply pw_below_drewN | apply below_drew1) | exact HB.out)⟩
              · rw [if_neg c36] at H
                have c36b0 : (t706 == 0) = false := beq_eq_false_iff_ne.mpr c36
                have c36b1 : (t706 != 0) = true := bne_iff_ne.mpr c36
                obtain rfl := Option.some.inj H
                exact absurd hT.out (by simp)
    · rw [if_neg c12] at H
      have c12b0 : (t700 == 0) = false := beq_eq_false_iff_ne.mpr c12
      have c12b1 : (t700 != 0) = true := bne_iff_ne.mpr c12
      by_cases c40 : t702 = t700
      · rw [if_pos c40] at H
        have c40b0 : (t702 == t700) = true := beq_iff_eq.mpr c40
        have c40b1 : (t702 != t700) = false := bne_eq_false_iff_eq.mpr c40
        clear c40
        obtain rfl := Option.some.inj H
        go_enter Tryd.func8, Tryd.ntmps8
        go_wp2_with (first | ((with_reducible refine gate_callee (f := 10) rfl ?_); refine goesL_ (some 20) rfl rfl Tryd.func10 (by kernel_rfl) rfl #[] rfl (by (try simp only [List.map_toArray, List.map_cons, List.map_nil]); first | done | rfl | (simp only [List.length_drop, List.length_take]; rfl)) ?_; (with_reducible refine (swagelaw21_works.calls k  true _ A7.out).mono ?_); rintro e w41 ⟨rfl, hb⟩; refine ⟨_, rfl, ?_⟩; have n0_ := Aside0.mk (below_step (by repeat (first | (with_reducible first | exact HB.out | apply below_alloc | apply pw_below_drewN | apply below_drew1) | exact HB.out)) hb); clear HB; have HB := n0_; clear n0_; (try clear hb); (try clear hb2); (try clear hk); (try clear hi)) | ((with_reducible refine gate_callee (f := 20) rfl ?_); refine goesL_ (some 27) rfl rfl Tryd.func20 (by kernel_rfl) rfl #[.int .i64 a0, .int .i64 a1, .int .i64 a2, .int .i64 a3] rfl (by (try simp only [List.map_toArray, List.map_cons, List.map_nil]); first | done | rfl | (simp only [List.length_drop, List.length_take]; rfl)) ?_; (with_reducible refine (split_Block.calls k a0 a1 a2 a3 t699 t700 _ A9.out).mono ?_); rintro e w42 ⟨rfl, hb⟩; refine ⟨_, rfl, ?_⟩; have n0_ := Aside0.mk (below_step (by repeat (first | (with_reducible first | exact HB.out | apply below_alloc | apply pw_below_drewN | apply below_drew1) | exact HB.out)) hb); clear HB; have HB := n0_; clear n0_; (try clear hb); (try clear hb2); (try clear hk); (try clear hi)) | ((with_reducible refine gate_callee (f := 21) rfl ?_); refine goesL_ (some 36) rfl rfl Tryd.func21 (by kernel_rfl) rfl #[.int .i64 a0, .int .i64 a1, .int .i64 a2, .int .i64 a3, .int .i64 a4] rfl (by (try simp only [List.map_toArray, List.map_cons, List.map_nil]); first | done | rfl | (simp only [List.length_drop, List.length_take]; rfl)) ?_; (with_reducible refine (split_Enters.calls k a0 a1 a2 a3 a4 t701 t702 _ A10.out).mono ?_); rintro e w43 ⟨rfl, hb⟩; refine ⟨_, rfl, ?_⟩; have n0_ := Aside0.mk (below_step (by repeat (first | (with_reducible first | exact HB.out | apply below_alloc | apply pw_below_drewN | apply below_drew1) | exact HB.out)) hb); clear HB; have HB := n0_; clear n0_; (try clear hb); (try clear hb2); (try clear hk); (try clear hi)) | ((with_reducible refine gate_callee (f := 22) rfl ?_); refine goesL_ (some 45) rfl rfl Tryd.func22 (by kernel_rfl) rfl #[.int .i64 a0, .int .i64 a1, .int .i64 a2, .int .i64 a3, .int .i64 a4] rfl (by (try simp only [List.map_toArray, List.map_cons, List.map_nil]); first | done | rfl | (simp only [List.length_drop, List.length_take]; rfl)) ?_; (with_reducible refine (split_Depth.calls k a0 a1 a2 a3 a4 t703 t704 _ A11.out).mono ?_); rintro e w44 ⟨rfl, hb⟩; refine ⟨_, rfl, ?_⟩; have n0_ := Aside0.mk (below_step (by repeat (first | (with_reducible first | exact HB.out | apply below_alloc | apply pw_below_drewN | apply below_drew1) | exact HB.out)) hb); clear HB; have HB := n0_; clear n0_; (try clear hb); (try clear hb2); (try clear hk); (try clear hi)))
        go_ret
        exact ⟨by first | rfl | (simp [errW_none, errW_some] <;> rfl) | (simp [*, errW_none, errW_some] <;> rfl), by repeat (first | (with_reducible first | exact HB.out | apply below_alloc | apply pw_below_drewN | apply below_drew1) | exact HB.out)⟩
      · rw [if_neg c40] at H
        have c40b0 : (t702 == t700) = false := beq_eq_false_iff_ne.mpr c40
        have c40b1 : (t702 != t700) = true := bne_iff_ne.mpr c40
        obtain rfl := Option.some.inj H
        exact absurd hT.out (by simp)
  · replace c8 := Bool.eq_false_iff.mpr c8
    subst c8
    have H1 : (some false) = some r := by rw [if_neg (show ¬ (false = true) by decide)] at H; exact H
    clear H
    have H := H1
    clear H1
    obtain rfl := Option.some.inj H
    exact absurd hT.out (by simp)

/-- THE ONE PURE STATEMENT of swagelaw21_SplitEnds: yours. -/
def swagelaw21_SplitEnds.Pure : Prop := ∀ (a0 : Int) (a1 : Int) (a2 : Int) (a3 : Int) (a4 : Int) (a5 : Int), (Lit.int .i64 a0).wf = true → (Lit.int .i64 a1).wf = true → (Lit.int .i64 a2).wf = true → (Lit.int .i64 a3).wf = true → (Lit.int .i64 a4).wf = true → (Lit.int .i64 a5).wf = true → ∃ k, swagelaw21_SplitEnds.f k a0 a1 a2 a3 a4 a5 = some true
end Go.Proofs.YtakmkhokbcjapaaDoor.XA
end

section
/- Arguments opened by their kinds: what is read as data at a type is a Lean value of that type's kind. Of every seat alike; its own words alone. -/
namespace Go.Proofs.YtakmkhokbcjapaaDoor.Opn
open Go.ChangeShapes Go.WideShapes Go.Proofs.YtakmkhokbcjapaaDoorW.PrintWords
set_option linter.unusedVariables false

/-- Whatever is read at type t is of kind d, and wf. -/
structure Opn {α : Type} (P : Program) (t : TypeId) (d : Kd α) (wf : α → Prop) : Prop where
  get : ∀ {H : Type} {enc : TypeId × Value → H} {w : World} {base : Nat} {spare : Nat → Bool} {held : Bool} {fuel : Nat} {cs : List Value} {x : DataW H × List MemPlace},
    DataW.trod enc P w base spare held fuel t cs = some x → (∀ n ∈ DataW.weights P t x.1, n ≤ reachBytes) → ∃ a : α, d.K w a cs ∧ wf a

section
variable {P : Program} {t : TypeId}
/-- The fields of a struct, from offset off on. -/
structure OpnFs {α : Type} (P : Program) (fs : List Field) (off : Nat) (d : Kd α) (wf : α → Prop) : Prop where
  get : ∀ {H : Type} {enc : TypeId × Value → H} {w : World} {base : Nat} {spare : Nat → Bool} {held : Bool} {fuel : Nat} {cs : List Value} {xs : List (DataW H × List MemPlace)},
    cs.length = off + d.sz → xs.length = fs.length →
    (∀ (i : Nat) (f : Field), fs[i]? = some f → DataW.trod enc P w base spare held fuel f.type ((cs.drop f.offset).take (P.cellsOf f.type)) = xs[i]?) →
    (∀ n ∈ DataW.weightsEach P (fs.map (·.type)) (xs.map (·.1)), n ≤ reachBytes) → ∃ a : α, d.K w a (cs.drop off) ∧ wf a

end

section
variable {H : Type} {enc : TypeId × Value → H} {P : Program} {w : World} {base : Nat} {spare : Nat → Bool} {held : Bool} {t : TypeId}
end
end Go.Proofs.YtakmkhokbcjapaaDoor.Opn
end

section
namespace Go.Proofs.YtakmkhokbcjapaaDoor.SaidSplitEnds
open Go.RowKit Go.Proofs.YtakmkhokbcjapaaDoorW.PrintWords Go.Proofs.YtakmkhokbcjapaaDoorW.PrintLast Go.Proofs.YtakmkhokbcjapaaDoor.Opn Go.Proofs.YtakmkhokbcjapaaDoor.XA
set_option linter.unusedVariables false
/-- THE PURE STATEMENT. -/
def Pure : Prop := ∀ (x0 : Int) (x1 : Int) (x2 : Int) (x3 : Int) (x4 : Int) (x5 : Int), (Lit.int .i64 x0).wf = true → (Lit.int .i64 x1).wf = true → (Lit.int .i64 x2).wf = true → (Lit.int .i64 x3).wf = true → (Lit.int .i64 x4).wf = true → (Lit.int .i64 x5).wf = true → ∃ k, swagelaw21_SplitEnds.f k x0 x1 x2 x3 x4 x5 = some true
end Go.Proofs.YtakmkhokbcjapaaDoor.SaidSplitEnds
end

section
namespace Go.Proofs.YtakmkhokbcjapaaDoor.XA
open Go.RowKit Go.Proofs.YtakmkhokbcjapaaDoorW.PrintWords Go.Proofs.YtakmkhokbcjapaaDoorW.PrintLast Go.Proofs.YtakmkhokbcjapaaDoorW.PrintMore
attribute [local go_sem] max2_int min2_int max_two min_two max_three min_three max_four min_four   -- for this text's walks alone
set_option linter.unusedVariables false
set_option linter.unusedSimpArgs false

/-! ### swagelaw21_SplitShort: function 5 -/
def swagelaw21_SplitShort.f (k : Nat) (a0 : Int) (a1 : Int) (a2 : Int) (a3 : Int) : Option (Bool) := (swagelaw21_works.f k).bind fun t557 => (if t557 = true then ((split_Block.f k a0 a1 a2 a3).bind fun bt558 => (if bt558.2 = 0 then (if a0 = 0 then (if a1 = 0 then (some (bt558.1 == 0)) else (if bt558.1 ≥ 1 then (if (wrap64 (a2 * bt558.1)) ≥ a0 then (if (wrap64 (a3 * bt558.1)) ≥ a1 then (if (wrap64 (a2 * (wrap64 (bt558.1 - 1)))) < a0 then (some true) else (some (decide ((wrap64 (a3 * (wrap64 (bt558.1 - 1)))) < a1)))) else (some false)) else (some false)) else (some false))) else (if bt558.1 ≥ 1 then (if (wrap64 (a2 * bt558.1)) ≥ a0 then (if (wrap64 (a3 * bt558.1)) ≥ a1 then (if (wrap64 (a2 * (wrap64 (bt558.1 - 1)))) < a0 then (some true) else (some (decide ((wrap64 (a3 * (wrap64 (bt558.1 - 1)))) < a1)))) else (some false)) else (some false)) else (some false))) else (some (bt558.2 == 2)))) else (some false))
/-- THE ONE PURE STATEMENT of swagelaw21_SplitShort: yours. -/
def swagelaw21_SplitShort.Pure : Prop := ∀ (a0 : Int) (a1 : Int) (a2 : Int) (a3 : Int), (Lit.int .i64 a0).wf = true → (Lit.int .i64 a1).wf = true → (Lit.int .i64 a2).wf = true → (Lit.int .i64 a3).wf = true → ∃ k, swagelaw21_SplitShort.f k a0 a1 a2 a3 = some true
end Go.Proofs.YtakmkhokbcjapaaDoor.XA
end

section
namespace Go.Proofs.YtakmkhokbcjapaaDoor.SaidSplitShort
open Go.RowKit Go.Proofs.YtakmkhokbcjapaaDoorW.PrintWords Go.Proofs.YtakmkhokbcjapaaDoorW.PrintLast Go.Proofs.YtakmkhokbcjapaaDoor.Opn Go.Proofs.YtakmkhokbcjapaaDoor.XA
set_option linter.unusedVariables false
/-- THE PURE STATEMENT. -/
def Pure : Prop := ∀ (x0 : Int) (x1 : Int) (x2 : Int) (x3 : Int), (Lit.int .i64 x0).wf = true → (Lit.int .i64 x1).wf = true → (Lit.int .i64 x2).wf = true → (Lit.int .i64 x3).wf = true → ∃ k, swagelaw21_SplitShort.f k x0 x1 x2 x3 = some true
end Go.Proofs.YtakmkhokbcjapaaDoor.SaidSplitShort
end

section
namespace Go.Proofs.YtakmkhokbcjapaaDoor.XA
open Go.RowKit Go.Proofs.YtakmkhokbcjapaaDoorW.PrintWords Go.Proofs.YtakmkhokbcjapaaDoorW.PrintLast Go.Proofs.YtakmkhokbcjapaaDoorW.PrintMore
attribute [local go_sem] max2_int min2_int max_two min_two max_three min_three max_four min_four   -- for this text's walks alone
set_option linter.unusedVariables false
set_option linter.unusedSimpArgs false

/-! ### swageref21_Right: function 23 -/
def swageref21_Right.f (a0 : Int) (a1 : Int) (a2 : Int) (a3 : Int) : Option (Bool) := if a0 ≥ 0 then (if a1 ≥ 0 then (if a0 ≤ 4096 then (if a1 ≤ 4096 then (if a2 ≥ 1 then (if a3 ≥ 1 then (if a2 ≤ 8 then (some (decide (a3 ≤ 8))) else (some false)) else (some false)) else (some false)) else (some false)) else (some false)) else (some false)) else (some false)
/-! ### swageref21_up: function 42 -/
def swageref21_up.f (a0 : Int) (a1 : Int) : Option (Int) := if a1 = 0 then (none) else (if (wrap64 ((wrap64 (Int.tdiv a0 a1)) * a1)) < a0 then (some (wrap64 ((wrap64 (Int.tdiv a0 a1)) + 1))) else (some (wrap64 (Int.tdiv a0 a1))))
/-! ### swageref21_Block: function 24 -/
def swageref21_Block.f (a0 : Int) (a1 : Int) (a2 : Int) (a3 : Int) : Option (Int) := (swageref21_up.f a0 a2).bind fun t681 => ((swageref21_up.f a1 a3).bind fun t682 => (some (mx t681 t682)))
/-! ### swageref21_Enters: function 25 -/
def swageref21_Enters.f (a0 : Int) (a1 : Int) (a2 : Int) (a3 : Int) (a4 : Int) : Option (Bool) := if a0 > (mx a4 1) then (if a1 > (mx a4 1) then ((swageref21_Block.f a0 a1 a2 a3).bind fun t683 => (some (decide (t683 < (mx a0 a1))))) else (some false)) else (some false)
end Go.Proofs.YtakmkhokbcjapaaDoor.XA
end

section
namespace Go.Proofs.YtakmkhokbcjapaaDoor.XA
open Go.RowKit Go.Proofs.YtakmkhokbcjapaaDoorW.PrintWords Go.Proofs.YtakmkhokbcjapaaDoorW.PrintLast Go.Proofs.YtakmkhokbcjapaaDoorW.PrintMore
attribute [local go_sem] max2_int min2_int max_two min_two max_three min_three max_four min_four   -- for this text's walks alone
set_option linter.unusedVariables false
set_option linter.unusedSimpArgs false

/-! ### swageref21_Depth: function 26 -/
def swageref21_Depth.f : Nat → Int → Int → Int → Int → Int → Option (Int)
  | 0, _, _, _, _, _ => none
  | k + 1, a0, a1, a2, a3, a4 => (swageref21_Enters.f a0 a1 a2 a3 a4).bind fun t684 => (if t684 = true then ((swageref21_Block.f a0 a1 a2 a3).bind fun t685 => ((swageref21_Depth.f k t685 t685 a2 a3 a4).bind fun t686 => (some (wrap64 (1 + t686))))) else (some 0))
end Go.Proofs.YtakmkhokbcjapaaDoor.XA
end

section
namespace Go.Proofs.YtakmkhokbcjapaaDoor.XA
open Go.RowKit Go.Proofs.YtakmkhokbcjapaaDoorW.PrintWords Go.Proofs.YtakmkhokbcjapaaDoorW.PrintLast Go.Proofs.YtakmkhokbcjapaaDoorW.PrintMore
attribute [local go_sem] max2_int min2_int max_two min_two max_three min_three max_four min_four   -- for this text's walks alone
set_option linter.unusedVariables false
set_option linter.unusedSimpArgs false

/-! ### swagelaw21_SplitLevels: function 7 -/
def swagelaw21_SplitLevels.f (k : Nat) (a0 : Int) (a1 : Int) (a2 : Int) (a3 : Int) (a4 : Int) : Option (Bool) := (swagelaw21_works.f k).bind fun t687 => (if t687 = true then ((split_Block.f k a0 a1 a2 a3).bind fun bt688 => ((split_Enters.f k a0 a1 a2 a3 a4).bind fun bt690 => ((split_Depth.f k a0 a1 a2 a3 a4).bind fun bt692 => ((swageref21_Right.f a0 a1 a2 a3).bind fun t694 => (if t694 = true then (if bt688.2 = 0 then (if bt690.2 = 0 then (if bt692.2 = 0 then ((swageref21_Block.f a0 a1 a2 a3).bind fun t695 => (if bt688.1 = t695 then ((swageref21_Enters.f a0 a1 a2 a3 a4).bind fun t696 => (if (bt690.1 == t696) = true then ((swageref21_Depth.f k a0 a1 a2 a3 a4).bind fun t697 => (some (bt692.1 == t697))) else (some false))) else (some false))) else (some false)) else (some false)) else (some false)) else (if bt688.1 = 0 then (if bt690.1 = true then (some false) else (if bt692.1 = 0 then (if bt688.2 = 2 then (if bt690.2 = 2 then (some (bt692.2 == 2)) else (some false)) else (some false)) else (some false))) else (some false))))))) else (some false))
/-- THE ONE PURE STATEMENT of swagelaw21_SplitLevels: yours. -/
def swagelaw21_SplitLevels.Pure : Prop := ∀ (a0 : Int) (a1 : Int) (a2 : Int) (a3 : Int) (a4 : Int), (Lit.int .i64 a0).wf = true → (Lit.int .i64 a1).wf = true → (Lit.int .i64 a2).wf = true → (Lit.int .i64 a3).wf = true → (Lit.int .i64 a4).wf = true → ∃ k, swagelaw21_SplitLevels.f k a0 a1 a2 a3 a4 = some true
end Go.Proofs.YtakmkhokbcjapaaDoor.XA
end

section
namespace Go.Proofs.YtakmkhokbcjapaaDoor.SaidSplitLevels
open Go.RowKit Go.Proofs.YtakmkhokbcjapaaDoorW.PrintWords Go.Proofs.YtakmkhokbcjapaaDoorW.PrintLast Go.Proofs.YtakmkhokbcjapaaDoor.Opn Go.Proofs.YtakmkhokbcjapaaDoor.XA
set_option linter.unusedVariables false
/-- THE PURE STATEMENT. -/
def Pure : Prop := ∀ (x0 : Int) (x1 : Int) (x2 : Int) (x3 : Int) (x4 : Int), (Lit.int .i64 x0).wf = true → (Lit.int .i64 x1).wf = true → (Lit.int .i64 x2).wf = true → (Lit.int .i64 x3).wf = true → (Lit.int .i64 x4).wf = true → ∃ k, swagelaw21_SplitLevels.f k x0 x1 x2 x3 x4 = some true
end Go.Proofs.YtakmkhokbcjapaaDoor.SaidSplitLevels
end

section
/- Rounds that suffice: words beside the printer's 'Ev'. -/
namespace Go.Proofs.YtakmkhokbcjapaaDoor.Evs
open Go.Proofs.YtakmkhokbcjapaaDoorW.PrintWords
section
variable {β : Type} {c : Prop} [Decidable c] {f g : Nat → Option β} {r : β}
theorem ev_pos (hc : c) (h : Ev f r) : Ev (fun n => if c then f n else g n) r := Ev.congr (fun _ => if_pos hc) h
theorem ev_neg (hc : ¬ c) (h : Ev g r) : Ev (fun n => if c then f n else g n) r := Ev.congr (fun _ => if_neg hc) h
end
end Go.Proofs.YtakmkhokbcjapaaDoor.Evs
end

section
/- Block lengths, levels and depths, over numbers: what both sides compute. -/
namespace Go.Proofs.YtakmkhokbcjapaaDoor.PlainSplit
open Go.RowKit Go.Proofs.YtakmkhokbcjapaaDoorW.PrintWords Go.Proofs.YtakmkhokbcjapaaDoorW.PrintLast Go.Proofs.YtakmkhokbcjapaaDoor.XA Go.Proofs.YtakmkhokbcjapaaDoor.Evs
set_option linter.unusedVariables false
set_option linter.unusedSimpArgs false
theorem works_at : swagelaw21_works.f 80 = some true := by decide +kernel
theorem works_ev : Ev (fun k => swagelaw21_works.f k) true := Ev.of (fun k => swagelaw21_works.mono k) works_at
def R (n1 n2 k1 k2 : Int) : Prop := 0 ≤ n1 ∧ n1 ≤ 4096 ∧ 0 ≤ n2 ∧ n2 ≤ 4096 ∧ 1 ≤ k1 ∧ k1 ≤ 8 ∧ 1 ≤ k2 ∧ k2 ≤ 8
instance (n1 n2 k1 k2 : Int) : Decidable (R n1 n2 k1 k2) := by unfold R; exact inferInstance
def upk (n k : Int) : Int := (n + k - 1) / k
def blk (n1 n2 k1 k2 : Int) : Int := mx (upk n1 k1) (upk n2 k2)
def inn (n1 n2 k1 k2 t : Int) : Bool := decide (mn n1 n2 > mx t 1) && decide (blk n1 n2 k1 k2 < mx n1 n2)
theorem wrapSmall {x : Int} (h0 : -9223372036854775808 ≤ x) (h1 : x < 9223372036854775808) : wrap64 x = x := by unfold wrap64; omega
theorem upk_spec {n k : Int} (h0 : 0 ≤ n) (h1 : n ≤ 4096) (k0 : 1 ≤ k) (k1 : k ≤ 8) : 0 ≤ upk n k ∧ upk n k ≤ n ∧ n ≤ k * upk n k ∧ (0 < n → 1 ≤ upk n k ∧ k * (upk n k - 1) < n) ∧ k * upk n k ≤ 8192 := by
  unfold upk
  have : k = 1 ∨ k = 2 ∨ k = 3 ∨ k = 4 ∨ k = 5 ∨ k = 6 ∨ k = 7 ∨ k = 8 := by omega
  rcases this with rfl | rfl | rfl | rfl | rfl | rfl | rfl | rfl <;> omega
theorem up_at {n k : Int} (h0 : 0 ≤ n) (h1 : n ≤ 4096) (k0 : 1 ≤ k) (k1 : k ≤ 8) : split_up.f n k = some (upk n k) := by
  unfold split_up.f
  rw [if_neg (by omega), wrapSmall (x := n + k) (by omega) (by omega), wrapSmall (x := n + k - 1) (by omega) (by omega), Int.tdiv_eq_ediv_of_nonneg (by omega)]
  have := upk_spec h0 h1 k0 k1
  unfold upk at this
  rw [wrapSmall (by omega) (by omega)]
  rfl
theorem refup_at {n k : Int} (h0 : 0 ≤ n) (h1 : n ≤ 4096) (k0 : 1 ≤ k) (k1 : k ≤ 8) : swageref21_up.f n k = some (upk n k) := by
  unfold swageref21_up.f
  rw [if_neg (by omega), Int.tdiv_eq_ediv_of_nonneg h0]
  have hq : wrap64 (n / k) = n / k ∧ wrap64 (n / k * k) = n / k * k ∧ wrap64 (n / k + 1) = n / k + 1 ∧ (if n / k * k < n then n / k + 1 else n / k) = upk n k := by
    unfold upk
    have : k = 1 ∨ k = 2 ∨ k = 3 ∨ k = 4 ∨ k = 5 ∨ k = 6 ∨ k = 7 ∨ k = 8 := by omega
    rcases this with rfl | rfl | rfl | rfl | rfl | rfl | rfl | rfl <;> refine ⟨wrapSmall (by omega) (by omega), wrapSmall (by omega) (by omega), wrapSmall (by omega) (by omega), ?_⟩ <;> split <;> omega
  obtain ⟨q1, q2, q3, q4⟩ := hq
  rw [q1, q2, q3]
  rw [← q4]
  split <;> rfl
theorem dec_iff {p q : Prop} [Decidable p] [Decidable q] (h : p ↔ q) : decide p = decide q := by
  by_cases hp : p
  · rw [decide_eq_true hp, decide_eq_true (h.1 hp)]
  · rw [decide_eq_false hp, decide_eq_false (fun hq => hp (h.2 hq))]
theorem right_l1 (k : Nat) (a b : Int) : split_right.l1 (k + 3) 0 a b = some (decide (1 ≤ a ∧ a ≤ 8 ∧ 1 ≤ b ∧ b ≤ 8)) := by
  have s2 : split_right.l1 (k + 1) (1 + 1) a b = some true := by unfold split_right.l1; exact if_neg (by decide)
  have s1 : split_right.l1 (k + 2) (0 + 1) a b = some (decide (1 ≤ b ∧ b ≤ 8)) := by
    unfold split_right.l1
    rw [if_pos (by decide), if_neg (by decide), if_pos (by decide)]
    by_cases c : b < 1
    · rw [if_pos c, decide_eq_false (by omega)]
    · rw [if_neg c]
      by_cases d : b > 8
      · rw [if_pos d, decide_eq_false (by omega)]
      · rw [if_neg d, s2, decide_eq_true (by omega)]
  unfold split_right.l1
  rw [if_pos (by decide), if_pos rfl]
  by_cases c : a < 1
  · rw [if_pos c, decide_eq_false (by omega)]
  · rw [if_neg c]
    by_cases d : a > 8
    · rw [if_pos d, decide_eq_false (by omega)]
    · rw [if_neg d, s1, dec_iff (p := 1 ≤ b ∧ b ≤ 8) (q := 1 ≤ a ∧ a ≤ 8 ∧ 1 ≤ b ∧ b ≤ 8) (by omega)]
theorem right_at (k : Nat) (n1 n2 k1 k2 : Int) : split_right.f (k + 6) n1 n2 k1 k2 = some (decide (R n1 n2 k1 k2)) := by
  have s2 : split_right.l0 (k + 4) k1 k2 (1 + 1) n1 n2 = some (decide (1 ≤ k1 ∧ k1 ≤ 8 ∧ 1 ≤ k2 ∧ k2 ≤ 8)) := by
    unfold split_right.l0
    rw [if_neg (by decide)]
    exact right_l1 k k1 k2
  have s1 : split_right.l0 (k + 5) k1 k2 (0 + 1) n1 n2 = some (decide (0 ≤ n2 ∧ n2 ≤ 4096 ∧ 1 ≤ k1 ∧ k1 ≤ 8 ∧ 1 ≤ k2 ∧ k2 ≤ 8)) := by
    unfold split_right.l0
    rw [if_pos (by decide), if_neg (by decide), if_pos (by decide)]
    by_cases c : n2 < 0
    · rw [if_pos c, decide_eq_false (by omega)]
    · rw [if_neg c]
      by_cases d : n2 > 4096
      · rw [if_pos d, decide_eq_false (by omega)]
      · rw [if_neg d, s2, dec_iff (p := 1 ≤ k1 ∧ k1 ≤ 8 ∧ 1 ≤ k2 ∧ k2 ≤ 8) (q := 0 ≤ n2 ∧ n2 ≤ 4096 ∧ 1 ≤ k1 ∧ k1 ≤ 8 ∧ 1 ≤ k2 ∧ k2 ≤ 8) (by omega)]
  show split_right.l0 (k + 6) k1 k2 0 n1 n2 = _
  unfold split_right.l0
  rw [if_pos (by decide), if_pos rfl]
  by_cases c : n1 < 0
  · rw [if_pos c, decide_eq_false (fun h => by have := h.1; omega)]
  · rw [if_neg c]
    by_cases d : n1 > 4096
    · rw [if_pos d, decide_eq_false (fun h => by have := h.2.1; omega)]
    · rw [if_neg d, s1, dec_iff (p := 0 ≤ n2 ∧ n2 ≤ 4096 ∧ 1 ≤ k1 ∧ k1 ≤ 8 ∧ 1 ≤ k2 ∧ k2 ≤ 8) (q := R n1 n2 k1 k2) (by unfold R; omega)]
theorem block_ev (n1 n2 k1 k2 : Int) : Ev (fun k => split_Block.f k n1 n2 k1 k2) (if R n1 n2 k1 k2 then (blk n1 n2 k1 k2, 0) else (0, 2)) := by
  refine ⟨6, fun k hk => ?_⟩
  obtain ⟨j, rfl⟩ : ∃ j, k = j + 6 := ⟨k - 6, by omega⟩
  show split_Block.f (j + 6) n1 n2 k1 k2 = _
  unfold split_Block.f
  rw [right_at]
  by_cases h : R n1 n2 k1 k2
  · have h' := h
    obtain ⟨a, b, c, d, e, f, g, i⟩ := h'
    simp only [Option.bind_some, decide_eq_true h, if_true]
    show (split_up.f n1 k1).bind _ = _
    rw [up_at a b e f, up_at c d g i, if_pos h]
    rfl
  · simp [h]
theorem refblock_at {n1 n2 k1 k2 : Int} (h : R n1 n2 k1 k2) : swageref21_Block.f n1 n2 k1 k2 = some (blk n1 n2 k1 k2) := by
  obtain ⟨a, b, c, d, e, f, g, i⟩ := h
  unfold swageref21_Block.f
  rw [refup_at a b e f, refup_at c d g i]
  rfl
theorem blk_bound {n1 n2 k1 k2 : Int} (h : R n1 n2 k1 k2) : 0 ≤ blk n1 n2 k1 k2 ∧ blk n1 n2 k1 k2 ≤ 4096 ∧ (0 < mx n1 n2 → 1 ≤ blk n1 n2 k1 k2) := by
  obtain ⟨a, b, c, d, e, f, g, i⟩ := h
  have h1 := upk_spec a b e f
  have h2 := upk_spec c d g i
  unfold blk mx
  split <;> split <;> omega
theorem enters_ev (n1 n2 k1 k2 t : Int) : Ev (fun k => split_Enters.f k n1 n2 k1 k2 t) (if R n1 n2 k1 k2 then (inn n1 n2 k1 k2 t, 0) else (false, 2)) := by
  unfold split_Enters.f
  refine Ev.bind (block_ev n1 n2 k1 k2) ?_
  by_cases h : R n1 n2 k1 k2
  · simp only [if_pos h, if_true]
    unfold inn
    by_cases h2 : mn n1 n2 > mx t 1
    · rw [if_pos h2]; simp only [decide_eq_true h2, Bool.true_and]; exact Ev.now _
    · rw [if_neg h2]; simp only [decide_eq_false h2, Bool.false_and]; exact Ev.now _
  · simp only [if_neg h]
    exact Ev.now _
theorem refenters_at {n1 n2 k1 k2 : Int} (t : Int) (h : R n1 n2 k1 k2) : swageref21_Enters.f n1 n2 k1 k2 t = some (inn n1 n2 k1 k2 t) := by
  unfold swageref21_Enters.f
  rw [refblock_at h]
  unfold inn
  by_cases h1 : n1 > mx t 1
  · by_cases h2 : n2 > mx t 1
    · rw [if_pos h1, if_pos h2, show decide (mn n1 n2 > mx t 1) = true from decide_eq_true (by unfold mn; split <;> omega)]; rfl
    · rw [if_pos h1, if_neg h2, show decide (mn n1 n2 > mx t 1) = false from decide_eq_false (by unfold mn; split <;> omega)]; rfl
  · rw [if_neg h1, show decide (mn n1 n2 > mx t 1) = false from decide_eq_false (by unfold mn; split <;> omega)]; rfl
theorem inn_lt {n1 n2 k1 k2 t : Int} (h : inn n1 n2 k1 k2 t = true) : blk n1 n2 k1 k2 < mx n1 n2 ∧ 1 < mn n1 n2 := by
  unfold inn at h
  simp only [Bool.and_eq_true, decide_eq_true_eq] at h
  have : (1 : Int) ≤ mx t 1 := by unfold mx; split <;> omega
  omega
theorem depth_ex (t : Int) {k1 k2 : Int} : ∀ (N : Nat) (n1 n2 : Int), R n1 n2 k1 k2 → mx n1 n2 ≤ N →
    ∃ d, Ev (fun k => split_Depth.f k n1 n2 k1 k2 t) (d, 0) ∧ Ev (fun k => swageref21_Depth.f k n1 n2 k1 k2 t) d ∧ 0 ≤ d ∧ (0 < d ↔ inn n1 n2 k1 k2 t = true) ∧ (0 < d → d < mx n1 n2) := by
  intro N
  induction N with
  | zero =>
    intro n1 n2 h hm
    have hi : inn n1 n2 k1 k2 t = false := by
      rw [Bool.eq_false_iff]
      intro hi
      have h1 := inn_lt hi
      have h2 := blk_bound h
      omega
    refine ⟨0, ?_, ?_, by omega, by simp [hi], by omega⟩
    · refine Ev.step (f := fun k => (split_Enters.f k n1 n2 k1 k2 t).bind fun bt560 => (if bt560.2 = 0 then (split_Depth.j0 k n1 n2 k1 k2 t bt560.2 (!bt560.1)) else (split_Depth.j0 k n1 n2 k1 k2 t bt560.2 true))) (fun k => by simp only [split_Depth.f]) ?_
      refine Ev.bind (enters_ev n1 n2 k1 k2 t) ?_
      simp only [if_pos h, if_true, hi, Bool.not_false]
      exact Ev.step (f := fun _ => some (0, 0)) (fun k => by simp only [split_Depth.j0]; rfl) (Ev.now _)
    · refine Ev.step (f := fun _ => some 0) (fun k => ?_) (Ev.now _)
      simp only [swageref21_Depth.f, refenters_at t h, hi, Option.bind_some]
      rfl
  | succ N ih =>
    intro n1 n2 h hm
    cases hi : inn n1 n2 k1 k2 t with
    | false =>
      refine ⟨0, ?_, ?_, by omega, by simp, by omega⟩
      · refine Ev.step (f := fun k => (split_Enters.f k n1 n2 k1 k2 t).bind fun bt560 => (if bt560.2 = 0 then (split_Depth.j0 k n1 n2 k1 k2 t bt560.2 (!bt560.1)) else (split_Depth.j0 k n1 n2 k1 k2 t bt560.2 true))) (fun k => by simp only [split_Depth.f]) ?_
        refine Ev.bind (enters_ev n1 n2 k1 k2 t) ?_
        simp only [if_pos h, if_true, hi, Bool.not_false]
        exact Ev.step (f := fun _ => some (0, 0)) (fun k => by simp only [split_Depth.j0]; rfl) (Ev.now _)
      · refine Ev.step (f := fun _ => some 0) (fun k => ?_) (Ev.now _)
        simp only [swageref21_Depth.f, refenters_at t h, hi, Option.bind_some]
        rfl
    | true =>
      have hb := blk_bound h
      have hl := inn_lt hi
      have hR : R (blk n1 n2 k1 k2) (blk n1 n2 k1 k2) k1 k2 := ⟨by omega, by omega, by omega, by omega, h.2.2.2.2⟩
      have hmm : mx (blk n1 n2 k1 k2) (blk n1 n2 k1 k2) = blk n1 n2 k1 k2 := by unfold mx; split <;> rfl
      obtain ⟨d, e1, e2, d0, d1, d2⟩ := ih _ _ hR (by rw [hmm]; omega)
      rw [hmm] at d2
      have hx : mx n1 n2 ≤ 4096 := by obtain ⟨a, b, c, e, _⟩ := h; unfold mx; split <;> omega
      have hw : wrap64 (d + 1) = d + 1 := wrapSmall (by omega) (by omega)
      refine ⟨d + 1, ?_, ?_, by omega, by simp; omega, fun _ => by omega⟩
      · refine Ev.step (f := fun k => (split_Enters.f k n1 n2 k1 k2 t).bind fun bt560 => (if bt560.2 = 0 then (split_Depth.j0 k n1 n2 k1 k2 t bt560.2 (!bt560.1)) else (split_Depth.j0 k n1 n2 k1 k2 t bt560.2 true))) (fun k => by simp only [split_Depth.f]) ?_
        refine Ev.bind (enters_ev n1 n2 k1 k2 t) ?_
        simp only [if_pos h, if_true, hi, Bool.not_true]
        refine Ev.step (f := fun k => (split_Block.f k n1 n2 k1 k2).bind fun bt562 => ((split_Depth.f k bt562.1 bt562.1 k1 k2 t).bind fun bt564 => (some (wrap64 (bt564.1 + 1), bt564.2)))) (fun k => by simp only [split_Depth.j0]; rfl) ?_
        refine Ev.bind (block_ev n1 n2 k1 k2) ?_
        simp only [if_pos h]
        refine Ev.bind e1 ?_
        rw [hw]
        exact Ev.now _
      · refine Ev.step (f := fun k => (swageref21_Depth.f k (blk n1 n2 k1 k2) (blk n1 n2 k1 k2) k1 k2 t).bind fun t684 => (some (wrap64 (1 + t684)))) (fun k => ?_) ?_
        · simp only [swageref21_Depth.f, refenters_at t h, hi, Option.bind_some, refblock_at h]
          rfl
        · refine Ev.bind e2 ?_
          rw [Int.add_comm 1 d, hw]
          exact Ev.now _
theorem depth_no {n1 n2 k1 k2 : Int} (t : Int) (h : ¬ R n1 n2 k1 k2) : Ev (fun k => split_Depth.f k n1 n2 k1 k2 t) (0, 2) := by
  refine Ev.step (f := fun k => (split_Enters.f k n1 n2 k1 k2 t).bind fun bt560 => (if bt560.2 = 0 then (split_Depth.j0 k n1 n2 k1 k2 t bt560.2 (!bt560.1)) else (split_Depth.j0 k n1 n2 k1 k2 t bt560.2 true))) (fun k => by simp only [split_Depth.f]) ?_
  refine Ev.bind (enters_ev n1 n2 k1 k2 t) ?_
  simp only [if_neg h]
  exact Ev.step (f := fun _ => some (0, 2)) (fun k => by simp only [split_Depth.j0]; rfl) (Ev.now _)
end Go.Proofs.YtakmkhokbcjapaaDoor.PlainSplit
end

section
/- The law SplitEnds, over numbers. -/
namespace Go.Proofs.YtakmkhokbcjapaaDoor.Pure
open Go.RowKit Go.Proofs.YtakmkhokbcjapaaDoorW.PrintWords Go.Proofs.YtakmkhokbcjapaaDoorW.PrintLast Go.Proofs.YtakmkhokbcjapaaDoor.XA Go.Proofs.YtakmkhokbcjapaaDoor.SaidSplitEnds Go.Proofs.YtakmkhokbcjapaaDoor.PlainSplit Go.Proofs.YtakmkhokbcjapaaDoor.Evs
set_option linter.unusedVariables false
set_option linter.unusedSimpArgs false
theorem inn_more {a0 a1 a2 a3 t u : Int} (h : t ≤ u) (hi : inn a0 a1 a2 a3 u = true) : inn a0 a1 a2 a3 t = true := by
  unfold inn at *
  simp only [Bool.and_eq_true, decide_eq_true_eq] at *
  refine ⟨?_, hi.2⟩
  have : mx t 1 ≤ mx u 1 := by unfold mx; split <;> split <;> omega
  omega
theorem one_each {a0 a1 t : Int} : inn a0 a1 1 1 t = false := by
  rw [Bool.eq_false_iff]
  intro h
  have h1 := (inn_lt h).1
  unfold blk upk mx at h1
  rw [show (a0 + 1 - 1) / 1 = a0 by omega, show (a1 + 1 - 1) / 1 = a1 by omega] at h1
  omega
theorem tail_ev {a0 a1 a2 a3 a4 a5 : Int} (h : R a0 a1 a2 a3) : Ev (fun k => swagelaw21_SplitEnds.j0 k a0 a1 a2 a3 a4 a5 (inn a0 a1 a2 a3 a4) false) true := by
  refine Ev.step (f := fun k => (if a5 < a4 then (some true) else ((split_Enters.f k a0 a1 a2 a3 a5).bind fun bt703 => (if bt703.2 = 0 then (if inn a0 a1 a2 a3 a4 = true then (some true) else (some (!bt703.1))) else (some false))))) (fun k => by simp only [swagelaw21_SplitEnds.j0]; rfl) ?_
  by_cases hl : a5 < a4
  · exact ev_pos hl (Ev.now _)
  · refine ev_neg hl (Ev.bind (enters_ev a0 a1 a2 a3 a5) ?_)
    simp only [if_pos h, if_true]
    cases hi : inn a0 a1 a2 a3 a4 with
    | true => exact Ev.now _
    | false =>
      have : inn a0 a1 a2 a3 a5 = false := by
        rw [Bool.eq_false_iff]
        intro h5
        rw [inn_more (by omega) h5] at hi
        cases hi
      rw [this]
      exact Ev.now _
theorem SplitEnds : SaidSplitEnds.Pure := by
  intro a0 a1 a2 a3 a4 a5 w0 w1 w2 w3 w4 w5
  apply Ev.rounds
  unfold swagelaw21_SplitEnds.f
  refine Ev.bind works_ev (ev_pos rfl (Ev.bind (block_ev a0 a1 a2 a3) (Ev.bind (enters_ev a0 a1 a2 a3 a4) ?_)))
  by_cases h : R a0 a1 a2 a3
  · obtain ⟨d, e1, e2, d0, d1, d2⟩ := depth_ex a4 (mx a0 a1).toNat a0 a1 h (by omega)
    have hb := blk_bound h
    refine Ev.bind e1 ?_
    simp only [if_pos h, if_true]
    cases hi : inn a0 a1 a2 a3 a4 with
    | false =>
      have hd : ¬ d > 0 := by
        intro hd
        rw [hi] at d1
        exact absurd (d1.1 hd) (by simp)
      have ht := tail_ev (a4 := a4) (a5 := a5) h
      rw [hi] at ht
      simp only [decide_eq_false hd, if_neg hd]
      exact ht
    | true =>
      have hd : d > 0 := d1.2 hi
      have hlt := inn_lt hi
      have ht := tail_ev (a4 := a4) (a5 := a5) h
      rw [hi] at ht
      have h1 : ¬ d ≥ mx a0 a1 := by have := d2 hd; omega
      have hmx : 0 < mx a0 a1 := by omega
      have h2 : ¬ blk a0 a1 a2 a3 < 1 := by have := hb.2.2 hmx; omega
      have h3 : ¬ blk a0 a1 a2 a3 ≥ mx a0 a1 := by omega
      simp only [decide_eq_true hd, if_pos hd, if_neg h1, if_neg h2, if_neg h3, if_true]
      by_cases h4 : a2 = 1
      · have h5 : ¬ a3 = 1 := by
          intro h5
          rw [h4, h5, one_each] at hi
          cases hi
        rw [show (a3 == 1) = false from by simpa using h5]
        simp only [if_pos h4]
        exact ht
      · simp only [if_neg h4]
        exact ht
  · refine Ev.bind (depth_no a4 h) ?_
    simp only [if_neg h]
    exact Ev.now _
end Go.Proofs.YtakmkhokbcjapaaDoor.Pure
end

section
/- The row and the card of the law SplitEnds, for every input: out of the pure statement and the walk. No condition. -/
namespace Go.Proofs.YtakmkhokbcjapaaDoor.splitEnds
open Go.ChangeShapes Go.WideShapes Go.ChangeAt Go.RowKit Go.Proofs.YtakmkhokbcjapaaDoorW.PrintWords Go.Proofs.YtakmkhokbcjapaaDoor.Opn Go.Proofs.YtakmkhokbcjapaaDoor.XA Go.Proofs.YtakmkhokbcjapaaDoor.SaidSplitEnds
open Go.ChangeMaps (open_string shut_string)
set_option linter.unusedVariables false
theorem own : ownKnob Tryd.prog.godebug = none := by kernel_rfl
set_option maxRecDepth 100000 in
theorem contract (H : Type) (enc : TypeId × Value → H) (W : World) (base : Nat) (args : Array Value) (ds gs : List (DataW H)) (before : List MemPlace)
    (hval0 : ∀ (j : Nat) t v, Tryd.f8.params[j]? = some t → args[j]? = some v → Value.okWide Tryd.prog W .any base t v)
    (hW : DataW.Whole enc Tryd.prog Tryd.f8.params.toList Rows.splitEndsSpec.vars false W args.toList ds gs before)
    (hsz0 : (DataW.weightsEach Tryd.prog (Tryd.f8.params.toList ++ Rows.splitEndsSpec.plain.varTypes Tryd.prog) (ds ++ gs)).all (· ≤ reachBytes) = true) :
    Calls Tryd.prog 8 args W fun e W' => ∃ v, e = .returned v ∧ Rows.splitEndsSpec.post enc Tryd.prog Tryd.f8 false true false false W args v W' := by
  have hsz : (DataW.weightsEach Tryd.prog (Tryd.f8.params.toList ++ Rows.splitEndsSpec.plain.varTypes Tryd.prog) (ds ++ gs)).all (· ≤ reachBytes) = true := hsz0
  have hval : ∀ (j : Nat) t v, Tryd.f8.params[j]? = some t → args[j]? = some v → Value.okWide Tryd.prog W .any base t v := hval0
  have hW' := hW
  obtain ⟨p, q, hA0, hV, rfl, hfz, hnd⟩ := hW
  have hA : DataW.TrodAll enc Tryd.prog W 0 (fun _ => true) true Tryd.f8.params.toList args.toList ds p := hA0
  rw [Tryd.params8] at hA hval hsz
  obtain ⟨v0, vs0, d0, ds0, p0, q0, hargs, rfl, rfl, h0, r0⟩ := trodAll_cons hA
  obtain ⟨v1, vs1, d1, ds1, p1, q1, rfl, rfl, rfl, h1, r1⟩ := trodAll_cons r0
  obtain ⟨v2, vs2, d2, ds2, p2, q2, rfl, rfl, rfl, h2, r2⟩ := trodAll_cons r1
  obtain ⟨v3, vs3, d3, ds3, p3, q3, rfl, rfl, rfl, h3, r3⟩ := trodAll_cons r2
  obtain ⟨v4, vs4, d4, ds4, p4, q4, rfl, rfl, rfl, h4, r4⟩ := trodAll_cons r3
  obtain ⟨v5, vs5, d5, ds5, p5, q5, rfl, rfl, rfl, h5, r5⟩ := trodAll_cons r4
  obtain ⟨rfl, rfl, rfl⟩ := trodAll_nil r5
  obtain rfl : args = #[v0, v1, v2, v3, v4, v5] := by cases args; simp_all
  obtain ⟨rfl, rfl⟩ := trodVars_none hV
  obtain ⟨a0, rfl, rfl, rfl, w0⟩ := open_int Tryd.underlying3 (hval 0 3 v0 rfl rfl) h0
  obtain ⟨a1, rfl, rfl, rfl, w1⟩ := open_int Tryd.underlying3 (hval 1 3 v1 rfl rfl) h1
  obtain ⟨a2, rfl, rfl, rfl, w2⟩ := open_int Tryd.underlying3 (hval 2 3 v2 rfl rfl) h2
  obtain ⟨a3, rfl, rfl, rfl, w3⟩ := open_int Tryd.underlying3 (hval 3 3 v3 rfl rfl) h3
  obtain ⟨a4, rfl, rfl, rfl, w4⟩ := open_int Tryd.underlying3 (hval 4 3 v4 rfl rfl) h4
  obtain ⟨a5, rfl, rfl, rfl, w5⟩ := open_int Tryd.underlying3 (hval 5 3 v5 rfl rfl) h5
  clear hA0 hval0 hsz0 hsz
  obtain ⟨k, h⟩ := Pure.SplitEnds a0 a1 a2 a3 a4 a5 w0 w1 w2 w3 w4 w5
  refine (swagelaw21_SplitEnds.calls k a0 a1 a2 a3 a4 a5 true W (⟨rfl⟩) h).mono fun e W' he_ => ?_
  obtain ⟨rfl, bel⟩ := he_
  exact ⟨_, rfl, _, _, _, [], _, [], hW', trodAll_mk1 (shut_bool Tryd.underlying4 _), (trodAll_cons_mk (shut_int Tryd.underlying3 w0) (trodAll_cons_mk (shut_int Tryd.underlying3 w1) (trodAll_cons_mk (shut_int Tryd.underlying3 w2) (trodAll_cons_mk (shut_int Tryd.underlying3 w3) (trodAll_cons_mk (shut_int Tryd.underlying3 w4) (trodAll_cons_mk (shut_int Tryd.underlying3 w5) trodAll_mk0)))))), rfl, bel.frame _, fun h => by cases h⟩
/-- The cells of a datum that is whole numbers and structs of them. -/
def flat : Nat → DataW Unit → List Value
  | 0, _ => []
  | _ + 1, .lit (.int k n) => [.int k n]
  | m + 1, .agg l => (l.map (flat m)).flatten
  | _ + 1, _ => []
/-- A world for the witness: the settled one, the listed variables holding what they hold. -/
noncomputable def laidWorld (os : Os) : World :=
  { World.holding Tryd.prog os ⟨#[], #[], []⟩ with heap := (((World.holding Tryd.prog os ⟨#[], #[], []⟩).heap.modify ((Tryd.prog.globalNamed "unicode/utf8.acceptRanges").getD 0) fun
      | .cells _ t frozen => .cells (flat 5 Rows.laid_unicode_utf8_acceptRanges).toArray t frozen
      | o => o).modify ((Tryd.prog.globalNamed "unicode/utf8.first").getD 0) fun
      | .cells _ t frozen => .cells (flat 5 Rows.laid_unicode_utf8_first).toArray t frozen
      | o => o) }
theorem laid_met (os : Os) : laidMet Tryd.prog Rows.splitEndsRow.laid ((laidWorld os).forCall (fun _ _ => 0) ⟨#[], #[.int .i64 0, .int .i64 0, .int .i64 0, .int .i64 0, .int .i64 0, .int .i64 0], []⟩).memory :=
  laidMet_of_run' 8 (by kernel_rfl) (by kernel_rfl)
theorem reads (os : Os) {H : Type} (enc : TypeId × Value → H) : ∃ places, DataW.whole enc Tryd.prog ((laidWorld os).forCall (fun _ _ => 0) ⟨#[], #[.int .i64 0, .int .i64 0, .int .i64 0, .int .i64 0, .int .i64 0, .int .i64 0], []⟩).memory Tryd.f8.params.toList Rows.splitEndsSpec.vars false (#[.int .i64 0, .int .i64 0, .int .i64 0, .int .i64 0, .int .i64 0, .int .i64 0] : Array Value).toList 8 = some ([.lit (.int .i64 0), .lit (.int .i64 0), .lit (.int .i64 0), .lit (.int .i64 0), .lit (.int .i64 0), .lit (.int .i64 0)], [], places) :=
  ⟨[], by kernel_rfl⟩
set_option maxRecDepth 100000 in
theorem lifted (os : Os) (started : os.Started) (H : Type) (enc : TypeId × Value → H) (F : Stop.Interp) :
    ReturnsInHanded {} Tryd.checked os 8 .any ((OpenSpec.ofChange Rows.splitEndsSpec).preRow enc Tryd.prog Tryd.f8 Rows.splitEndsRow.domain false Rows.splitEndsRow.laid) (((OpenSpec.ofChange Rows.splitEndsSpec).at F).post enc Tryd.prog Tryd.f8 false true false false) := by
  obtain ⟨places, hx⟩ := reads os enc
  refine returnsInHanded_of_row (C := Tryd.checked) (s := OpenSpec.ofChange Rows.splitEndsSpec) own started (by kernel_rfl) Tryd.func8
    (witness_row_at (enc := enc) (C := Tryd.checked) false (laidWorld os) #[.int .i64 0, .int .i64 0, .int .i64 0, .int .i64 0, .int .i64 0, .int .i64 0] rfl (by kernel_rfl) (by kernel_rfl) (by kernel_rfl)
      (OpenSpec.preRow_of_cond 8 hx (by kernel_rfl) (fun k hk => by cases hk) (by kernel_rfl) (laid_met os))) ?_
  intro W base args ds gs before hval hW _ _ hsz _ _ _
  exact contract H enc W base args ds gs before hval hW hsz
theorem said : Rows.SplitEndsSaid :=
  OpenClaim.holds_of_cond 8 Tryd.f8 rfl rfl rfl rfl rfl rfl rfl ⟨rfl, rfl, rfl, rfl, rfl⟩ rfl rfl rfl rfl rfl (by kernel_rfl) Tryd.func8 (by kernel_rfl)
    (of_decide_eq_true (by kernel_rfl)) (by unfold Func.isWrapper; first | (rw [if_pos (by decide +kernel)]; kernel_rfl) | (rw [if_neg (by decide +kernel)]; exact ⟨rfl, rfl⟩))
    (fun os started H enc _ F => by rw [OpenClaim.pre_eq_preRow]; exact lifted os started H enc F)
theorem plain (f : FuncId) (fn : Func) (hf : Tryd.pinned.checked.prog.funcNamed "swage/swagelaw21.SplitEnds" = some f) (hfn : Tryd.pinned.checked.prog.funcs[f]? = some fn) :
    false = Tryd.pinned.checked.prog.looks [] ∧ ∀ (j : Nat) t, fn.params[j]? = some t → Tryd.pinned.checked.prog.wantsStandIn t = false := by
  obtain rfl : f = 8 := Option.some.inj ((show Tryd.prog.funcNamed "swage/swagelaw21.SplitEnds" = some 8 by kernel_rfl).symm.trans hf) |>.symm
  obtain rfl : fn = Tryd.f8 := (Option.some.inj (Tryd.func8.symm.trans hfn)).symm
  refine ⟨by kernel_rfl, fun j t ht => ?_⟩
  rw [Tryd.params8] at ht
  have hm := Array.mem_of_getElem? ht
  have hall : (([3, 3, 3, 3, 3, 3] : List Nat).all fun t => !Tryd.prog.wantsStandIn t) = true := by kernel_rfl
  have := List.all_eq_true.1 hall t (by simpa using hm)
  exact (by simpa using this : Tryd.prog.wantsStandIn t = false)
theorem card : Rows.SplitEndsCardSaid :=
  Claim7.holds_tied_plain_at .later [] _ _ _ _ said (fun _ h => by cases h) (by kernel_rfl) (fun _ h => by cases h) splitEnds_row_tie rfl ⟨rfl, rfl⟩ (by kernel_rfl) rfl plain (by kernel_rfl)
#print axioms card
end Go.Proofs.YtakmkhokbcjapaaDoor.splitEnds
namespace Go.Proofs.YtakmkhokbcjapaaDoor
/-- The card, under a short name, for the claim. -/
theorem splitEnds_holds : Rows.SplitEndsCardSaid := splitEnds.card
end Go.Proofs.YtakmkhokbcjapaaDoor
end
