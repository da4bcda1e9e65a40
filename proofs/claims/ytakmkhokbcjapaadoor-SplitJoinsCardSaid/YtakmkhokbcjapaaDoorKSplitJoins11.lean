/- Part 11 of the proof of the law SplitJoins for every input: words, walks and plain laws. No condition. -/
import Derived.Test.YtakmkhokbcjapaaDoorKSplitJoins10
set_option linter.unusedVariables false
set_option linter.unusedSimpArgs false
set_option maxHeartbeats 8000000
set_option maxRecDepth 100000
section
namespace Go.Proofs.YtakmkhokbcjapaaDoor.XA
open Go.Proofs.YtakmkhokbcjapaaDoor.Lift Go.RowKit Go.Proofs.YtakmkhokbcjapaaDoorW.PrintWords Go.Proofs.YtakmkhokbcjapaaDoorW.PrintLast Go.Proofs.YtakmkhokbcjapaaDoorW.PrintMore
attribute [local go_sem] max2_int min2_int max_two min_two max_three min_three max_four min_four
def swagelaw21_works.f (k : Nat)  : Option (Bool) := (swagelaw21_list.f k (([1, 2, 3, 4, 5] : List Int))).bind fun qW => ((split_Parts.f k qW 2 3).bind fun bt384 => ((split_Block.f k 7 5 3 2).bind fun bt388 => ((swagelaw21_list.f k (([1, 2, 3] : List Int))).bind fun qY => ((swagelaw21_list.f k (([10, 20, 30] : List Int))).bind fun qV => ((swagelaw21_list.f k (([100] : List Int))).bind fun qU => ((split_Join.f k (([qY, qV, qU] : List (List (S39)))) 2 5).bind fun bt411 => (if bt384.2 = 0 then (if bt388.2 = 0 then (if bt411.2 = 0 then (if (bt384.1.length : Int) = 2 then (if 0 < (bt384.1.length : Int) then ((swagelaw21_ref.f k (([1, 2, 3] : List Int))).bind fun qP => ((swagelaw21_is.f k (rd_L5 bt384.1 0) qP).bind fun qQ => (if qQ = true then (if 1 < (bt384.1.length : Int) then ((swagelaw21_ref.f k (([4, 5, 0] : List Int))).bind fun qL => ((swagelaw21_is.f k (rd_L5 bt384.1 1) qL).bind fun qM => (if qM = true then (if bt388.1 = 3 then ((swagelaw21_ref.f k (([1, 2, 13, 20, 130] : List Int))).bind fun qI => ((swagelaw21_is.f k bt411.1 qI).bind fun qJ => (some qJ))) else (some false)) else (some false)))) else (none)) else (some false)))) else (none)) else (some false)) else (some false)) else (some false)) else (some false))))))))
theorem swagelaw21_works.mono : ∀ k, LeO (swagelaw21_works.f k ) (swagelaw21_works.f (k + 1) ) := by
 intro  k
 unfold swagelaw21_works.f
 have im0 := @split_Block.mono; have im1 := @split_Join.mono; have im2 := @split_Parts.mono; have im3 := @swagelaw21_is.mono; have im4 := @swagelaw21_list.mono; have im5 := @swagelaw21_ref.mono; exact zM
def swagelaw21_works.T4 : Bool × List (List Nat × List Nat) := (true, [([], []), ([0], [0]), ([1], [1]), ([2], [2]), ([3, 2], [2, 3]), ([2, 4], [2, 4]), ([5, 2], [5]), ([6], [6]), ([7, 6], [6, 7]), ([6, 8], [6, 8]), ([9, 6], [9]), ([10], [10]), ([11, 10], [10, 11]), ([12, 10], [10, 12]), ([10, 13], [10, 13]), ([14, 10], [14]), ([15], [15]), ([16, 15], [15, 16]), ([17, 15], [15, 17]), ([15], [15]), ([19, 15, 15], [15, 19]), ([18, 20, 20, 15], [15, 18, 20]), ([15, 21], [15, 21]), ([22, 21], [22]), ([23], [23]), ([24, 23], [23, 24]), ([25, 23], [23, 25]), ([23], [23]), ([27, 23, 23], [23, 27]), ([26, 28, 28, 23], [23, 26, 28]), ([23, 29], [23, 29]), ([30, 29], [30]), ([31], [31]), ([32, 31], [31, 32]), ([31, 33], [31, 33]), ([34, 31], [34]), ([35], [35]), ([35], [35]), ([37, 35, 35], [35, 37]), ([36, 38, 38, 35], [35, 36, 38]), ([35, 39], [35, 39]), ([40, 39, 0, 1, 2, 3, 4, 5, 6, 7, 8, 9, 10, 11, 12, 13, 14, 15, 16, 17, 18, 19, 20, 21, 22, 23, 24, 25, 26, 27, 28, 29, 30, 31, 32, 33, 34, 35, 36, 37, 38, 39, 40], [40])])
def swagelaw21_works.B4 : List Nat := [0, 1, 3, 7, 15, 31, 63, 127, 255, 511, 1023, 2047, 4095, 8191, 16383, 32767, 65535, 131071, 262143, 65535, 589823, 2097151, 4194303, 8388607, 16777215, 33554431, 67108863, 16777215, 150994943, 536870911, 1073741823, 2147483647, 4294967295, 8589934591, 17179869183, 34359738367, 68719476735, 68719476735, 206158430207, 549755813887, 1099511627775, 2199023255551]
theorem swagelaw21_works.tab4 : rtab .any (opsOf Tryd.f10 4) = swagelaw21_works.T4 := by kernel_rfl
theorem swagelaw21_works.bits4 : waitsOk swagelaw21_works.T4.2 swagelaw21_works.B4 = true := by kernel_rfl
theorem swagelaw21_works.tells (k : Nat) (r : Bool) (h : swagelaw21_works.f k = some r) : r = true := by
 have h8 : swagelaw21_works.f 90 = some true := by decide +kernel
 rcases Nat.le_total k 90 with hk | hk
 ·have h9 := at_rounds (fun k => swagelaw21_works.mono k) hk h
  rw [h8] at h9
  exact (Option.some.inj h9).symm
 ·have h9 := at_rounds (fun k => swagelaw21_works.mono k) hk h8
  rw [h] at h9
  exact Option.some.inj h9
theorem swagelaw21_works.calls (k : Nat)  (r : Bool) (w : World) (h : swagelaw21_works.f k  = some r) :
  Calls Tryd.prog 10 #[] w fun e w' => e = .returned (.bool r) ∧ Below w.heap.size w w' := by
 have hT : Aside0 (r = true) := ⟨swagelaw21_works.tells k r h⟩
 have HB := aM (Below.refl w.heap.size w)
 have H : ((swagelaw21_list.f k (([1, 2, 3, 4, 5] : List Int))).bind fun qW => ((split_Parts.f k qW 2 3).bind fun bt384 => ((split_Block.f k 7 5 3 2).bind fun bt388 => ((swagelaw21_list.f k (([1, 2, 3] : List Int))).bind fun qY => ((swagelaw21_list.f k (([10, 20, 30] : List Int))).bind fun qV => ((swagelaw21_list.f k (([100] : List Int))).bind fun qU => ((split_Join.f k (([qY, qV, qU] : List (List (S39)))) 2 5).bind fun bt411 => (if bt384.2 = 0 then (if bt388.2 = 0 then (if bt411.2 = 0 then (if (bt384.1.length : Int) = 2 then (if 0 < (bt384.1.length : Int) then ((swagelaw21_ref.f k (([1, 2, 3] : List Int))).bind fun qP => ((swagelaw21_is.f k (rd_L5 bt384.1 0) qP).bind fun qQ => (if qQ = true then (if 1 < (bt384.1.length : Int) then ((swagelaw21_ref.f k (([4, 5, 0] : List Int))).bind fun qL => ((swagelaw21_is.f k (rd_L5 bt384.1 1) qL).bind fun qM => (if qM = true then (if bt388.1 = 3 then ((swagelaw21_ref.f k (([1, 2, 13, 20, 130] : List Int))).bind fun qI => ((swagelaw21_is.f k bt411.1 qI).bind fun qJ => (some qJ))) else (some false)) else (some false)))) else (none)) else (some false)))) else (none)) else (some false)) else (some false)) else (some false)) else (some false))))))))) = some r := h
 clear h
 obtain ⟨y378, hy378⟩ : ∃ y_ : List Int, y_ = (([1, 2, 3, 4, 5] : List Int)) := ⟨_, rfl⟩
 replace H : ((swagelaw21_list.f k y378).bind fun qW => ((split_Parts.f k qW 2 3).bind fun bt384 => ((split_Block.f k 7 5 3 2).bind fun bt388 => ((swagelaw21_list.f k (([1, 2, 3] : List Int))).bind fun qY => ((swagelaw21_list.f k (([10, 20, 30] : List Int))).bind fun qV => ((swagelaw21_list.f k (([100] : List Int))).bind fun qU => ((split_Join.f k (([qY, qV, qU] : List (List (S39)))) 2 5).bind fun bt411 => (if bt384.2 = 0 then (if bt388.2 = 0 then (if bt411.2 = 0 then (if (bt384.1.length : Int) = 2 then (if 0 < (bt384.1.length : Int) then ((swagelaw21_ref.f k (([1, 2, 3] : List Int))).bind fun qP => ((swagelaw21_is.f k (rd_L5 bt384.1 0) qP).bind fun qQ => (if qQ = true then (if 1 < (bt384.1.length : Int) then ((swagelaw21_ref.f k (([4, 5, 0] : List Int))).bind fun qL => ((swagelaw21_is.f k (rd_L5 bt384.1 1) qL).bind fun qM => (if qM = true then (if bt388.1 = 3 then ((swagelaw21_ref.f k (([1, 2, 13, 20, 130] : List Int))).bind fun qI => ((swagelaw21_is.f k bt411.1 qI).bind fun qJ => (some qJ))) else (some false)) else (some false)))) else (none)) else (some false)))) else (none)) else (some false)) else (some false)) else (some false)) else (some false))))))))) = some r := zH hy378 H
 have Ny378 := aM hy378
 clear hy378
 replace H := zbs H
 obtain ⟨qW, A10, H⟩ := H
 replace H : ((split_Parts.f k qW 2 3).bind fun bt384 => ((split_Block.f k 7 5 3 2).bind fun bt388 => ((swagelaw21_list.f k (([1, 2, 3] : List Int))).bind fun qY => ((swagelaw21_list.f k (([10, 20, 30] : List Int))).bind fun qV => ((swagelaw21_list.f k (([100] : List Int))).bind fun qU => ((split_Join.f k (([qY, qV, qU] : List (List (S39)))) 2 5).bind fun bt411 => (if bt384.2 = 0 then (if bt388.2 = 0 then (if bt411.2 = 0 then (if (bt384.1.length : Int) = 2 then (if 0 < (bt384.1.length : Int) then ((swagelaw21_ref.f k (([1, 2, 3] : List Int))).bind fun qP => ((swagelaw21_is.f k (rd_L5 bt384.1 0) qP).bind fun qQ => (if qQ = true then (if 1 < (bt384.1.length : Int) then ((swagelaw21_ref.f k (([4, 5, 0] : List Int))).bind fun qL => ((swagelaw21_is.f k (rd_L5 bt384.1 1) qL).bind fun qM => (if qM = true then (if bt388.1 = 3 then ((swagelaw21_ref.f k (([1, 2, 13, 20, 130] : List Int))).bind fun qI => ((swagelaw21_is.f k bt411.1 qI).bind fun qJ => (some qJ))) else (some false)) else (some false)))) else (none)) else (some false)))) else (none)) else (some false)) else (some false)) else (some false)) else (some false)))))))) = some r := H
 have A1 := aM A10
 clear A10
 replace H := zbs H
 obtain ⟨⟨qA, qi⟩, A20, H⟩ := H
 replace H : ((split_Block.f k 7 5 3 2).bind fun bt388 => ((swagelaw21_list.f k (([1, 2, 3] : List Int))).bind fun qY => ((swagelaw21_list.f k (([10, 20, 30] : List Int))).bind fun qV => ((swagelaw21_list.f k (([100] : List Int))).bind fun qU => ((split_Join.f k (([qY, qV, qU] : List (List (S39)))) 2 5).bind fun bt411 => (if qi = 0 then (if bt388.2 = 0 then (if bt411.2 = 0 then (if (qA.length : Int) = 2 then (if 0 < (qA.length : Int) then ((swagelaw21_ref.f k (([1, 2, 3] : List Int))).bind fun qP => ((swagelaw21_is.f k (rd_L5 qA 0) qP).bind fun qQ => (if qQ = true then (if 1 < (qA.length : Int) then ((swagelaw21_ref.f k (([4, 5, 0] : List Int))).bind fun qL => ((swagelaw21_is.f k (rd_L5 qA 1) qL).bind fun qM => (if qM = true then (if bt388.1 = 3 then ((swagelaw21_ref.f k (([1, 2, 13, 20, 130] : List Int))).bind fun qI => ((swagelaw21_is.f k bt411.1 qI).bind fun qJ => (some qJ))) else (some false)) else (some false)))) else (none)) else (some false)))) else (none)) else (some false)) else (some false)) else (some false)) else (some false))))))) = some r := H
 have A2 := aM A20
 clear A20
 replace H := zbs H
 obtain ⟨⟨qZ, qm⟩, A30, H⟩ := H
 replace H : ((swagelaw21_list.f k (([1, 2, 3] : List Int))).bind fun qY => ((swagelaw21_list.f k (([10, 20, 30] : List Int))).bind fun qV => ((swagelaw21_list.f k (([100] : List Int))).bind fun qU => ((split_Join.f k (([qY, qV, qU] : List (List (S39)))) 2 5).bind fun bt411 => (if qi = 0 then (if qm = 0 then (if bt411.2 = 0 then (if (qA.length : Int) = 2 then (if 0 < (qA.length : Int) then ((swagelaw21_ref.f k (([1, 2, 3] : List Int))).bind fun qP => ((swagelaw21_is.f k (rd_L5 qA 0) qP).bind fun qQ => (if qQ = true then (if 1 < (qA.length : Int) then ((swagelaw21_ref.f k (([4, 5, 0] : List Int))).bind fun qL => ((swagelaw21_is.f k (rd_L5 qA 1) qL).bind fun qM => (if qM = true then (if qZ = 3 then ((swagelaw21_ref.f k (([1, 2, 13, 20, 130] : List Int))).bind fun qI => ((swagelaw21_is.f k bt411.1 qI).bind fun qJ => (some qJ))) else (some false)) else (some false)))) else (none)) else (some false)))) else (none)) else (some false)) else (some false)) else (some false)) else (some false)))))) = some r := H
 have A3 := aM A30
 clear A30
 obtain ⟨y390, hy390⟩ : ∃ y_ : List Int, y_ = (([1, 2, 3] : List Int)) := ⟨_, rfl⟩
 replace H : ((swagelaw21_list.f k y390).bind fun qY => ((swagelaw21_list.f k (([10, 20, 30] : List Int))).bind fun qV => ((swagelaw21_list.f k (([100] : List Int))).bind fun qU => ((split_Join.f k (([qY, qV, qU] : List (List (S39)))) 2 5).bind fun bt411 => (if qi = 0 then (if qm = 0 then (if bt411.2 = 0 then (if (qA.length : Int) = 2 then (if 0 < (qA.length : Int) then ((swagelaw21_ref.f k (([1, 2, 3] : List Int))).bind fun qP => ((swagelaw21_is.f k (rd_L5 qA 0) qP).bind fun qQ => (if qQ = true then (if 1 < (qA.length : Int) then ((swagelaw21_ref.f k (([4, 5, 0] : List Int))).bind fun qL => ((swagelaw21_is.f k (rd_L5 qA 1) qL).bind fun qM => (if qM = true then (if qZ = 3 then ((swagelaw21_ref.f k (([1, 2, 13, 20, 130] : List Int))).bind fun qI => ((swagelaw21_is.f k bt411.1 qI).bind fun qJ => (some qJ))) else (some false)) else (some false)))) else (none)) else (some false)))) else (none)) else (some false)) else (some false)) else (some false)) else (some false)))))) = some r := zH hy390 H
 have Ny390 := aM hy390
 clear hy390
 replace H := zbs H
 obtain ⟨qY, A40, H⟩ := H
 replace H : ((swagelaw21_list.f k (([10, 20, 30] : List Int))).bind fun qV => ((swagelaw21_list.f k (([100] : List Int))).bind fun qU => ((split_Join.f k (([qY, qV, qU] : List (List (S39)))) 2 5).bind fun bt411 => (if qi = 0 then (if qm = 0 then (if bt411.2 = 0 then (if (qA.length : Int) = 2 then (if 0 < (qA.length : Int) then ((swagelaw21_ref.f k (([1, 2, 3] : List Int))).bind fun qP => ((swagelaw21_is.f k (rd_L5 qA 0) qP).bind fun qQ => (if qQ = true then (if 1 < (qA.length : Int) then ((swagelaw21_ref.f k (([4, 5, 0] : List Int))).bind fun qL => ((swagelaw21_is.f k (rd_L5 qA 1) qL).bind fun qM => (if qM = true then (if qZ = 3 then ((swagelaw21_ref.f k (([1, 2, 13, 20, 130] : List Int))).bind fun qI => ((swagelaw21_is.f k bt411.1 qI).bind fun qJ => (some qJ))) else (some false)) else (some false)))) else (none)) else (some false)))) else (none)) else (some false)) else (some false)) else (some false)) else (some false))))) = some r := H
 have A4 := aM A40
 clear A40
 obtain ⟨y396, hy396⟩ : ∃ y_ : List Int, y_ = (([10, 20, 30] : List Int)) := ⟨_, rfl⟩
 replace H : ((swagelaw21_list.f k y396).bind fun qV => ((swagelaw21_list.f k (([100] : List Int))).bind fun qU => ((split_Join.f k (([qY, qV, qU] : List (List (S39)))) 2 5).bind fun bt411 => (if qi = 0 then (if qm = 0 then (if bt411.2 = 0 then (if (qA.length : Int) = 2 then (if 0 < (qA.length : Int) then ((swagelaw21_ref.f k (([1, 2, 3] : List Int))).bind fun qP => ((swagelaw21_is.f k (rd_L5 qA 0) qP).bind fun qQ => (if qQ = true then (if 1 < (qA.length : Int) then ((swagelaw21_ref.f k (([4, 5, 0] : List Int))).bind fun qL => ((swagelaw21_is.f k (rd_L5 qA 1) qL).bind fun qM => (if qM = true then (if qZ = 3 then ((swagelaw21_ref.f k (([1, 2, 13, 20, 130] : List Int))).bind fun qI => ((swagelaw21_is.f k bt411.1 qI).bind fun qJ => (some qJ))) else (some false)) else (some false)))) else (none)) else (some false)))) else (none)) else (some false)) else (some false)) else (some false)) else (some false))))) = some r := zH hy396 H
 have Ny396 := aM hy396
 clear hy396
 replace H := zbs H
 obtain ⟨qV, A50, H⟩ := H
 replace H : ((swagelaw21_list.f k (([100] : List Int))).bind fun qU => ((split_Join.f k (([qY, qV, qU] : List (List (S39)))) 2 5).bind fun bt411 => (if qi = 0 then (if qm = 0 then (if bt411.2 = 0 then (if (qA.length : Int) = 2 then (if 0 < (qA.length : Int) then ((swagelaw21_ref.f k (([1, 2, 3] : List Int))).bind fun qP => ((swagelaw21_is.f k (rd_L5 qA 0) qP).bind fun qQ => (if qQ = true then (if 1 < (qA.length : Int) then ((swagelaw21_ref.f k (([4, 5, 0] : List Int))).bind fun qL => ((swagelaw21_is.f k (rd_L5 qA 1) qL).bind fun qM => (if qM = true then (if qZ = 3 then ((swagelaw21_ref.f k (([1, 2, 13, 20, 130] : List Int))).bind fun qI => ((swagelaw21_is.f k bt411.1 qI).bind fun qJ => (some qJ))) else (some false)) else (some false)))) else (none)) else (some false)))) else (none)) else (some false)) else (some false)) else (some false)) else (some false)))) = some r := H
 have A5 := aM A50
 clear A50
 obtain ⟨y402, hy402⟩ : ∃ y_ : List Int, y_ = (([100] : List Int)) := ⟨_, rfl⟩
 replace H : ((swagelaw21_list.f k y402).bind fun qU => ((split_Join.f k (([qY, qV, qU] : List (List (S39)))) 2 5).bind fun bt411 => (if qi = 0 then (if qm = 0 then (if bt411.2 = 0 then (if (qA.length : Int) = 2 then (if 0 < (qA.length : Int) then ((swagelaw21_ref.f k (([1, 2, 3] : List Int))).bind fun qP => ((swagelaw21_is.f k (rd_L5 qA 0) qP).bind fun qQ => (if qQ = true then (if 1 < (qA.length : Int) then ((swagelaw21_ref.f k (([4, 5, 0] : List Int))).bind fun qL => ((swagelaw21_is.f k (rd_L5 qA 1) qL).bind fun qM => (if qM = true then (if qZ = 3 then ((swagelaw21_ref.f k (([1, 2, 13, 20, 130] : List Int))).bind fun qI => ((swagelaw21_is.f k bt411.1 qI).bind fun qJ => (some qJ))) else (some false)) else (some false)))) else (none)) else (some false)))) else (none)) else (some false)) else (some false)) else (some false)) else (some false)))) = some r := zH hy402 H
 have Ny402 := aM hy402
 clear hy402
 replace H := zbs H
 obtain ⟨qU, A60, H⟩ := H
 replace H : ((split_Join.f k (([qY, qV, qU] : List (List (S39)))) 2 5).bind fun bt411 => (if qi = 0 then (if qm = 0 then (if bt411.2 = 0 then (if (qA.length : Int) = 2 then (if 0 < (qA.length : Int) then ((swagelaw21_ref.f k (([1, 2, 3] : List Int))).bind fun qP => ((swagelaw21_is.f k (rd_L5 qA 0) qP).bind fun qQ => (if qQ = true then (if 1 < (qA.length : Int) then ((swagelaw21_ref.f k (([4, 5, 0] : List Int))).bind fun qL => ((swagelaw21_is.f k (rd_L5 qA 1) qL).bind fun qM => (if qM = true then (if qZ = 3 then ((swagelaw21_ref.f k (([1, 2, 13, 20, 130] : List Int))).bind fun qI => ((swagelaw21_is.f k bt411.1 qI).bind fun qJ => (some qJ))) else (some false)) else (some false)))) else (none)) else (some false)))) else (none)) else (some false)) else (some false)) else (some false)) else (some false))) = some r := H
 have A6 := aM A60
 clear A60
 obtain ⟨y408, hy408⟩ : ∃ y_ : List (List (S39)), y_ = (([qY, qV, qU] : List (List (S39)))) := ⟨_, rfl⟩
 replace H : ((split_Join.f k y408 2 5).bind fun bt411 => (if qi = 0 then (if qm = 0 then (if bt411.2 = 0 then (if (qA.length : Int) = 2 then (if 0 < (qA.length : Int) then ((swagelaw21_ref.f k (([1, 2, 3] : List Int))).bind fun qP => ((swagelaw21_is.f k (rd_L5 qA 0) qP).bind fun qQ => (if qQ = true then (if 1 < (qA.length : Int) then ((swagelaw21_ref.f k (([4, 5, 0] : List Int))).bind fun qL => ((swagelaw21_is.f k (rd_L5 qA 1) qL).bind fun qM => (if qM = true then (if qZ = 3 then ((swagelaw21_ref.f k (([1, 2, 13, 20, 130] : List Int))).bind fun qI => ((swagelaw21_is.f k bt411.1 qI).bind fun qJ => (some qJ))) else (some false)) else (some false)))) else (none)) else (some false)))) else (none)) else (some false)) else (some false)) else (some false)) else (some false))) = some r := zH hy408 H
 have Ny408 := aM hy408
 clear hy408
 replace H := zbs H
 obtain ⟨⟨qp, qs⟩, A70, H⟩ := H
 replace H : (if qi = 0 then (if qm = 0 then (if qs = 0 then (if (qA.length : Int) = 2 then (if 0 < (qA.length : Int) then ((swagelaw21_ref.f k (([1, 2, 3] : List Int))).bind fun qP => ((swagelaw21_is.f k (rd_L5 qA 0) qP).bind fun qQ => (if qQ = true then (if 1 < (qA.length : Int) then ((swagelaw21_ref.f k (([4, 5, 0] : List Int))).bind fun qL => ((swagelaw21_is.f k (rd_L5 qA 1) qL).bind fun qM => (if qM = true then (if qZ = 3 then ((swagelaw21_ref.f k (([1, 2, 13, 20, 130] : List Int))).bind fun qI => ((swagelaw21_is.f k qp qI).bind fun qJ => (some qJ))) else (some false)) else (some false)))) else (none)) else (some false)))) else (none)) else (some false)) else (some false)) else (some false)) else (some false)) = some r := H
 have A7 := aM A70
 clear A70
 by_cases c8 : qi = 0
 ·rw [if_pos c8] at H
  have c8b0 : (qi == 0) = true := beq_iff_eq.mpr c8
  have c8b1 : (qi != 0) = false := bne_eq_false_iff_eq.mpr c8
  clear c8
  by_cases c9 : qm = 0
  ·rw [if_pos c9] at H
   have c9b0 : (qm == 0) = true := beq_iff_eq.mpr c9
   have c9b1 : (qm != 0) = false := bne_eq_false_iff_eq.mpr c9
   clear c9
   by_cases c10 : qs = 0
   ·rw [if_pos c10] at H
    have c10b0 : (qs == 0) = true := beq_iff_eq.mpr c10
    have c10b1 : (qs != 0) = false := bne_eq_false_iff_eq.mpr c10
    clear c10
    by_cases c11 : (qA.length : Int) = 2
    ·rw [if_pos c11] at H
     have c11b0 : ((qA.length : Int) == 2) = true := beq_iff_eq.mpr c11
     have c11b1 : ((qA.length : Int) != 2) = false := bne_eq_false_iff_eq.mpr c11
     clear c11
     by_cases c12 : 0 < (qA.length : Int)
     ·rw [if_pos c12] at H
      have c12b0 := decide_eq_true c12
      have c12b1 : decide (0 < qA.length) = true := decide_eq_true (by omega)
      clear c12
      obtain ⟨y416, hy416⟩ : ∃ y_ : List Int, y_ = (([1, 2, 3] : List Int)) := ⟨_, rfl⟩
      replace H : ((swagelaw21_ref.f k y416).bind fun qP => ((swagelaw21_is.f k (rd_L5 qA 0) qP).bind fun qQ => (if qQ = true then (if 1 < (qA.length : Int) then ((swagelaw21_ref.f k (([4, 5, 0] : List Int))).bind fun qL => ((swagelaw21_is.f k (rd_L5 qA 1) qL).bind fun qM => (if qM = true then (if qZ = 3 then ((swagelaw21_ref.f k (([1, 2, 13, 20, 130] : List Int))).bind fun qI => ((swagelaw21_is.f k qp qI).bind fun qJ => (some qJ))) else (some false)) else (some false)))) else (none)) else (some false)))) = some r := zH hy416 H
      have Ny416 := aM hy416
      clear hy416
      replace H := zbs H
      obtain ⟨qP, A130, H⟩ := H
      replace H : ((swagelaw21_is.f k (rd_L5 qA 0) qP).bind fun qQ => (if qQ = true then (if 1 < (qA.length : Int) then ((swagelaw21_ref.f k (([4, 5, 0] : List Int))).bind fun qL => ((swagelaw21_is.f k (rd_L5 qA 1) qL).bind fun qM => (if qM = true then (if qZ = 3 then ((swagelaw21_ref.f k (([1, 2, 13, 20, 130] : List Int))).bind fun qI => ((swagelaw21_is.f k qp qI).bind fun qJ => (some qJ))) else (some false)) else (some false)))) else (none)) else (some false))) = some r := H
      have A13 := aM A130
      clear A130
      replace H := zbs H
      obtain ⟨qQ, A140, H⟩ := H
      replace H : (if qQ = true then (if 1 < (qA.length : Int) then ((swagelaw21_ref.f k (([4, 5, 0] : List Int))).bind fun qL => ((swagelaw21_is.f k (rd_L5 qA 1) qL).bind fun qM => (if qM = true then (if qZ = 3 then ((swagelaw21_ref.f k (([1, 2, 13, 20, 130] : List Int))).bind fun qI => ((swagelaw21_is.f k qp qI).bind fun qJ => (some qJ))) else (some false)) else (some false)))) else (none)) else (some false)) = some r := H
      have A14 := aM A140
      clear A140
      by_cases c15 : qQ = true
      ·subst c15
       have H1 : (if 1 < (qA.length : Int) then ((swagelaw21_ref.f k (([4, 5, 0] : List Int))).bind fun qL => ((swagelaw21_is.f k (rd_L5 qA 1) qL).bind fun qM => (if qM = true then (if qZ = 3 then ((swagelaw21_ref.f k (([1, 2, 13, 20, 130] : List Int))).bind fun qI => ((swagelaw21_is.f k qp qI).bind fun qJ => (some qJ))) else (some false)) else (some false)))) else (none)) = some r := by rw [if_pos rfl] at H; exact H
       clear H
       have H := H1
       clear H1
       by_cases c16 : 1 < (qA.length : Int)
       ·rw [if_pos c16] at H
        have c16b0 := decide_eq_true c16
        have c16b1 : decide (1 < qA.length) = true := decide_eq_true (by omega)
        clear c16
        obtain ⟨y424, hy424⟩ : ∃ y_ : List Int, y_ = (([4, 5, 0] : List Int)) := ⟨_, rfl⟩
        replace H : ((swagelaw21_ref.f k y424).bind fun qL => ((swagelaw21_is.f k (rd_L5 qA 1) qL).bind fun qM => (if qM = true then (if qZ = 3 then ((swagelaw21_ref.f k (([1, 2, 13, 20, 130] : List Int))).bind fun qI => ((swagelaw21_is.f k qp qI).bind fun qJ => (some qJ))) else (some false)) else (some false)))) = some r := zH hy424 H
        have Ny424 := aM hy424
        clear hy424
        replace H := zbs H
        obtain ⟨qL, A170, H⟩ := H
        replace H : ((swagelaw21_is.f k (rd_L5 qA 1) qL).bind fun qM => (if qM = true then (if qZ = 3 then ((swagelaw21_ref.f k (([1, 2, 13, 20, 130] : List Int))).bind fun qI => ((swagelaw21_is.f k qp qI).bind fun qJ => (some qJ))) else (some false)) else (some false))) = some r := H
        have A17 := aM A170
        clear A170
        replace H := zbs H
        obtain ⟨qM, A180, H⟩ := H
        replace H : (if qM = true then (if qZ = 3 then ((swagelaw21_ref.f k (([1, 2, 13, 20, 130] : List Int))).bind fun qI => ((swagelaw21_is.f k qp qI).bind fun qJ => (some qJ))) else (some false)) else (some false)) = some r := H
        have A18 := aM A180
        clear A180
        by_cases c19 : qM = true
        ·subst c19
         have H1 : (if qZ = 3 then ((swagelaw21_ref.f k (([1, 2, 13, 20, 130] : List Int))).bind fun qI => ((swagelaw21_is.f k qp qI).bind fun qJ => (some qJ))) else (some false)) = some r := by rw [if_pos rfl] at H; exact H
         clear H
         have H := H1
         clear H1
         by_cases c20 : qZ = 3
         ·rw [if_pos c20] at H
          have c20b0 : (qZ == 3) = true := beq_iff_eq.mpr c20
          have c20b1 : (qZ != 3) = false := bne_eq_false_iff_eq.mpr c20
          clear c20
          obtain ⟨y431, hy431⟩ : ∃ y_ : List Int, y_ = (([1, 2, 13, 20, 130] : List Int)) := ⟨_, rfl⟩
          replace H : ((swagelaw21_ref.f k y431).bind fun qI => ((swagelaw21_is.f k qp qI).bind fun qJ => (some qJ))) = some r := zH hy431 H
          have Ny431 := aM hy431
          clear hy431
          replace H := zbs H
          obtain ⟨qI, A210, H⟩ := H
          replace H : ((swagelaw21_is.f k qp qI).bind fun qJ => (some qJ)) = some r := H
          have A21 := aM A210
          clear A210
          replace H := zbs H
          obtain ⟨qJ, A220, H⟩ := H
          replace H : (some qJ) = some r := H
          have A22 := aM A220
          clear A220
          obtain rfl := Option.some.inj H
          go_enter Tryd.func10, Tryd.ntmps10
          try go_wp2_with (first | ((with_reducible refine gate_dst (N := 8) rfl ?_); (try (refine gate_guard (by rfl) ?_; dsimp only)); refine Kd.R_lit (Kd.int .i64) _ 2 ?hg (N := 8) ?hd (xs := ([1, 2, 3, 4, 5] : List Int)) (inner := [.int .i64 1, .int .i64 2, .int .i64 3, .int .i64 4, .int .i64 5]) (ok := fun _ => True) (okp := fun _ => True) ?hr ?hp (fun _ hk => hk) trivial (Below.refl _ _) (Nat.le_refl _) (by simp) ?_; (case hd => rfl); (case hg => rfl); (case hr => first | (go_simp; done) | (go_simp; rfl)); (case hp => exact (Reps.one (show Kd.M (Kd.int .i64) _ _ _ 1 [.int .i64 1] from rfl) (Reps.one (show Kd.M (Kd.int .i64) _ _ _ 2 [.int .i64 2] from rfl) (Reps.one (show Kd.M (Kd.int .i64) _ _ _ 3 [.int .i64 3] from rfl) (Reps.one (show Kd.M (Kd.int .i64) _ _ _ 4 [.int .i64 4] from rfl) (Reps.one (show Kd.M (Kd.int .i64) _ _ _ 5 [.int .i64 5] from rfl) (Reps.none _ _))))))); intro v379 w23 ho24 hb hg_ hnew_; clear hg_ hnew_; (first | rw [← Ny378.out] at ho24 | (simp only [Int.reduceToNat] at ho24; rw [← Ny378.out] at ho24)); have qB := aM (Kd.z20_ ho24 (z4_ (lB HB))); replace HB := aM (z6_ (lB HB) hb); clear hb ho24; obtain ⟨qb, qc, eo25⟩ := Kd.R_slice qB.out; subst eo25) | ((with_reducible refine gate_callee (f := 11) rfl ?_); refine z13_ (some 9) rfl rfl Tryd.func11 zk rfl #[.slice qb y378.length qc] rfl zA ?_; (with_reducible refine (swagelaw21_list.calls k _ _ y378 qW _ ?side1 ?side2 A1.out).mono ?_); (case side1 => refine lY ?_; exact (Kd.z9_ qB.out).2.2); (case side2 => exact (Kd.z9_ qB.out).2.1); rintro e w26 ⟨v382, rfl, ho0, hb⟩; refine ⟨_, rfl, ?_⟩; have qD := aM (Kd.N_lower (Kd.N_mono (ok' := fun k_ => some k_ ≠ (.slice qb y378.length qc : Value).ownBlock) ho0 (fun k_ hk_ => (Kd.fresh' (Kd.R_lt (lR qB)) k_ hk_))) (z4_ (lB HB))); replace qB := aM (Kd.z7_ (lR qB) hb); replace HB := aM (z6_ (lB HB) hb); (try clear hb); (try clear ho0); obtain ⟨qe, qf, eo27⟩ := Kd.N_slice qD.out; subst eo27) | ((with_reducible refine gate_callee (f := 12) rfl ?_); refine z13_ (some 10) rfl rfl Tryd.func12 zk rfl #[.slice qe qW.length qf, .int .i64 2, .int .i64 3] rfl zA ?_; (with_reducible refine (split_Parts.calls k (fun k_ => some k_ ≠ (.slice qb y378.length qc : Value).ownBlock) _ _ qW 2 3 qA qi _ ?side1 A2.out).mono ?_); (case side1 => exact Kd.N_V (qD.out)); rintro e w28 ⟨v385, rfl, ho0, hb⟩; refine ⟨_, rfl, ?_⟩; replace qD := aM (Kd.N_elder' (lN qD) (Kd.N_base ho0) hb); have qC := aM (Kd.N_lower (Kd.N_mono (ok' := fun k_ => some k_ ≠ (.slice qb y378.length qc : Value).ownBlock) ho0 (fun k_ hk_ => Or.elim hk_ (fun hs_ => hs_) (fun hn_ => (Kd.fresh' (Kd.R_lt (lR qB)) k_ hn_)))) (z4_ (lB HB))); replace qB := aM (Kd.z7_ (lR qB) hb); replace HB := aM (z6_ (lB HB) hb); (try clear hb); (try clear ho0)) | ((with_reducible refine gate_callee (f := 20) rfl ?_); refine z13_ (some 14) rfl rfl Tryd.func20 zk rfl #[.int .i64 7, .int .i64 5, .int .i64 3, .int .i64 2] rfl zA ?_; (with_reducible refine (split_Block.calls k 7 5 3 2 qZ qm _ A3.out).mono ?_); rintro e w29 ⟨rfl, hb⟩; refine ⟨_, rfl, ?_⟩; replace qB := aM (Kd.z7_ (lR qB) hb); replace qD := aM (Kd.N_below (lN qD) hb); replace qC := aM (Kd.N_below (lN qC) hb); replace HB := aM (z6_ (lB HB) hb); (try clear hb)) | ((with_reducible refine gate_dst (N := 18) rfl ?_); (try (refine gate_guard (by rfl) ?_; dsimp only)); refine Kd.R_lit (Kd.int .i64) _ 2 ?hg (N := 18) ?hd (xs := ([1, 2, 3] : List Int)) (inner := [.int .i64 1, .int .i64 2, .int .i64 3]) (ok := fun _ => True) (okp := fun _ => True) ?hr ?hp (fun _ hk => hk) trivial (Below.refl _ _) (Nat.le_refl _) (by simp) ?_; (case hd => rfl); (case hg => rfl); (case hr => first | (go_simp; done) | (go_simp; rfl)); (case hp => exact (Reps.one (show Kd.M (Kd.int .i64) _ _ _ 1 [.int .i64 1] from rfl) (Reps.one (show Kd.M (Kd.int .i64) _ _ _ 2 [.int .i64 2] from rfl) (Reps.one (show Kd.M (Kd.int .i64) _ _ _ 3 [.int .i64 3] from rfl) (Reps.none _ _))))); intro v391 w30 ho31 hb hg_ hnew_; clear hg_ hnew_; (first | rw [← Ny390.out] at ho31 | (simp only [Int.reduceToNat] at ho31; rw [← Ny390.out] at ho31)); replace qD := aM (Kd.N_elder' (lN qD) (Kd.R_base ho31) hb); replace qC := aM (Kd.N_elder' (lN qC) (Kd.R_base ho31) hb); have qE := aM (Kd.z20_ (Kd.z21_ ho31 (Kd.R_lt (lR qB))) (z4_ (lB HB))); replace qB := aM (Kd.z17_ (lR qB) (Kd.R_base ho31) hb); replace HB := aM (z6_ (lB HB) hb); clear hb ho31; obtain ⟨qg, qh, eo32⟩ := Kd.R_slice qE.out; subst eo32) | ((with_reducible refine gate_callee (f := 11) rfl ?_); refine z13_ (some 19) rfl rfl Tryd.func11 zk rfl #[.slice qg y390.length qh] rfl zA ?_; (with_reducible refine (swagelaw21_list.calls k _ _ y390 qY _ ?side1 ?side2 A4.out).mono ?_); (case side1 => refine lY ?_; exact (Kd.z9_ qE.out).2.2); (case side2 => exact (Kd.z9_ qE.out).2.1); rintro e w33 ⟨v394, rfl, ho0, hb⟩; refine ⟨_, rfl, ?_⟩; have qd := aM (Kd.N_lower (Kd.N_mono (ok' := fun k_ => some k_ ≠ (.slice qb y378.length qc : Value).ownBlock ∧ some k_ ≠ (.slice qe qW.length qf : Value).ownBlock ∧ some k_ ≠ (v385 : Value).ownBlock ∧ some k_ ≠ (.slice qg y390.length qh : Value).ownBlock) ho0 (fun k_ hk_ => ⟨(Kd.fresh' (Kd.R_lt (lR qB)) k_ hk_), (Kd.fresh' (Kd.N_lt (lN qD)) k_ hk_), (Kd.fresh' (Kd.N_lt (lN qC)) k_ hk_), (Kd.fresh' (Kd.R_lt (lR qE)) k_ hk_)⟩)) (z4_ (lB HB))); replace qB := aM (Kd.z7_ (lR qB) hb); replace qD := aM (Kd.N_elder' (lN qD) (Kd.N_base ho0) hb); replace qC := aM (Kd.N_elder' (lN qC) (Kd.N_base ho0) hb); replace qE := aM (Kd.z7_ (lR qE) hb); replace HB := aM (z6_ (lB HB) hb); (try clear hb); (try clear ho0)) | ((with_reducible refine gate_dst (N := 20) rfl ?_); (try (refine gate_guard (by rfl) ?_; dsimp only)); refine Kd.R_lit (Kd.int .i64) _ 2 ?hg (N := 20) ?hd (xs := ([10, 20, 30] : List Int)) (inner := [.int .i64 10, .int .i64 20, .int .i64 30]) (ok := fun _ => True) (okp := fun _ => True) ?hr ?hp (fun _ hk => hk) trivial (Below.refl _ _) (Nat.le_refl _) (by simp) ?_; (case hd => rfl); (case hg => rfl); (case hr => first | (go_simp; done) | (go_simp; rfl)); (case hp => exact (Reps.one (show Kd.M (Kd.int .i64) _ _ _ 10 [.int .i64 10] from rfl) (Reps.one (show Kd.M (Kd.int .i64) _ _ _ 20 [.int .i64 20] from rfl) (Reps.one (show Kd.M (Kd.int .i64) _ _ _ 30 [.int .i64 30] from rfl) (Reps.none _ _))))); intro v397 w34 ho35 hb hg_ hnew_; clear hg_ hnew_; (first | rw [← Ny396.out] at ho35 | (simp only [Int.reduceToNat] at ho35; rw [← Ny396.out] at ho35)); replace qD := aM (Kd.N_elder' (lN qD) (Kd.R_base ho35) hb); replace qC := aM (Kd.N_elder' (lN qC) (Kd.R_base ho35) hb); replace qd := aM (Kd.N_elder' (lN qd) (Kd.R_base ho35) hb); have qF := aM (Kd.z20_ (Kd.z21_ (Kd.z21_ ho35 (Kd.R_lt (lR qB))) (Kd.R_lt (lR qE))) (z4_ (lB HB))); replace qB := aM (Kd.z17_ (lR qB) (Kd.R_base ho35) hb); replace qE := aM (Kd.z17_ (lR qE) (Kd.R_base ho35) hb); replace HB := aM (z6_ (lB HB) hb); clear hb ho35; obtain ⟨qj, qk, eo36⟩ := Kd.R_slice qF.out; subst eo36) | ((with_reducible refine gate_callee (f := 11) rfl ?_); refine z13_ (some 21) rfl rfl Tryd.func11 zk rfl #[.slice qj y396.length qk] rfl zA ?_; (with_reducible refine (swagelaw21_list.calls k _ _ y396 qV _ ?side1 ?side2 A5.out).mono ?_); (case side1 => refine lY ?_; exact (Kd.z9_ qF.out).2.2); (case side2 => exact (Kd.z9_ qF.out).2.1); rintro e w37 ⟨v400, rfl, ho0, hb⟩; refine ⟨_, rfl, ?_⟩; have qq := aM (Kd.N_lower (Kd.N_mono (ok' := fun k_ => some k_ ≠ (.slice qb y378.length qc : Value).ownBlock ∧ some k_ ≠ (.slice qe qW.length qf : Value).ownBlock ∧ some k_ ≠ (v385 : Value).ownBlock ∧ some k_ ≠ (.slice qg y390.length qh : Value).ownBlock ∧ some k_ ≠ (v394 : Value).ownBlock ∧ some k_ ≠ (.slice qj y396.length qk : Value).ownBlock) ho0 (fun k_ hk_ => ⟨(Kd.fresh' (Kd.R_lt (lR qB)) k_ hk_), (Kd.fresh' (Kd.N_lt (lN qD)) k_ hk_), (Kd.fresh' (Kd.N_lt (lN qC)) k_ hk_), (Kd.fresh' (Kd.R_lt (lR qE)) k_ hk_), (Kd.fresh' (Kd.N_lt (lN qd)) k_ hk_), (Kd.fresh' (Kd.R_lt (lR qF)) k_ hk_)⟩)) (z4_ (lB HB))); replace qB := aM (Kd.z7_ (lR qB) hb); replace qD := aM (Kd.N_elder' (lN qD) (Kd.N_base ho0) hb); replace qC := aM (Kd.N_elder' (lN qC) (Kd.N_base ho0) hb); replace qE := aM (Kd.z7_ (lR qE) hb); replace qd := aM (Kd.N_elder' (lN qd) (Kd.N_base ho0) hb); replace qF := aM (Kd.z7_ (lR qF) hb); replace HB := aM (z6_ (lB HB) hb); (try clear hb); (try clear ho0)) | ((with_reducible refine gate_dst (N := 22) rfl ?_); (try (refine gate_guard (by rfl) ?_; dsimp only)); refine Kd.R_lit (Kd.int .i64) _ 2 ?hg (N := 22) ?hd (xs := ([100] : List Int)) (inner := [.int .i64 100]) (ok := fun _ => True) (okp := fun _ => True) ?hr ?hp (fun _ hk => hk) trivial (Below.refl _ _) (Nat.le_refl _) (by simp) ?_; (case hd => rfl); (case hg => rfl); (case hr => first | (go_simp; done) | (go_simp; rfl)); (case hp => exact (Reps.one (show Kd.M (Kd.int .i64) _ _ _ 100 [.int .i64 100] from rfl) (Reps.none _ _))); intro v403 w38 ho39 hb hg_ hnew_; clear hg_ hnew_; (first | rw [← Ny402.out] at ho39 | (simp only [Int.reduceToNat] at ho39; rw [← Ny402.out] at ho39)); replace qD := aM (Kd.N_elder' (lN qD) (Kd.R_base ho39) hb); replace qC := aM (Kd.N_elder' (lN qC) (Kd.R_base ho39) hb); replace qd := aM (Kd.N_elder' (lN qd) (Kd.R_base ho39) hb); replace qq := aM (Kd.N_elder' (lN qq) (Kd.R_base ho39) hb); have qH := aM (Kd.z20_ (Kd.z21_ (Kd.z21_ (Kd.z21_ ho39 (Kd.R_lt (lR qB))) (Kd.R_lt (lR qE))) (Kd.R_lt (lR qF))) (z4_ (lB HB))); replace qB := aM (Kd.z17_ (lR qB) (Kd.R_base ho39) hb); replace qE := aM (Kd.z17_ (lR qE) (Kd.R_base ho39) hb); replace qF := aM (Kd.z17_ (lR qF) (Kd.R_base ho39) hb); replace HB := aM (z6_ (lB HB) hb); clear hb ho39; obtain ⟨qn, qo, eo40⟩ := Kd.R_slice qH.out; subst eo40) | ((with_reducible refine gate_callee (f := 11) rfl ?_); refine z13_ (some 23) rfl rfl Tryd.func11 zk rfl #[.slice qn y402.length qo] rfl zA ?_; (with_reducible refine (swagelaw21_list.calls k _ _ y402 qU _ ?side1 ?side2 A6.out).mono ?_); (case side1 => refine lY ?_; exact (Kd.z9_ qH.out).2.2); (case side2 => exact (Kd.z9_ qH.out).2.1); rintro e w41 ⟨v406, rfl, ho0, hb⟩; refine ⟨_, rfl, ?_⟩; have qu := aM (Kd.N_lower (Kd.N_mono (ok' := fun k_ => some k_ ≠ (.slice qb y378.length qc : Value).ownBlock ∧ some k_ ≠ (.slice qe qW.length qf : Value).ownBlock ∧ some k_ ≠ (v385 : Value).ownBlock ∧ some k_ ≠ (.slice qg y390.length qh : Value).ownBlock ∧ some k_ ≠ (v394 : Value).ownBlock ∧ some k_ ≠ (.slice qj y396.length qk : Value).ownBlock ∧ some k_ ≠ (v400 : Value).ownBlock ∧ some k_ ≠ (.slice qn y402.length qo : Value).ownBlock) ho0 (fun k_ hk_ => ⟨(Kd.fresh' (Kd.R_lt (lR qB)) k_ hk_), (Kd.fresh' (Kd.N_lt (lN qD)) k_ hk_), (Kd.fresh' (Kd.N_lt (lN qC)) k_ hk_), (Kd.fresh' (Kd.R_lt (lR qE)) k_ hk_), (Kd.fresh' (Kd.N_lt (lN qd)) k_ hk_), (Kd.fresh' (Kd.R_lt (lR qF)) k_ hk_), (Kd.fresh' (Kd.N_lt (lN qq)) k_ hk_), (Kd.fresh' (Kd.R_lt (lR qH)) k_ hk_)⟩)) (z4_ (lB HB))); replace qB := aM (Kd.z7_ (lR qB) hb); replace qD := aM (Kd.N_elder' (lN qD) (Kd.N_base ho0) hb); replace qC := aM (Kd.N_elder' (lN qC) (Kd.N_base ho0) hb); replace qE := aM (Kd.z7_ (lR qE) hb); replace qd := aM (Kd.N_elder' (lN qd) (Kd.N_base ho0) hb); replace qF := aM (Kd.z7_ (lR qF) hb); replace qq := aM (Kd.N_elder' (lN qq) (Kd.N_base ho0) hb); replace qH := aM (Kd.z7_ (lR qH) hb); replace HB := aM (z6_ (lB HB) hb); (try clear hb); (try clear ho0); obtain ⟨jA, jB, eo42⟩ := Kd.N_slice qd.out; subst eo42; obtain ⟨jC, jD, eo43⟩ := Kd.N_slice qq.out; subst eo43; obtain ⟨jE, jF, eo44⟩ := Kd.N_slice qu.out; subst eo44) | ((with_reducible refine gate_dst (N := 24) rfl ?_); (try (refine gate_guard (by rfl) ?_; dsimp only)); refine Kd.N_lit (Kd.slice 39 k39) _ 24 ?hg (N' := 24) ?hd (xs := ([qY, qV, qU] : List (List (S39)))) (inner := [.slice jA qY.length jB, .slice jC qV.length jD, .slice jE qU.length jF]) (ok := (fun k_ => some k_ ≠ (.slice qb y378.length qc : Value).ownBlock ∧ some k_ ≠ (.slice qe qW.length qf : Value).ownBlock ∧ some k_ ≠ (v385 : Value).ownBlock ∧ some k_ ≠ (.slice qg y390.length qh : Value).ownBlock ∧ some k_ ≠ (.slice qj y396.length qk : Value).ownBlock ∧ some k_ ≠ (.slice qn y402.length qo : Value).ownBlock)) (okp := (fun k_ => some k_ ≠ (.slice qb y378.length qc : Value).ownBlock ∧ some k_ ≠ (.slice qe qW.length qf : Value).ownBlock ∧ some k_ ≠ (v385 : Value).ownBlock ∧ some k_ ≠ (.slice qg y390.length qh : Value).ownBlock ∧ some k_ ≠ (.slice qj y396.length qk : Value).ownBlock ∧ some k_ ≠ (.slice qn y402.length qo : Value).ownBlock)) ?hr ?hp (fun _ hk => hk) ((show ∀ k_, w41.heap.size ≤ k_ → (fun k_ => some k_ ≠ (.slice qb y378.length qc : Value).ownBlock ∧ some k_ ≠ (.slice qe qW.length qf : Value).ownBlock ∧ some k_ ≠ (v385 : Value).ownBlock ∧ some k_ ≠ (.slice qg y390.length qh : Value).ownBlock ∧ some k_ ≠ (.slice qj y396.length qk : Value).ownBlock ∧ some k_ ≠ (.slice qn y402.length qo : Value).ownBlock) k_ from fun k_ hk => ⟨Kd.fresh' (Kd.R_lt (lR qB)) k_ hk, Kd.fresh' (Kd.N_lt (lN qD)) k_ hk, Kd.fresh' (Kd.N_lt (lN qC)) k_ hk, Kd.fresh' (Kd.R_lt (lR qE)) k_ hk, Kd.fresh' (Kd.R_lt (lR qF)) k_ hk, Kd.fresh' (Kd.R_lt (lR qH)) k_ hk⟩) _ (Nat.le_refl _)) (Below.refl _ _) (Nat.le_refl _) (by simp) ?_; (case hd => rfl); (case hg => rfl); (case hr => first | (go_simp; done) | (go_simp; rfl)); (case hp => exact (Reps.one (show Kd.FK (Kd.slice 39 k39) _ _ qY [.slice jA qY.length jB] from (Kd.FK_slice_mk (Kd.N_reads' (Kd.N_mono (ok' := (fun k_ => some k_ ≠ (.slice qb y378.length qc : Value).ownBlock ∧ some k_ ≠ (.slice qe qW.length qf : Value).ownBlock ∧ some k_ ≠ (v385 : Value).ownBlock ∧ some k_ ≠ (.slice qg y390.length qh : Value).ownBlock ∧ some k_ ≠ (.slice qj y396.length qk : Value).ownBlock ∧ some k_ ≠ (.slice qn y402.length qo : Value).ownBlock)) (qd.out) (fun k_ hk => ⟨hk.1.1.1.1.1, ⟨hk.1.1.1.1.2.1, ⟨hk.1.1.1.1.2.2.1, ⟨hk.1.1.1.1.2.2.2, ⟨hk.1.1.1.2, hk.1.2⟩⟩⟩⟩⟩))).2.1 (Kd.N_F (Kd.N_mono (ok' := (fun k_ => some k_ ≠ (.slice qb y378.length qc : Value).ownBlock ∧ some k_ ≠ (.slice qe qW.length qf : Value).ownBlock ∧ some k_ ≠ (v385 : Value).ownBlock ∧ some k_ ≠ (.slice qg y390.length qh : Value).ownBlock ∧ some k_ ≠ (.slice qj y396.length qk : Value).ownBlock ∧ some k_ ≠ (.slice qn y402.length qo : Value).ownBlock)) (qd.out) (fun k_ hk => ⟨hk.1.1.1.1.1, ⟨hk.1.1.1.1.2.1, ⟨hk.1.1.1.1.2.2.1, ⟨hk.1.1.1.1.2.2.2, ⟨hk.1.1.1.2, hk.1.2⟩⟩⟩⟩⟩))))) (Reps.one (show Kd.FK (Kd.slice 39 k39) _ _ qV [.slice jC qV.length jD] from (Kd.FK_slice_mk (Kd.N_reads' (Kd.N_mono (ok' := (fun k_ => some k_ ≠ (.slice qb y378.length qc : Value).ownBlock ∧ some k_ ≠ (.slice qe qW.length qf : Value).ownBlock ∧ some k_ ≠ (v385 : Value).ownBlock ∧ some k_ ≠ (.slice qg y390.length qh : Value).ownBlock ∧ some k_ ≠ (.slice qj y396.length qk : Value).ownBlock ∧ some k_ ≠ (.slice qn y402.length qo : Value).ownBlock)) (qq.out) (fun k_ hk => ⟨hk.1.1.1, ⟨hk.1.1.2.1, ⟨hk.1.1.2.2.1, ⟨hk.1.1.2.2.2.1, ⟨hk.1.1.2.2.2.2.2, hk.1.2⟩⟩⟩⟩⟩))).2.1 (Kd.N_F (Kd.N_mono (ok' := (fun k_ => some k_ ≠ (.slice qb y378.length qc : Value).ownBlock ∧ some k_ ≠ (.slice qe qW.length qf : Value).ownBlock ∧ some k_ ≠ (v385 : Value).ownBlock ∧ some k_ ≠ (.slice qg y390.length qh : Value).ownBlock ∧ some k_ ≠ (.slice qj y396.length qk : Value).ownBlock ∧ some k_ ≠ (.slice qn y402.length qo : Value).ownBlock)) (qq.out) (fun k_ hk => ⟨hk.1.1.1, ⟨hk.1.1.2.1, ⟨hk.1.1.2.2.1, ⟨hk.1.1.2.2.2.1, ⟨hk.1.1.2.2.2.2.2, hk.1.2⟩⟩⟩⟩⟩))))) (Reps.one (show Kd.FK (Kd.slice 39 k39) _ _ qU [.slice jE qU.length jF] from (Kd.FK_slice_mk (Kd.N_reads' (Kd.N_mono (ok' := (fun k_ => some k_ ≠ (.slice qb y378.length qc : Value).ownBlock ∧ some k_ ≠ (.slice qe qW.length qf : Value).ownBlock ∧ some k_ ≠ (v385 : Value).ownBlock ∧ some k_ ≠ (.slice qg y390.length qh : Value).ownBlock ∧ some k_ ≠ (.slice qj y396.length qk : Value).ownBlock ∧ some k_ ≠ (.slice qn y402.length qo : Value).ownBlock)) (qu.out) (fun k_ hk => ⟨hk.1, ⟨hk.2.1, ⟨hk.2.2.1, ⟨hk.2.2.2.1, ⟨hk.2.2.2.2.2.1, hk.2.2.2.2.2.2.2⟩⟩⟩⟩⟩))).2.1 (Kd.N_F (Kd.N_mono (ok' := (fun k_ => some k_ ≠ (.slice qb y378.length qc : Value).ownBlock ∧ some k_ ≠ (.slice qe qW.length qf : Value).ownBlock ∧ some k_ ≠ (v385 : Value).ownBlock ∧ some k_ ≠ (.slice qg y390.length qh : Value).ownBlock ∧ some k_ ≠ (.slice qj y396.length qk : Value).ownBlock ∧ some k_ ≠ (.slice qn y402.length qo : Value).ownBlock)) (qu.out) (fun k_ hk => ⟨hk.1, ⟨hk.2.1, ⟨hk.2.2.1, ⟨hk.2.2.2.1, ⟨hk.2.2.2.2.2.1, hk.2.2.2.2.2.2.2⟩⟩⟩⟩⟩))))) (Reps.none _ _))))); intro v409 w45 ho46 hb hg_ hnew_; clear hg_ hnew_; (first | rw [← Ny408.out] at ho46 | (simp only [Int.reduceToNat] at ho46; rw [← Ny408.out] at ho46)); replace qB := aM (Kd.z7_ (lR qB) hb); replace qD := aM (Kd.N_elder' (lN qD) (Kd.N_base ho46) hb); replace qC := aM (Kd.N_elder' (lN qC) (Kd.N_base ho46) hb); replace qE := aM (Kd.z7_ (lR qE) hb); replace qF := aM (Kd.z7_ (lR qF) hb); replace qH := aM (Kd.z7_ (lR qH) hb); have qN := aM (Kd.N_lower ho46 (z4_ (lB HB))); replace HB := aM (z6_ (lB HB) hb); clear qd qq qu; clear hb ho46; obtain ⟨qv, qw, eo47⟩ := Kd.N_slice qN.out; subst eo47) | ((with_reducible refine gate_callee (f := 18) rfl ?_); refine z13_ (some 25) rfl rfl Tryd.func18 zk rfl #[.slice qv y408.length qw, .int .i64 2, .int .i64 5] rfl zA ?_; (with_reducible refine (split_Join.calls k _ _ y408 2 5 qp qs _ ?side1 ?side2 A7.out).mono ?_); (case side1 => refine lY ?_; exact (Kd.N_reads' qN.out).2.2); (case side2 => exact (Kd.N_reads' qN.out).2.1); rintro e w48 ⟨v412, rfl, ho0, hb⟩; refine ⟨_, rfl, ?_⟩; have qR := aM (Kd.V_lower (Kd.V_mono (ok' := fun k_ => some k_ ≠ (.slice qb y378.length qc : Value).ownBlock ∧ some k_ ≠ (.slice qe qW.length qf : Value).ownBlock ∧ some k_ ≠ (v385 : Value).ownBlock ∧ some k_ ≠ (.slice qg y390.length qh : Value).ownBlock ∧ some k_ ≠ (.slice qj y396.length qk : Value).ownBlock ∧ some k_ ≠ (.slice qn y402.length qo : Value).ownBlock ∧ some k_ ≠ (.slice qv y408.length qw : Value).ownBlock) ho0 (fun k_ hk_ => ⟨(Kd.fresh' (Kd.R_lt (lR qB)) k_ hk_), (Kd.fresh' (Kd.N_lt (lN qD)) k_ hk_), (Kd.fresh' (Kd.N_lt (lN qC)) k_ hk_), (Kd.fresh' (Kd.R_lt (lR qE)) k_ hk_), (Kd.fresh' (Kd.R_lt (lR qF)) k_ hk_), (Kd.fresh' (Kd.R_lt (lR qH)) k_ hk_), (Kd.fresh' (Kd.N_lt (lN qN)) k_ hk_)⟩)) (z4_ (lB HB))); replace qB := aM (Kd.z7_ (lR qB) hb); replace qD := aM (Kd.N_below (lN qD) hb); replace qC := aM (Kd.N_below (lN qC) hb); replace qE := aM (Kd.z7_ (lR qE) hb); replace qF := aM (Kd.z7_ (lR qF) hb); replace qH := aM (Kd.z7_ (lR qH) hb); replace qN := aM (Kd.N_below (lN qN) hb); replace HB := aM (z6_ (lB HB) hb); (try clear hb); (try clear ho0)))
          replace qB := aM (Kd.R_drew qB.out)
          replace qD := aM (Kd.N_drew qD.out)
          replace qC := aM (Kd.N_drew qC.out)
          replace qE := aM (Kd.R_drew qE.out)
          replace qF := aM (Kd.R_drew qF.out)
          replace qH := aM (Kd.R_drew qH.out)
          replace qN := aM (Kd.N_drew qN.out)
          replace qR := aM (Kd.V_drew qR.out)
          replace HB := aM (below_drew1 HB.out)
          obtain ⟨jO, q3, eo50⟩ := Kd.N_slice qC.out
          (first | subst eo50 | (injection eo50 with f1_ f2_ f3_; have f4_ := f1_.symm; have f5_ := f3_.symm; clear f1_ f2_ f3_; subst f4_; subst f5_))
          have p415 : 0 ≤ (0 : Int) := (by omega)
          have q415 : 0 < (qA.length : Int) := of_decide_eq_true za
          obtain ⟨ad415, qz, q0, e415, hx415_0, hl415_0, hi415_0⟩ := at_L5 (Kd.N_reads' qC.out).2.2 0 p415 q415
          cases e415
          obtain ⟨ce415, hce415, hMe415, hcc415⟩ := Kd.N_get qC.out [] 0 p415 (by first | exact q415 | exact of_decide_eq_true za | (have e_ := (Kd.N_reads' qC.out).1; omega))
          obtain ⟨ua415_0, uc415_0, rfl, ul415_0, ge415_0⟩ := Kd.FK_slice_open hMe415
          have hv415_0 := hcc415 0 _ rfl
          rw [Nat.add_zero, show ((Kd.slice 39 k39)).sz = 1 from rfl, Nat.mul_one] at hv415_0
          replace hv415_0 := Option.some.inj (hv415_0.symm.trans hx415_0)
          injection hv415_0 with hva_ hvn_ hvc_
          rw [hva_] at ge415_0
          rw [hvc_] at ul415_0
          have qO := aM (show Kd.V k39 39 _ w.heap.size _ _ (rd_L5 qA 0) from Kd.V_mk ul415_0 ge415_0)
          clear hva_ hvn_ hvc_ ge415_0 ul415_0
          clear hcc415 hce415
          have qi415 : (0 < qA.length) = True := eq_true (by omega)
          (try rw [show ((0 : Int)).toNat = 0 from rfl] at hx415_0)
          (try rw [Addr.add_zero'] at hx415_0)
          have qG := aM hi415_0
          have q8 := aM hl415_0
          clear hi415_0 hl415_0
          replace p415 := eq_true p415
          replace q415 := eq_true q415
          have p423 : 0 ≤ (1 : Int) := (by omega)
          have q423 : 1 < (qA.length : Int) := of_decide_eq_true za
          obtain ⟨ad423, q1, q2, e423, hx423_0, hl423_0, hi423_0⟩ := at_L5 (Kd.N_reads' qC.out).2.2 1 p423 q423
          obtain rfl : ad415 = ad423 := (by injection e423)
          obtain ⟨ce423, hce423, hMe423, hcc423⟩ := Kd.N_get qC.out [] 1 p423 (by first | exact q423 | exact of_decide_eq_true za | (have e_ := (Kd.N_reads' qC.out).1; omega))
          obtain ⟨ua423_0, uc423_0, rfl, ul423_0, ge423_0⟩ := Kd.FK_slice_open hMe423
          have hv423_0 := hcc423 0 _ rfl
          rw [Nat.add_zero, show ((Kd.slice 39 k39)).sz = 1 from rfl, Nat.mul_one] at hv423_0
          replace hv423_0 := Option.some.inj (hv423_0.symm.trans hx423_0)
          injection hv423_0 with hva_ hvn_ hvc_
          rw [hva_] at ge423_0
          rw [hvc_] at ul423_0
          have qS := aM (show Kd.V k39 39 _ w.heap.size _ _ (rd_L5 qA 1) from Kd.V_mk ul423_0 ge423_0)
          clear hva_ hvn_ hvc_ ge423_0 ul423_0
          clear hcc423 hce423
          (try simp only [show (1 : Int).toNat = 1 from rfl, Nat.reduceMul, Nat.reduceEqDiff, Go.Addr.add, ↓reduceIte] at hx423_0)
          have qi423 : (1 < qA.length) = True := eq_true (by omega)
          (try rw [show ((1 : Int)).toNat = 1 from rfl] at hx423_0)
          have qK := aM hi423_0
          have q9 := aM hl423_0
          clear hi423_0 hl423_0
          replace p423 := eq_true p423
          replace q423 := eq_true q423
          refine start_ (n := 42) (S := fun w' => w'.cell? ad415 = some (.slice qz (rd_L5 qA 0).length q0) ∧ w'.cell? ⟨ad415.block, ad415.off + 1, none⟩ = some (.slice q1 (rd_L5 qA 1).length q2)) (ds := []) (bs 42 0) zk rfl rfl ⟨hx415_0, hx423_0⟩ (fun hHeld => ?_); refine with_tabW swagelaw21_works.tab4 swagelaw21_works.bits4 (fun HT_ HW_ => ?_)
          generalize w48.drew = w49 at qB qD qC qE qF qH qN qR HB qO qS qG qK hx415_0 hx423_0 hHeld ⊢
          refine pQ 0 28 42 1 ?_
          refine pQ 1 29 42 3 ?_
          refine pQ 2 30 42 7 ?_
          refine pQ 3 31 42 15 ?_
          refine pQ 4 32 42 31 ?_
          refine pQ 5 33 42 63 ?_
          refine pQ 6 34 42 127 ?_
          refine pQ 7 35 42 255 ?_
          refine pQ 8 36 42 511 ?_
          refine pQ 9 37 42 1023 ?_
          refine pQ 10 38 42 2047 ?_
          refine pQ 11 39 42 4095 ?_
          refine pQ 12 40 42 8191 ?_
          refine pQ 13 41 42 16383 ?_
          refine pQ 14 42 42 32767 ?_
          refine pQ 15 43 42 65535 ?_
          refine pQ 16 44 42 131071 ?_
          refine pQ 17 45 42 262143 ?_
          refine take_ (i := 18) (N := some 46) (v := ?_) (a' := ?_) (bs 42 524287) rfl rfl (take_ofW HT_.out HW_.out zk) (fun _ _ _ h => h) (Or.inl ⟨by rfl, ?_⟩) hHeld ?_ ?_
          rotate_left
          ·rintro w' ⟨s0, s1⟩
           go_simp
           with_reducible rfl
          rotate_left
          ·simp only [Act.put, List.setIfInBounds_toArray, List.set_cons_zero, List.set_cons_succ, i64_w, i32_w]
           rfl
          refine one_ (i := 19) (N := some 47) (bs 42 1048575) rfl rfl (one_of HT_.out zk) (by decide) (fun K hK => ?_)
          refine Kd.R_lit_step (Kd.int .i64) _ 2 ?hg (N := 47) ?hd (xs := ([1, 2, 3] : List Int)) (inner := [.int .i64 1, .int .i64 2, .int .i64 3]) (ok := fun _ => True) (okp := fun _ => True) ?hr ?hp (fun _ hk => hk) trivial (Below.refl _ _) (Nat.le_refl _) (by simp) ?_; (case hd => rfl); (case hg => rfl); (case hr => first | (go_simp; done) | (go_simp; rfl)); (case hp => exact (Reps.one (show Kd.M (Kd.int .i64) _ _ _ 1 [.int .i64 1] from rfl) (Reps.one (show Kd.M (Kd.int .i64) _ _ _ 2 [.int .i64 2] from rfl) (Reps.one (show Kd.M (Kd.int .i64) _ _ _ 3 [.int .i64 3] from rfl) (Reps.none _ _)))))
          intro v417 w51 ho52 hb hg_ hnew_
          have HS0_ := (hb.cell (World.block_lt_of_cell? _ _ (hHeld.1))).trans (hHeld.1)
          have HS1_ := (hb.cell (World.block_lt_of_cell? _ _ (hHeld.2))).trans (hHeld.2)
          clear hg_ hnew_
          (first | rw [← Ny416.out] at ho52 | (simp only [Int.reduceToNat] at ho52; rw [← Ny416.out] at ho52))
          have n0_ := aM (Kd.z17_ (lR qB) (Kd.R_base ho52) hb)
          have n1_ := aM (Kd.N_elder' (lN qD) (Kd.R_base ho52) hb)
          have n2_ := aM (Kd.N_elder' (lN qC) (Kd.R_base ho52) hb)
          have n3_ := aM (Kd.z17_ (lR qE) (Kd.R_base ho52) hb)
          have n4_ := aM (Kd.z17_ (lR qF) (Kd.R_base ho52) hb)
          have n5_ := aM (Kd.z17_ (lR qH) (Kd.R_base ho52) hb)
          have n6_ := aM (Kd.N_elder' (lN qN) (Kd.R_base ho52) hb)
          have n7_ := aM (Kd.V_elder' (lV qR) (Kd.R_base ho52) hb)
          have n8_ := aM (Kd.V_elder' (lV qO) (Kd.R_base ho52) hb)
          have n9_ := aM (Kd.z20_ (Kd.z21_ (Kd.z21_ (Kd.z21_ (Kd.z21_ ho52 (Kd.R_lt (lR qB))) (Kd.R_lt (lR qE))) (Kd.R_lt (lR qF))) (Kd.R_lt (lR qH))) (z4_ (lB HB)))
          have n10_ := aM (Kd.z8_ (by repeat (first | (with_reducible exact qG.out) | (with_reducible refine Kd.C_alloc ?_ _) | (with_reducible refine Kd.C_drewN ?_ _) | (with_reducible refine Kd.C_drew ?_) | exact qG.out)) hb)
          have n11_ := aM (z6_ (lB HB) hb)
          (try replace qS := aM (Kd.V_below qS.out hb))
          (try replace qK := aM (Kd.z8_ qK.out hb))
          clear qB
          clear qD
          clear qC
          clear qE
          clear qF
          clear qH
          clear qN
          clear qR
          clear qO
          clear qG
          clear HB
          have qB := n0_
          have qD := n1_
          have qC := n2_
          have qE := n3_
          have qF := n4_
          have qH := n5_
          have qN := n6_
          have qR := n7_
          have qO := n8_
          have qT := n9_
          have qG := n10_
          have HB := n11_
          clear n0_ n1_ n2_ n3_ n4_ n5_ n6_ n7_ n8_ n9_ n10_ n11_
          clear hb ho52
          obtain ⟨qx, qy, eo53⟩ := Kd.R_slice qT.out
          (first | subst eo53 | (injection eo53 with f1_ f2_ f3_; have f4_ := f1_.symm; have f5_ := f3_.symm; clear f1_ f2_ f3_; subst f4_; subst f5_))
          refine hK.out _ _ ⟨HS0_, HS1_⟩ (fun hHeld => ?_)
          clear hK K
          refine norm_ (a' := ?_) ?_ ?_
          rotate_left
          ·show Act.put _ (some 47) _ = _
           simp only [Act.put, List.setIfInBounds_toArray, List.set_cons_zero, List.set_cons_succ, i64_w, i32_w]
           rfl
          refine one_ (i := 20) (N := some 48) (bs 42 2097151) rfl rfl (one_of HT_.out zk) (by decide) (fun K hK => ?_)
          refine goes_ Tryd.func15 zk rfl #[.slice qx y416.length qy] (by rfl) rfl rfl zA ?_
          with_reducible refine (swagelaw21_ref.calls k _ _ y416 qP _ ?side1 ?side2 A13.out).mono ?_
          (case side1 => refine lY ?_; exact (Kd.z9_ qT.out).2.2)
          (case side2 => exact (Kd.z9_ qT.out).2.1)
          rintro e w54 ⟨v420, rfl, ho0, hb⟩
          have HS0_ := (hb.cell (World.block_lt_of_cell? _ _ (hHeld.1))).trans (hHeld.1)
          have HS1_ := (hb.cell (World.block_lt_of_cell? _ _ (hHeld.2))).trans (hHeld.2)
          refine ⟨_, rfl, ?_⟩
          have n0_ := aM (Kd.z7_ (lR qB) hb)
          have n1_ := aM (Kd.N_elder' (lN qD) (Kd.N_base ho0) hb)
          have n2_ := aM (Kd.N_elder' (lN qC) (Kd.N_base ho0) hb)
          have n3_ := aM (Kd.z7_ (lR qE) hb)
          have n4_ := aM (Kd.z7_ (lR qF) hb)
          have n5_ := aM (Kd.z7_ (lR qH) hb)
          have n6_ := aM (Kd.N_elder' (lN qN) (Kd.N_base ho0) hb)
          have n7_ := aM (Kd.V_elder' (lV qR) (Kd.N_base ho0) hb)
          have n8_ := aM (Kd.V_elder' (lV qO) (Kd.N_base ho0) hb)
          have n9_ := aM (Kd.z7_ (lR qT) hb)
          have n10_ := aM (Kd.N_lower (Kd.N_mono (ok' := fun k_ => some k_ ≠ (.slice qb y378.length qc : Value).ownBlock ∧ some k_ ≠ (.slice qe qW.length qf : Value).ownBlock ∧ some k_ ≠ (.slice (some ad415) qA.length q3 : Value).ownBlock ∧ some k_ ≠ (.slice qg y390.length qh : Value).ownBlock ∧ some k_ ≠ (.slice qj y396.length qk : Value).ownBlock ∧ some k_ ≠ (.slice qn y402.length qo : Value).ownBlock ∧ some k_ ≠ (.slice qv y408.length qw : Value).ownBlock ∧ some k_ ≠ (.slice qx y416.length qy : Value).ownBlock) ho0 (fun k_ hk_ => ⟨(Kd.fresh' (Kd.R_lt (lR qB)) k_ hk_), (Kd.fresh' (Kd.N_lt (lN qD)) k_ hk_), (Kd.fresh' (Kd.N_lt (lN qC)) k_ hk_), (Kd.fresh' (Kd.R_lt (lR qE)) k_ hk_), (Kd.fresh' (Kd.R_lt (lR qF)) k_ hk_), (Kd.fresh' (Kd.R_lt (lR qH)) k_ hk_), (Kd.fresh' (Kd.N_lt (lN qN)) k_ hk_), (Kd.fresh' (Kd.R_lt (lR qT)) k_ hk_)⟩)) (z4_ (lB HB)))
          have n11_ := aM (Kd.z8_ (by repeat (first | (with_reducible exact qG.out) | (with_reducible refine Kd.C_alloc ?_ _) | (with_reducible refine Kd.C_drewN ?_ _) | (with_reducible refine Kd.C_drew ?_) | exact qG.out)) hb)
          have n12_ := aM (z6_ (lB HB) hb)
          (try replace qS := aM (Kd.V_below qS.out hb))
          (try replace qK := aM (Kd.z8_ qK.out hb))
          clear qB
          clear qD
          clear qC
          clear qE
          clear qF
          clear qH
          clear qN
          clear qR
          clear qO
          clear qT
          clear qG
          clear HB
          have qB := n0_
          have qD := n1_
          have qC := n2_
          have qE := n3_
          have qF := n4_
          have qH := n5_
          have qN := n6_
          have qR := n7_
          have qO := n8_
          have qT := n9_
          have qX := n10_
          have qG := n11_
          have HB := n12_
          clear n0_ n1_ n2_ n3_ n4_ n5_ n6_ n7_ n8_ n9_ n10_ n11_ n12_
          (try clear hb)
          (try clear hb2)
          (try clear hk)
          (try clear hi)
          (try clear ho0)
          obtain ⟨q4, q5, eo55⟩ := Kd.N_slice qX.out
          (first | subst eo55 | (injection eo55 with f1_ f2_ f3_; have f4_ := f1_.symm; have f5_ := f3_.symm; clear f1_ f2_ f3_; subst f4_; subst f5_))
          refine hK.out _ _ ⟨HS0_, HS1_⟩ (fun hHeld => ?_)
          clear hK K
          refine norm_ (a' := ?_) ?_ ?_
          rotate_left
          ·show Act.put _ (some 48) _ = _
           simp only [Act.put, List.setIfInBounds_toArray, List.set_cons_zero, List.set_cons_succ, i64_w, i32_w]
           rfl
          refine one_ (i := 21) (N := some 49) (bs 42 4194303) rfl rfl (one_of HT_.out zk) (by decide) (fun K hK => ?_)
          refine goes_ Tryd.func16 zk rfl #[.slice qz (rd_L5 qA 0).length q0, .slice q4 qP.length q5] (by rfl) rfl rfl zA ?_
          with_reducible refine (swagelaw21_is.calls k _ _ (rd_L5 qA 0) _ _ qP true _ ?side1 ?side2 ?side3 ?side4 A14.out).mono ?_
          (case side1 => repeat (first | exact (by repeat (first | (with_reducible exact qG.out) | (with_reducible refine Kd.C_alloc ?_ _) | (with_reducible refine Kd.C_drewN ?_ _) | (with_reducible refine Kd.C_drew ?_) | exact qG.out)) | (with_reducible refine Kd.C_alloc ?_ _) | (with_reducible refine Kd.C_drewN ?_ _) | (with_reducible refine Kd.C_drew ?_)))
          (case side2 => exact q8.out)
          (case side3 => refine lY ?_; exact (Kd.N_reads' qX.out).2.2)
          (case side4 => exact (Kd.N_reads' qX.out).2.1)
          rintro e w56 ⟨rfl, hb⟩
          have HS0_ := (hb.cell (World.block_lt_of_cell? _ _ (hHeld.1))).trans (hHeld.1)
          have HS1_ := (hb.cell (World.block_lt_of_cell? _ _ (hHeld.2))).trans (hHeld.2)
          refine ⟨_, rfl, ?_⟩
          have n0_ := aM (Kd.z7_ (lR qB) hb)
          have n1_ := aM (Kd.N_below (lN qD) hb)
          have n2_ := aM (Kd.N_below (lN qC) hb)
          have n3_ := aM (Kd.z7_ (lR qE) hb)
          have n4_ := aM (Kd.z7_ (lR qF) hb)
          have n5_ := aM (Kd.z7_ (lR qH) hb)
          have n6_ := aM (Kd.N_below (lN qN) hb)
          have n7_ := aM (Kd.V_below (lV qR) hb)
          have n8_ := aM (Kd.V_below (lV qO) hb)
          have n9_ := aM (Kd.z7_ (lR qT) hb)
          have n10_ := aM (Kd.N_below (lN qX) hb)
          have n11_ := aM (Kd.z8_ (by repeat (first | (with_reducible exact qG.out) | (with_reducible refine Kd.C_alloc ?_ _) | (with_reducible refine Kd.C_drewN ?_ _) | (with_reducible refine Kd.C_drew ?_) | exact qG.out)) hb)
          have n12_ := aM (z6_ (lB HB) hb)
          (try replace qS := aM (Kd.V_below qS.out hb))
          (try replace qK := aM (Kd.z8_ qK.out hb))
          clear qB
          clear qD
          clear qC
          clear qE
          clear qF
          clear qH
          clear qN
          clear qR
          clear qO
          clear qT
          clear qX
          clear qG
          clear HB
          have qB := n0_
          have qD := n1_
          have qC := n2_
          have qE := n3_
          have qF := n4_
          have qH := n5_
          have qN := n6_
          have qR := n7_
          have qO := n8_
          have qT := n9_
          have qX := n10_
          have qG := n11_
          have HB := n12_
          clear n0_ n1_ n2_ n3_ n4_ n5_ n6_ n7_ n8_ n9_ n10_ n11_ n12_
          (try clear hb)
          (try clear hb2)
          (try clear hk)
          (try clear hi)
          refine hK.out _ _ ⟨HS0_, HS1_⟩ (fun hHeld => ?_)
          clear hK K
          refine norm_ (a' := ?_) ?_ ?_
          rotate_left
          ·show Act.put _ (some 49) _ = _
           simp only [Act.put, List.setIfInBounds_toArray, List.set_cons_zero, List.set_cons_succ, i64_w, i32_w]
           rfl
          refine pQ 22 50 42 8388607 ?_
          refine pQ 23 51 42 16777215 ?_
          refine pQ 24 52 42 33554431 ?_
          refine pQ 25 53 42 67108863 ?_
          refine take_ (i := 26) (N := some 54) (v := ?_) (a' := ?_) (bs 42 134217727) rfl rfl (take_ofW HT_.out HW_.out zk) (fun _ _ _ h => h) (Or.inl ⟨by rfl, ?_⟩) hHeld ?_ ?_
          rotate_left
          ·rintro w' ⟨s0, s1⟩
           go_simp
           with_reducible rfl
          rotate_left
          ·simp only [Act.put, List.setIfInBounds_toArray, List.set_cons_zero, List.set_cons_succ, i64_w, i32_w]
           rfl
          refine one_ (i := 27) (N := some 55) (bs 42 268435455) rfl rfl (one_of HT_.out zk) (by decide) (fun K hK => ?_)
          refine Kd.R_lit_step (Kd.int .i64) _ 2 ?hg (N := 55) ?hd (xs := ([4, 5, 0] : List Int)) (inner := [.int .i64 4, .int .i64 5, .int .i64 0]) (ok := fun _ => True) (okp := fun _ => True) ?hr ?hp (fun _ hk => hk) trivial (Below.refl _ _) (Nat.le_refl _) (by simp) ?_; (case hd => rfl); (case hg => rfl); (case hr => first | (go_simp; done) | (go_simp; rfl)); (case hp => exact (Reps.one (show Kd.M (Kd.int .i64) _ _ _ 4 [.int .i64 4] from rfl) (Reps.one (show Kd.M (Kd.int .i64) _ _ _ 5 [.int .i64 5] from rfl) (Reps.one (show Kd.M (Kd.int .i64) _ _ _ 0 [.int .i64 0] from rfl) (Reps.none _ _)))))
          intro v425 w57 ho58 hb hg_ hnew_
          have HS0_ := (hb.cell (World.block_lt_of_cell? _ _ (hHeld.1))).trans (hHeld.1)
          have HS1_ := (hb.cell (World.block_lt_of_cell? _ _ (hHeld.2))).trans (hHeld.2)
          clear hg_ hnew_
          (first | rw [← Ny424.out] at ho58 | (simp only [Int.reduceToNat] at ho58; rw [← Ny424.out] at ho58))
          replace qD := aM (Kd.N_elder' (lN qD) (Kd.R_base ho58) hb)
          replace qC := aM (Kd.N_elder' (lN qC) (Kd.R_base ho58) hb)
          replace qN := aM (Kd.N_elder' (lN qN) (Kd.R_base ho58) hb)
          replace qR := aM (Kd.V_elder' (lV qR) (Kd.R_base ho58) hb)
          replace qO := aM (Kd.V_elder' (lV qO) (Kd.R_base ho58) hb)
          replace qX := aM (Kd.N_elder' (lN qX) (Kd.R_base ho58) hb)
          replace qS := aM (Kd.V_elder' (lV qS) (Kd.R_base ho58) hb)
          have qa := aM (Kd.z20_ (Kd.z21_ (Kd.z21_ (Kd.z21_ (Kd.z21_ (Kd.z21_ ho58 (Kd.R_lt (lR qB))) (Kd.R_lt (lR qE))) (Kd.R_lt (lR qF))) (Kd.R_lt (lR qH))) (Kd.R_lt (lR qT))) (z4_ (lB HB)))
          replace qB := aM (Kd.z17_ (lR qB) (Kd.R_base ho58) hb)
          replace qE := aM (Kd.z17_ (lR qE) (Kd.R_base ho58) hb)
          replace qF := aM (Kd.z17_ (lR qF) (Kd.R_base ho58) hb)
          replace qH := aM (Kd.z17_ (lR qH) (Kd.R_base ho58) hb)
          replace qT := aM (Kd.z17_ (lR qT) (Kd.R_base ho58) hb)
          replace qG := aM (Kd.z8_ (by repeat (first | (with_reducible exact qG.out) | (with_reducible refine Kd.C_alloc ?_ _) | (with_reducible refine Kd.C_drewN ?_ _) | (with_reducible refine Kd.C_drew ?_) | exact qG.out)) hb)
          replace qK := aM (Kd.z8_ (by repeat (first | (with_reducible exact qK.out) | (with_reducible refine Kd.C_alloc ?_ _) | (with_reducible refine Kd.C_drewN ?_ _) | (with_reducible refine Kd.C_drew ?_) | exact qK.out)) hb)
          replace HB := aM (z6_ (lB HB) hb)
          clear hb ho58
          obtain ⟨q6, q7, eo59⟩ := Kd.R_slice qa.out
          (first | subst eo59 | (injection eo59 with f1_ f2_ f3_; have f4_ := f1_.symm; have f5_ := f3_.symm; clear f1_ f2_ f3_; subst f4_; subst f5_))
          refine hK.out _ _ ⟨HS0_, HS1_⟩ (fun hHeld => ?_)
          clear hK K
          refine norm_ (a' := ?_) ?_ ?_
          rotate_left
          ·show Act.put _ (some 55) _ = _
           simp only [Act.put, List.setIfInBounds_toArray, List.set_cons_zero, List.set_cons_succ, i64_w, i32_w]
           rfl
          refine one_ (i := 28) (N := some 56) (bs 42 536870911) rfl rfl (one_of HT_.out zk) (by decide) (fun K hK => ?_)
          refine goes_ Tryd.func15 zk rfl #[.slice q6 y424.length q7] (by rfl) rfl rfl zA ?_
          with_reducible refine (swagelaw21_ref.calls k _ _ y424 qL _ ?side1 ?side2 A17.out).mono ?_
          (case side1 => refine lY ?_; exact (Kd.z9_ qa.out).2.2)
          (case side2 => exact (Kd.z9_ qa.out).2.1)
          rintro e w60 ⟨v428, rfl, ho0, hb⟩
          have HS0_ := (hb.cell (World.block_lt_of_cell? _ _ (hHeld.1))).trans (hHeld.1)
          have HS1_ := (hb.cell (World.block_lt_of_cell? _ _ (hHeld.2))).trans (hHeld.2)
          refine ⟨_, rfl, ?_⟩
          replace qR := aM (Kd.V_elder' (lV qR) (Kd.N_base ho0) hb)
          replace qO := aM (Kd.V_elder' (lV qO) (Kd.N_base ho0) hb)
          replace qS := aM (Kd.V_elder' (lV qS) (Kd.N_base ho0) hb)
          have ql := aM (Kd.N_lower (Kd.N_mono (ok' := fun k_ => some k_ ≠ (.slice qb y378.length qc : Value).ownBlock ∧ some k_ ≠ (.slice qe qW.length qf : Value).ownBlock ∧ some k_ ≠ (.slice (some ad415) qA.length q3 : Value).ownBlock ∧ some k_ ≠ (.slice qg y390.length qh : Value).ownBlock ∧ some k_ ≠ (.slice qj y396.length qk : Value).ownBlock ∧ some k_ ≠ (.slice qn y402.length qo : Value).ownBlock ∧ some k_ ≠ (.slice qv y408.length qw : Value).ownBlock ∧ some k_ ≠ (.slice qx y416.length qy : Value).ownBlock ∧ some k_ ≠ (.slice q4 qP.length q5 : Value).ownBlock ∧ some k_ ≠ (.slice q6 y424.length q7 : Value).ownBlock) ho0 (fun k_ hk_ => ⟨(Kd.fresh' (Kd.R_lt (lR qB)) k_ hk_), (Kd.fresh' (Kd.N_lt (lN qD)) k_ hk_), (Kd.fresh' (Kd.N_lt (lN qC)) k_ hk_), (Kd.fresh' (Kd.R_lt (lR qE)) k_ hk_), (Kd.fresh' (Kd.R_lt (lR qF)) k_ hk_), (Kd.fresh' (Kd.R_lt (lR qH)) k_ hk_), (Kd.fresh' (Kd.N_lt (lN qN)) k_ hk_), (Kd.fresh' (Kd.R_lt (lR qT)) k_ hk_), (Kd.fresh' (Kd.N_lt (lN qX)) k_ hk_), (Kd.fresh' (Kd.R_lt (lR qa)) k_ hk_)⟩)) (z4_ (lB HB)))
          replace qB := aM (Kd.z7_ (lR qB) hb)
          replace qD := aM (Kd.N_elder' (lN qD) (Kd.N_base ho0) hb)
          replace qC := aM (Kd.N_elder' (lN qC) (Kd.N_base ho0) hb)
          replace qE := aM (Kd.z7_ (lR qE) hb)
          replace qF := aM (Kd.z7_ (lR qF) hb)
          replace qH := aM (Kd.z7_ (lR qH) hb)
          replace qN := aM (Kd.N_elder' (lN qN) (Kd.N_base ho0) hb)
          replace qT := aM (Kd.z7_ (lR qT) hb)
          replace qX := aM (Kd.N_elder' (lN qX) (Kd.N_base ho0) hb)
          replace qa := aM (Kd.z7_ (lR qa) hb)
          replace qG := aM (Kd.z8_ (by repeat (first | (with_reducible exact qG.out) | (with_reducible refine Kd.C_alloc ?_ _) | (with_reducible refine Kd.C_drewN ?_ _) | (with_reducible refine Kd.C_drew ?_) | exact qG.out)) hb)
          replace qK := aM (Kd.z8_ (by repeat (first | (with_reducible exact qK.out) | (with_reducible refine Kd.C_alloc ?_ _) | (with_reducible refine Kd.C_drewN ?_ _) | (with_reducible refine Kd.C_drew ?_) | exact qK.out)) hb)
          replace HB := aM (z6_ (lB HB) hb)
          (try clear hb)
          (try clear hb2)
          (try clear hk)
          (try clear hi)
          (try clear ho0)
          obtain ⟨jG, jH, eo61⟩ := Kd.N_slice ql.out
          (first | subst eo61 | (injection eo61 with f1_ f2_ f3_; have f4_ := f1_.symm; have f5_ := f3_.symm; clear f1_ f2_ f3_; subst f4_; subst f5_))
          refine hK.out _ _ ⟨HS0_, HS1_⟩ (fun hHeld => ?_)
          clear hK K
          refine norm_ (a' := ?_) ?_ ?_
          rotate_left
          ·show Act.put _ (some 56) _ = _
           simp only [Act.put, List.setIfInBounds_toArray, List.set_cons_zero, List.set_cons_succ, i64_w, i32_w]
           rfl
          refine one_ (i := 29) (N := some 57) (bs 42 1073741823) rfl rfl (one_of HT_.out zk) (by decide) (fun K hK => ?_)
          refine goes_ Tryd.func16 zk rfl #[.slice q1 (rd_L5 qA 1).length q2, .slice jG qL.length jH] (by rfl) rfl rfl zA ?_
          with_reducible refine (swagelaw21_is.calls k _ _ (rd_L5 qA 1) _ _ qL true _ ?side1 ?side2 ?side3 ?side4 A18.out).mono ?_
          (case side1 => repeat (first | exact (by repeat (first | (with_reducible exact qK.out) | (with_reducible refine Kd.C_alloc ?_ _) | (with_reducible refine Kd.C_drewN ?_ _) | (with_reducible refine Kd.C_drew ?_) | exact qK.out)) | (with_reducible refine Kd.C_alloc ?_ _) | (with_reducible refine Kd.C_drewN ?_ _) | (with_reducible refine Kd.C_drew ?_)))
          (case side2 => exact q9.out)
          (case side3 => refine lY ?_; exact (Kd.N_reads' ql.out).2.2)
          (case side4 => exact (Kd.N_reads' ql.out).2.1)
          rintro e w62 ⟨rfl, hb⟩
          have HS0_ := (hb.cell (World.block_lt_of_cell? _ _ (hHeld.1))).trans (hHeld.1)
          have HS1_ := (hb.cell (World.block_lt_of_cell? _ _ (hHeld.2))).trans (hHeld.2)
          refine ⟨_, rfl, ?_⟩
          replace qB := aM (Kd.z7_ (lR qB) hb)
          replace qD := aM (Kd.N_below (lN qD) hb)
          replace qC := aM (Kd.N_below (lN qC) hb)
          replace qE := aM (Kd.z7_ (lR qE) hb)
          replace qF := aM (Kd.z7_ (lR qF) hb)
          replace qH := aM (Kd.z7_ (lR qH) hb)
          replace qN := aM (Kd.N_below (lN qN) hb)
          replace qR := aM (Kd.V_below (lV qR) hb)
          replace qO := aM (Kd.V_below (lV qO) hb)
          replace qT := aM (Kd.z7_ (lR qT) hb)
          replace qX := aM (Kd.N_below (lN qX) hb)
          replace qS := aM (Kd.V_below (lV qS) hb)
          replace qa := aM (Kd.z7_ (lR qa) hb)
          replace ql := aM (Kd.N_below (lN ql) hb)
          replace qG := aM (Kd.z8_ (by repeat (first | (with_reducible exact qG.out) | (with_reducible refine Kd.C_alloc ?_ _) | (with_reducible refine Kd.C_drewN ?_ _) | (with_reducible refine Kd.C_drew ?_) | exact qG.out)) hb)
          replace qK := aM (Kd.z8_ (by repeat (first | (with_reducible exact qK.out) | (with_reducible refine Kd.C_alloc ?_ _) | (with_reducible refine Kd.C_drewN ?_ _) | (with_reducible refine Kd.C_drew ?_) | exact qK.out)) hb)
          replace HB := aM (z6_ (lB HB) hb)
          (try clear hb)
          (try clear hb2)
          (try clear hk)
          (try clear hi)
          refine hK.out _ _ ⟨HS0_, HS1_⟩ (fun hHeld => ?_)
          clear hK K
          refine norm_ (a' := ?_) ?_ ?_
          rotate_left
          ·show Act.put _ (some 57) _ = _
           simp only [Act.put, List.setIfInBounds_toArray, List.set_cons_zero, List.set_cons_succ, i64_w, i32_w]
           rfl
          refine pQ 30 58 42 2147483647 ?_
          refine pQ 31 59 42 4294967295 ?_
          refine pQ 32 60 42 8589934591 ?_
          refine pQ 33 61 42 17179869183 ?_
          refine pQ 34 62 42 34359738367 ?_
          refine pQ 35 63 42 68719476735 ?_
          refine pQ 36 64 42 137438953471 ?_
          refine one_ (i := 37) (N := some 65) (bs 42 274877906943) rfl rfl (one_of HT_.out zk) (by decide) (fun K hK => ?_)
          refine Kd.R_lit_step (Kd.int .i64) _ 2 ?hg (N := 65) ?hd (xs := ([1, 2, 13, 20, 130] : List Int)) (inner := [.int .i64 1, .int .i64 2, .int .i64 13, .int .i64 20, .int .i64 130]) (ok := fun _ => True) (okp := fun _ => True) ?hr ?hp (fun _ hk => hk) trivial (Below.refl _ _) (Nat.le_refl _) (by simp) ?_; (case hd => rfl); (case hg => rfl); (case hr => first | (go_simp; done) | (go_simp; rfl)); (case hp => exact (Reps.one (show Kd.M (Kd.int .i64) _ _ _ 1 [.int .i64 1] from rfl) (Reps.one (show Kd.M (Kd.int .i64) _ _ _ 2 [.int .i64 2] from rfl) (Reps.one (show Kd.M (Kd.int .i64) _ _ _ 13 [.int .i64 13] from rfl) (Reps.one (show Kd.M (Kd.int .i64) _ _ _ 20 [.int .i64 20] from rfl) (Reps.one (show Kd.M (Kd.int .i64) _ _ _ 130 [.int .i64 130] from rfl) (Reps.none _ _)))))))
          intro v432 w63 ho64 hb hg_ hnew_
          have HS0_ := (hb.cell (World.block_lt_of_cell? _ _ (hHeld.1))).trans (hHeld.1)
          have HS1_ := (hb.cell (World.block_lt_of_cell? _ _ (hHeld.2))).trans (hHeld.2)
          clear hg_ hnew_
          (first | rw [← Ny431.out] at ho64 | (simp only [Int.reduceToNat] at ho64; rw [← Ny431.out] at ho64))
          replace qD := aM (Kd.N_elder' (lN qD) (Kd.R_base ho64) hb)
          replace qC := aM (Kd.N_elder' (lN qC) (Kd.R_base ho64) hb)
          replace qN := aM (Kd.N_elder' (lN qN) (Kd.R_base ho64) hb)
          replace qR := aM (Kd.V_elder' (lV qR) (Kd.R_base ho64) hb)
          replace qO := aM (Kd.V_elder' (lV qO) (Kd.R_base ho64) hb)
          replace qX := aM (Kd.N_elder' (lN qX) (Kd.R_base ho64) hb)
          replace qS := aM (Kd.V_elder' (lV qS) (Kd.R_base ho64) hb)
          replace ql := aM (Kd.N_elder' (lN ql) (Kd.R_base ho64) hb)
          have qr := aM (Kd.z20_ (Kd.z21_ (Kd.z21_ (Kd.z21_ (Kd.z21_ (Kd.z21_ (Kd.z21_ ho64 (Kd.R_lt (lR qB))) (Kd.R_lt (lR qE))) (Kd.R_lt (lR qF))) (Kd.R_lt (lR qH))) (Kd.R_lt (lR qT))) (Kd.R_lt (lR qa))) (z4_ (lB HB)))
          replace qB := aM (Kd.z17_ (lR qB) (Kd.R_base ho64) hb)
          replace qE := aM (Kd.z17_ (lR qE) (Kd.R_base ho64) hb)
          replace qF := aM (Kd.z17_ (lR qF) (Kd.R_base ho64) hb)
          replace qH := aM (Kd.z17_ (lR qH) (Kd.R_base ho64) hb)
          replace qT := aM (Kd.z17_ (lR qT) (Kd.R_base ho64) hb)
          replace qa := aM (Kd.z17_ (lR qa) (Kd.R_base ho64) hb)
          replace qG := aM (Kd.z8_ (by repeat (first | (with_reducible exact qG.out) | (with_reducible refine Kd.C_alloc ?_ _) | (with_reducible refine Kd.C_drewN ?_ _) | (with_reducible refine Kd.C_drew ?_) | exact qG.out)) hb)
          replace qK := aM (Kd.z8_ (by repeat (first | (with_reducible exact qK.out) | (with_reducible refine Kd.C_alloc ?_ _) | (with_reducible refine Kd.C_drewN ?_ _) | (with_reducible refine Kd.C_drew ?_) | exact qK.out)) hb)
          replace HB := aM (z6_ (lB HB) hb)
          clear hb ho64
          obtain ⟨jI, jJ, eo65⟩ := Kd.R_slice qr.out
          (first | subst eo65 | (injection eo65 with f1_ f2_ f3_; have f4_ := f1_.symm; have f5_ := f3_.symm; clear f1_ f2_ f3_; subst f4_; subst f5_))
          refine hK.out _ _ ⟨HS0_, HS1_⟩ (fun hHeld => ?_)
          clear hK K
          refine norm_ (a' := ?_) ?_ ?_
          rotate_left
          ·show Act.put _ (some 65) _ = _
           simp only [Act.put, List.setIfInBounds_toArray, List.set_cons_zero, List.set_cons_succ, i64_w, i32_w]
           rfl
          refine one_ (i := 38) (N := some 66) (bs 42 549755813887) rfl rfl (one_of HT_.out zk) (by decide) (fun K hK => ?_)
          refine goes_ Tryd.func15 zk rfl #[.slice jI y431.length jJ] (by rfl) rfl rfl zA ?_
          with_reducible refine (swagelaw21_ref.calls k _ _ y431 qI _ ?side1 ?side2 A21.out).mono ?_
          (case side1 => refine lY ?_; exact (Kd.z9_ qr.out).2.2)
          (case side2 => exact (Kd.z9_ qr.out).2.1)
          rintro e w66 ⟨v435, rfl, ho0, hb⟩
          have HS0_ := (hb.cell (World.block_lt_of_cell? _ _ (hHeld.1))).trans (hHeld.1)
          have HS1_ := (hb.cell (World.block_lt_of_cell? _ _ (hHeld.2))).trans (hHeld.2)
          refine ⟨_, rfl, ?_⟩
          replace qR := aM (Kd.V_elder' (lV qR) (Kd.N_base ho0) hb)
          replace qO := aM (Kd.V_elder' (lV qO) (Kd.N_base ho0) hb)
          replace qS := aM (Kd.V_elder' (lV qS) (Kd.N_base ho0) hb)
          have qt := aM (Kd.N_lower (Kd.N_mono (ok' := fun k_ => some k_ ≠ (.slice qb y378.length qc : Value).ownBlock ∧ some k_ ≠ (.slice qe qW.length qf : Value).ownBlock ∧ some k_ ≠ (.slice (some ad415) qA.length q3 : Value).ownBlock ∧ some k_ ≠ (.slice qg y390.length qh : Value).ownBlock ∧ some k_ ≠ (.slice qj y396.length qk : Value).ownBlock ∧ some k_ ≠ (.slice qn y402.length qo : Value).ownBlock ∧ some k_ ≠ (.slice qv y408.length qw : Value).ownBlock ∧ some k_ ≠ (.slice qx y416.length qy : Value).ownBlock ∧ some k_ ≠ (.slice q4 qP.length q5 : Value).ownBlock ∧ some k_ ≠ (.slice q6 y424.length q7 : Value).ownBlock ∧ some k_ ≠ (.slice jG qL.length jH : Value).ownBlock ∧ some k_ ≠ (.slice jI y431.length jJ : Value).ownBlock) ho0 (fun k_ hk_ => ⟨(Kd.fresh' (Kd.R_lt (lR qB)) k_ hk_), (Kd.fresh' (Kd.N_lt (lN qD)) k_ hk_), (Kd.fresh' (Kd.N_lt (lN qC)) k_ hk_), (Kd.fresh' (Kd.R_lt (lR qE)) k_ hk_), (Kd.fresh' (Kd.R_lt (lR qF)) k_ hk_), (Kd.fresh' (Kd.R_lt (lR qH)) k_ hk_), (Kd.fresh' (Kd.N_lt (lN qN)) k_ hk_), (Kd.fresh' (Kd.R_lt (lR qT)) k_ hk_), (Kd.fresh' (Kd.N_lt (lN qX)) k_ hk_), (Kd.fresh' (Kd.R_lt (lR qa)) k_ hk_), (Kd.fresh' (Kd.N_lt (lN ql)) k_ hk_), (Kd.fresh' (Kd.R_lt (lR qr)) k_ hk_)⟩)) (z4_ (lB HB)))
          replace qB := aM (Kd.z7_ (lR qB) hb)
          replace qD := aM (Kd.N_elder' (lN qD) (Kd.N_base ho0) hb)
          replace qC := aM (Kd.N_elder' (lN qC) (Kd.N_base ho0) hb)
          replace qE := aM (Kd.z7_ (lR qE) hb)
          replace qF := aM (Kd.z7_ (lR qF) hb)
          replace qH := aM (Kd.z7_ (lR qH) hb)
          replace qN := aM (Kd.N_elder' (lN qN) (Kd.N_base ho0) hb)
          replace qT := aM (Kd.z7_ (lR qT) hb)
          replace qX := aM (Kd.N_elder' (lN qX) (Kd.N_base ho0) hb)
          replace qa := aM (Kd.z7_ (lR qa) hb)
          replace ql := aM (Kd.N_elder' (lN ql) (Kd.N_base ho0) hb)
          replace qr := aM (Kd.z7_ (lR qr) hb)
          replace qG := aM (Kd.z8_ (by repeat (first | (with_reducible exact qG.out) | (with_reducible refine Kd.C_alloc ?_ _) | (with_reducible refine Kd.C_drewN ?_ _) | (with_reducible refine Kd.C_drew ?_) | exact qG.out)) hb)
          replace qK := aM (Kd.z8_ (by repeat (first | (with_reducible exact qK.out) | (with_reducible refine Kd.C_alloc ?_ _) | (with_reducible refine Kd.C_drewN ?_ _) | (with_reducible refine Kd.C_drew ?_) | exact qK.out)) hb)
          replace HB := aM (z6_ (lB HB) hb)
          (try clear hb)
          (try clear hb2)
          (try clear hk)
          (try clear hi)
          (try clear ho0)
          obtain ⟨jK, jL, eo67⟩ := Kd.V_slice qR.out
          (first | subst eo67 | (injection eo67 with f1_ f2_ f3_; have f4_ := f1_.symm; have f5_ := f3_.symm; clear f1_ f2_ f3_; subst f4_; subst f5_))
          obtain ⟨jM, jN, eo68⟩ := Kd.N_slice qt.out
          (first | subst eo68 | (injection eo68 with f1_ f2_ f3_; have f4_ := f1_.symm; have f5_ := f3_.symm; clear f1_ f2_ f3_; subst f4_; subst f5_))
          refine hK.out _ _ ⟨HS0_, HS1_⟩ (fun hHeld => ?_)
          clear hK K
          refine norm_ (a' := ?_) ?_ ?_
          rotate_left
          ·show Act.put _ (some 66) _ = _
           simp only [Act.put, List.setIfInBounds_toArray, List.set_cons_zero, List.set_cons_succ, i64_w, i32_w]
           rfl
          refine one_ (i := 39) (N := some 67) (bs 42 1099511627775) rfl rfl (one_of HT_.out zk) (by decide) (fun K hK => ?_)
          refine goes_ Tryd.func16 zk rfl #[.slice jK qp.length jL, .slice jM qI.length jN] (by rfl) rfl rfl zA ?_
          with_reducible refine (swagelaw21_is.calls k _ _ qp _ _ qI qJ _ ?side1 ?side2 ?side3 ?side4 A22.out).mono ?_
          (case side1 => refine lY ?_; exact (Kd.V_reads' qR.out).2.2)
          (case side2 => exact (Kd.V_reads' qR.out).2.1)
          (case side3 => refine lY ?_; exact (Kd.N_reads' qt.out).2.2)
          (case side4 => exact (Kd.N_reads' qt.out).2.1)
          rintro e w69 ⟨rfl, hb⟩
          have HS0_ := (hb.cell (World.block_lt_of_cell? _ _ (hHeld.1))).trans (hHeld.1)
          have HS1_ := (hb.cell (World.block_lt_of_cell? _ _ (hHeld.2))).trans (hHeld.2)
          refine ⟨_, rfl, ?_⟩
          replace qB := aM (Kd.z7_ (lR qB) hb)
          replace qD := aM (Kd.N_below (lN qD) hb)
          replace qC := aM (Kd.N_below (lN qC) hb)
          replace qE := aM (Kd.z7_ (lR qE) hb)
          replace qF := aM (Kd.z7_ (lR qF) hb)
          replace qH := aM (Kd.z7_ (lR qH) hb)
          replace qN := aM (Kd.N_below (lN qN) hb)
          replace qR := aM (Kd.V_below (lV qR) hb)
          replace qO := aM (Kd.V_below (lV qO) hb)
          replace qT := aM (Kd.z7_ (lR qT) hb)
          replace qX := aM (Kd.N_below (lN qX) hb)
          replace qS := aM (Kd.V_below (lV qS) hb)
          replace qa := aM (Kd.z7_ (lR qa) hb)
          replace ql := aM (Kd.N_below (lN ql) hb)
          replace qr := aM (Kd.z7_ (lR qr) hb)
          replace qt := aM (Kd.N_below (lN qt) hb)
          replace qG := aM (Kd.z8_ (by repeat (first | (with_reducible exact qG.out) | (with_reducible refine Kd.C_alloc ?_ _) | (with_reducible refine Kd.C_drewN ?_ _) | (with_reducible refine Kd.C_drew ?_) | exact qG.out)) hb)
          replace qK := aM (Kd.z8_ (by repeat (first | (with_reducible exact qK.out) | (with_reducible refine Kd.C_alloc ?_ _) | (with_reducible refine Kd.C_drewN ?_ _) | (with_reducible refine Kd.C_drew ?_) | exact qK.out)) hb)
          replace HB := aM (z6_ (lB HB) hb)
          (try clear hb)
          (try clear hb2)
          (try clear hk)
          (try clear hi)
          refine hK.out _ _ ⟨HS0_, HS1_⟩ (fun hHeld => ?_)
          clear hK K
          refine norm_ (a' := ?_) ?_ ?_
          rotate_left
          ·show Act.put _ (some 67) _ = _
           simp only [Act.put, List.setIfInBounds_toArray, List.set_cons_zero, List.set_cons_succ, i64_w, i32_w]
           rfl
          refine pQ 40 68 42 2199023255551 ?_
          refine pQ 41 0 42 4398046511103 ?_
          refine done_ (done_of HT_.out zk) ?_
          try go_wp2
          go_ret
          exact ⟨zE, zB HB⟩
         ·rw [if_neg c20] at H
          have c20b0 : (qZ == 3) = false := beq_eq_false_iff_ne.mpr c20
          have c20b1 : (qZ != 3) = true := bne_iff_ne.mpr c20
          obtain rfl := Option.some.inj H
          exact absurd hT.out (by simp)
        ·replace c19 := Bool.eq_false_iff.mpr c19
         subst c19
         have H1 : (some false) = some r := by rw [if_neg (show ¬ (false = true) by decide)] at H; exact H
         clear H
         have H := H1
         clear H1
         obtain rfl := Option.some.inj H
         exact absurd hT.out (by simp)
       ·rw [if_neg c16] at H
        exact absurd H (by simp)
      ·replace c15 := Bool.eq_false_iff.mpr c15
       subst c15
       have H1 : (some false) = some r := by rw [if_neg (show ¬ (false = true) by decide)] at H; exact H
       clear H
       have H := H1
       clear H1
       obtain rfl := Option.some.inj H
       exact absurd hT.out (by simp)
     ·rw [if_neg c12] at H
      exact absurd H (by simp)
    ·rw [if_neg c11] at H
     have c11b0 : ((qA.length : Int) == 2) = false := beq_eq_false_iff_ne.mpr c11
     have c11b1 : ((qA.length : Int) != 2) = true := bne_iff_ne.mpr c11
     obtain rfl := Option.some.inj H
     exact absurd hT.out (by simp)
   ·rw [if_neg c10] at H
    have c10b0 : (qs == 0) = false := beq_eq_false_iff_ne.mpr c10
    have c10b1 : (qs != 0) = true := bne_iff_ne.mpr c10
    obtain rfl := Option.some.inj H
    exact absurd hT.out (by simp)
  ·rw [if_neg c9] at H
   have c9b0 : (qm == 0) = false := beq_eq_false_iff_ne.mpr c9
   have c9b1 : (qm != 0) = true := bne_iff_ne.mpr c9
   obtain rfl := Option.some.inj H
   exact absurd hT.out (by simp)
 ·rw [if_neg c8] at H
  have c8b0 : (qi == 0) = false := beq_eq_false_iff_ne.mpr c8
  have c8b1 : (qi != 0) = true := bne_iff_ne.mpr c8
  obtain rfl := Option.some.inj H
  exact absurd hT.out (by simp)
end Go.Proofs.YtakmkhokbcjapaaDoor.XA
end
